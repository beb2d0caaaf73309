/- calc: the text of a term. -/
import Derived.Test.YtogcmkphibegbaaGreatDoorCla
import Derived.Test.YtogcmkphibegbaaGreatDoorJoi
import Derived.Test.YtogcmkphibegbaaGreatDoorQdb
import Derived.Test.YtogcmkphibegbaaGreatDoorMtp
namespace Go.Proofs.YtogcmkphibegbaaGreatDoor.Cl
open Go Go.Eng Go.RowKit Go.Shelf Go.Proofs Bld Trm Css Tk Dm Jo Co
set_option maxHeartbeats 4000000
set_option maxRecDepth 100000
set_option linter.unusedSimpArgs false
set_option linter.unusedVariables false
def shpV0 (xt : Tree (Int × Int × Bs)) : Bool :=
 ((xt.lab.1 == 2) || ((xt.lab.1 == 3) || ((xt.lab.1 == 4) || (xt.lab.1 == 5))))
def shpj33 (xt : Tree (Int × Int × Bs)) (K : Bool → Prop) : Prop :=
 ((((xt.lab.1 == 6) || (xt.lab.1 == 7))) = true → K (decide ((xt.kids.length : Int) > 0))) ∧ ((((xt.lab.1 == 6) || (xt.lab.1 == 7))) = false → (((xt.lab.1 == 8)) = true → K ((xt.kids.length : Int) == 3)) ∧ (((xt.lab.1 == 8)) = false → K false))
def shpj15 (xt : Tree (Int × Int × Bs)) (K : Bool → Prop) : Prop :=
 (((shpV0 xt)) = true → K ((xt.kids.length : Int) == 2)) ∧ (((shpV0 xt)) = false → (((xt.lab.1 == 6)) = true → shpj33 xt K) ∧ (((xt.lab.1 == 6)) = false → shpj33 xt K))
def shpF (xt : Tree (Int × Int × Bs)) (K : Bool → Prop) : Prop :=
 (((xt.lab.1 == 1)) = true → K ((xt.kids.length : Int) == 0)) ∧ (((xt.lab.1 == 1)) = false → (((xt.lab.1 == 2)) = true → shpj15 xt K) ∧ (((xt.lab.1 == 2)) = false → (((xt.lab.1 == 3)) = true → shpj15 xt K) ∧ (((xt.lab.1 == 3)) = false → (((xt.lab.1 == 4)) = true → shpj15 xt K) ∧ (((xt.lab.1 == 4)) = false → shpj15 xt K))))
theorem shp_ok {g : Ghost} {axt_0 : Option Addr} {cxt_0 : Nat} (xt : Tree (Int × Int × Bs)) (hRxt_0 : Rep g (.slice (.tree (.pair (.int .i64) (.pair (.int .i64) (.str))))) [.slice axt_0 xt.kids.length cxt_0] xt.kids) (K : Bool → Prop)
  (hF : shpF xt K) : CallsH Tryz.prog 20 #[.agg #[.int .i64 xt.lab.1, .int .i64 xt.lab.2.1, sv xt.lab.2.2, .slice axt_0 xt.kids.length cxt_0]] g [] (fun g' H' v => ∃ (r0 : Bool), v = .bool r0 ∧ H' = [] ∧ K r0) := by
 refine CallsH.enter 29 [(0, .agg #[.int .i64 xt.lab.1, .int .i64 xt.lab.2.1, sv xt.lab.2.2, .slice axt_0 xt.kids.length cxt_0])] Tryz.func20 rfl (by kernel_rfl) (by kernel_rfl) (by kernel_rfl) fun w0 => ?_
 refine Ok.seq (Ok.region (Ok.op rfl (OpOk.box (v := .agg #[.int .i64 xt.lab.1, .int .i64 xt.lab.2.1, sv xt.lab.2.2, .slice axt_0 xt.kids.length cxt_0]) (cs := #[.int .i64 xt.lab.1, .int .i64 xt.lab.2.1, sv xt.lab.2.2, .slice axt_0 xt.kids.length cxt_0]) rfl (by kernel_rfl) rfl fun bs1 => ?_)))
 refine Ok.batch 1 [(1, pv bs1 0)] (by kernel_rfl) (Ok.nil (Ok.thenN (Ok.seq (Ok.region (Ok.bat 1 [1] [(4, pv bs1 3)] ?_)))))
 refine Ok.op rfl (OpOk.step (v := .slice axt_0 xt.kids.length cxt_0) (Yields.load 0 rfl rfl Tryz.underlying24 rfl (by kernel_rfl)) rfl rfl (Ok.bat 2 [1] [(3, .int .i64 (xt.kids.length : Int))] ?_))
 refine Ok.nil (Ok.thenN (Ok.seq (Ok.seq (Ok.region (Ok.bat 1 [3] [(7, pv bs1 0)] ?_)))))
 refine Ok.op rfl (OpOk.step (v := .int .i64 xt.lab.1) (Yields.load 0 rfl rfl Tryz.underlying3 rfl (by kernel_rfl)) rfl rfl (Ok.nil (Ok.thenN (Ok.block (Ok.seq (Ok.region (Ok.bat 2 [3] [(8, .int .i64 xt.lab.1), (9, .bool (xt.lab.1 == 1))] ?_)))))))
 refine Ok.nil (Ok.thenN (Ok.cond (b := (xt.lab.1 == 1)) rfl (fun hc2 => ?_) (fun hc2 => ?_)))
 ·replace hF := hF.1 hc2
  refine Ok.seq (Ok.region (Ok.batch 3 [(2, .bool ((xt.kids.length : Int) == 0))] (by kernel_rfl) (Ok.nil (Ok.thenN (Ok.ret (Ok.blockR (Ok.thenR ?_)))))))
  exact Ok.resP (vs := [.bool ((xt.kids.length : Int) == 0)]) [] [] (by decide) rfl (.inl rfl) rfl (.cons (.tmp rfl) .nil) (Gext.refl w0 g) ⟨((xt.kids.length : Int) == 0), rfl, rfl, hF⟩
 ·replace hF := hF.2 hc2
  refine Ok.cut (fun a W => StA 29 [(3, .int .i64 (xt.kids.length : Int)), (8, .int .i64 xt.lab.1), (13, .bool (shpV0 xt))] a ∧ StW w0 [] g W ∧ shpj15 xt K) ?_ ?_
  ·
   refine Ok.seq (Ok.region (Ok.bat 2 [3, 8] [(13, .bool (xt.lab.1 == 2))] ?_))
   refine Ok.nil (Ok.thenN (Ok.cond (b := (xt.lab.1 == 2)) rfl (fun hc7 => ?_) (fun hc7 => ?_)))
   ·replace hF := hF.1 hc7
    refine Ok.skip (Ok.thenN (Ok.reval 13 rfl (show (.bool (xt.lab.1 == 2) : Value) = .bool (shpV0 xt) from congrArg (Value.bool) ((Eq.trans (hc7) (mor_t hc7)))) ?_))
    exact fun a W hA hW => ⟨hA.sub (by kernel_rfl), hW.sub (.cons _ .slnil), hF⟩
   ·replace hF := hF.2 hc7
    refine Ok.seq (Ok.region (Ok.bat 2 [3, 8] [(13, .bool (xt.lab.1 == 3))] ?_))
    refine Ok.nil (Ok.thenN (Ok.cond (b := (xt.lab.1 == 3)) rfl (fun hc8 => ?_) (fun hc8 => ?_)))
    ·replace hF := hF.1 hc8
     refine Ok.skip (Ok.thenN (Ok.reval 13 rfl (show (.bool (xt.lab.1 == 3) : Value) = .bool (shpV0 xt) from congrArg (Value.bool) ((Eq.trans ((Eq.trans (hc8) (mor_t hc8))) (mor_f hc7)))) ?_))
     exact fun a W hA hW => ⟨hA.sub (by kernel_rfl), hW.sub (.cons _ .slnil), hF⟩
    ·replace hF := hF.2 hc8
     refine Ok.seq (Ok.region (Ok.bat 2 [3, 8] [(13, .bool (xt.lab.1 == 4))] ?_))
     refine Ok.nil (Ok.thenN (Ok.cond (b := (xt.lab.1 == 4)) rfl (fun hc9 => ?_) (fun hc9 => ?_)))
     ·replace hF := hF.1 hc9
      refine Ok.skip (Ok.thenN (Ok.reval 13 rfl (show (.bool (xt.lab.1 == 4) : Value) = .bool (shpV0 xt) from congrArg (Value.bool) ((Eq.trans ((Eq.trans ((Eq.trans (hc9) (mor_t hc9))) (mor_f hc8))) (mor_f hc7)))) ?_))
      exact fun a W hA hW => ⟨hA.sub (by kernel_rfl), hW.sub (.cons _ .slnil), hF⟩
     ·replace hF := hF.2 hc9
      refine Ok.region (Ok.bat 2 [3, 8] [(13, .bool (xt.lab.1 == 5))] ?_)
      refine Ok.nil (Ok.thenN (Ok.reval 13 rfl (show (.bool (xt.lab.1 == 5) : Value) = .bool (shpV0 xt) from congrArg (Value.bool) ((Eq.trans ((Eq.trans (mor_f hc9) (mor_f hc8))) (mor_f hc7)))) ?_))
      exact fun a W hA hW => ⟨hA.sub (by kernel_rfl), hW.sub (.cons _ .slnil), hF⟩
  ·
   clear hF
   rintro a W ⟨hA, hW, hF⟩
   refine (?_ : Ok _ _ _ _ _ _) a W hA hW
   clear hA hW
   refine Ok.cond (b := (shpV0 xt)) rfl (fun hc3 => ?_) (fun hc3 => ?_)
   ·replace hF := hF.1 hc3
    refine Ok.seq (Ok.region (Ok.batch 3 [(2, .bool ((xt.kids.length : Int) == 2))] (by kernel_rfl) (Ok.nil (Ok.thenN (Ok.ret (Ok.blockR (Ok.thenR ?_)))))))
    exact Ok.resH (vs := [.bool ((xt.kids.length : Int) == 2)]) (.inl rfl) rfl (.cons (.tmp rfl) .nil) (Gext.refl w0 g) ⟨((xt.kids.length : Int) == 2), rfl, rfl, hF⟩
   ·replace hF := hF.2 hc3
    refine Ok.cut (fun a W => StA 29 [(3, .int .i64 (xt.kids.length : Int)), (8, .int .i64 xt.lab.1), (20, .bool ((xt.lab.1 == 6) || (xt.lab.1 == 7)))] a ∧ StW w0 [] g W ∧ shpj33 xt K) ?_ ?_
    ·
     refine Ok.seq (Ok.region (Ok.bat 2 [3, 8] [(20, .bool (xt.lab.1 == 6))] ?_))
     refine Ok.nil (Ok.thenN (Ok.cond (b := (xt.lab.1 == 6)) rfl (fun hc6 => ?_) (fun hc6 => ?_)))
     ·replace hF := hF.1 hc6
      refine Ok.skip (Ok.thenN (Ok.reval 20 rfl (show (.bool (xt.lab.1 == 6) : Value) = .bool ((xt.lab.1 == 6) || (xt.lab.1 == 7)) from congrArg (Value.bool) ((Eq.trans (hc6) (mor_t hc6)))) ?_))
      exact fun a W hA hW => ⟨hA.sub (by kernel_rfl), hW, hF⟩
     ·replace hF := hF.2 hc6
      refine Ok.region (Ok.bat 2 [3, 8] [(20, .bool (xt.lab.1 == 7))] ?_)
      refine Ok.nil (Ok.thenN (Ok.reval 20 rfl (show (.bool (xt.lab.1 == 7) : Value) = .bool ((xt.lab.1 == 6) || (xt.lab.1 == 7)) from congrArg (Value.bool) (mor_f hc6)) ?_))
      exact fun a W hA hW => ⟨hA.sub (by kernel_rfl), hW, hF⟩
    ·
     clear hF
     rintro a W ⟨hA, hW, hF⟩
     refine (?_ : Ok _ _ _ _ _ _) a W hA hW
     clear hA hW
     refine Ok.cond (b := ((xt.lab.1 == 6) || (xt.lab.1 == 7))) rfl (fun hc4 => ?_) (fun hc4 => ?_)
     ·replace hF := hF.1 hc4
      refine Ok.seq (Ok.region (Ok.batch 3 [(2, .bool (decide ((xt.kids.length : Int) > 0)))] (by kernel_rfl) (Ok.nil (Ok.thenN (Ok.ret (Ok.blockR (Ok.thenR ?_)))))))
      exact Ok.resH (vs := [.bool (decide ((xt.kids.length : Int) > 0))]) (.inl rfl) rfl (.cons (.tmp rfl) .nil) (Gext.refl w0 g) ⟨(decide ((xt.kids.length : Int) > 0)), rfl, rfl, hF⟩
     ·replace hF := hF.2 hc4
      refine Ok.seq (Ok.region (Ok.bat 2 [3] [(25, .bool (xt.lab.1 == 8))] ?_))
      refine Ok.nil (Ok.thenN (Ok.cond (b := (xt.lab.1 == 8)) rfl (fun hc5 => ?_) (fun hc5 => ?_)))
      ·replace hF := hF.1 hc5
       refine Ok.seq (Ok.region (Ok.batch 3 [(2, .bool ((xt.kids.length : Int) == 3))] (by kernel_rfl) (Ok.nil (Ok.thenN (Ok.ret (Ok.blockR (Ok.thenR ?_)))))))
       exact Ok.resH (vs := [.bool ((xt.kids.length : Int) == 3)]) (.inl rfl) rfl (.cons (.tmp rfl) .nil) (Gext.refl w0 g) ⟨((xt.kids.length : Int) == 3), rfl, rfl, hF⟩
      ·replace hF := hF.2 hc5
       refine Ok.skip (Ok.blockN (Ok.thenN (Ok.seq (Ok.region (Ok.batch 1 [(2, .bool false)] (by kernel_rfl) (Ok.nil (Ok.thenN (Ok.ret ?_))))))))
       exact Ok.resH (vs := [.bool false]) (.inl rfl) rfl (.cons (.tmp rfl) .nil) (Gext.refl w0 g) ⟨false, rfl, rfl, hF⟩
def shpj33M (xt : Tree (Int × Int × Bs)) : Bool := (if ((xt.lab.1 == 6) || (xt.lab.1 == 7)) = true then (decide ((xt.kids.length : Int) > 0)) else (if (xt.lab.1 == 8) = true then ((xt.kids.length : Int) == 3) else false))
theorem shpj33_A (xt : Tree (Int × Int × Bs)) (P : Bool → Prop) (h : P (shpj33M xt)) : shpj33 xt (fun k0 => P k0) := by
 unfold shpj33M at h
 unfold shpj33
 refine ⟨fun hc0 => ?_, fun hc0 => ?_⟩
 ·rw [if_t hc0] at h
  have hd0 := hc0; try simp only [Bool.and_eq_true, Bool.or_eq_true, Bool.and_eq_false_iff, Bool.or_eq_false_iff, Bool.not_eq_true', Bool.not_eq_false', decide_eq_true_eq, decide_eq_false_iff_not, beq_iff_eq, beq_eq_false_iff_ne, ne_eq] at hd0
  exact h
 ·rw [if_f hc0] at h
  have hd0 := hc0; try simp only [Bool.and_eq_true, Bool.or_eq_true, Bool.and_eq_false_iff, Bool.or_eq_false_iff, Bool.not_eq_true', Bool.not_eq_false', decide_eq_true_eq, decide_eq_false_iff_not, beq_iff_eq, beq_eq_false_iff_ne, ne_eq] at hd0
  refine ⟨fun hc1 => ?_, fun hc1 => ?_⟩
  ·rw [if_t hc1] at h
   have hd1 := hc1; try simp only [Bool.and_eq_true, Bool.or_eq_true, Bool.and_eq_false_iff, Bool.or_eq_false_iff, Bool.not_eq_true', Bool.not_eq_false', decide_eq_true_eq, decide_eq_false_iff_not, beq_iff_eq, beq_eq_false_iff_ne, ne_eq] at hd1
   exact h
  ·rw [if_f hc1] at h
   have hd1 := hc1; try simp only [Bool.and_eq_true, Bool.or_eq_true, Bool.and_eq_false_iff, Bool.or_eq_false_iff, Bool.not_eq_true', Bool.not_eq_false', decide_eq_true_eq, decide_eq_false_iff_not, beq_iff_eq, beq_eq_false_iff_ne, ne_eq] at hd1
   exact h
def shpj15M (xt : Tree (Int × Int × Bs)) : Bool := (if (shpV0 xt) = true then ((xt.kids.length : Int) == 2) else (shpj33M xt))
theorem shpj15_A (xt : Tree (Int × Int × Bs)) (P : Bool → Prop) (h : P (shpj15M xt)) : shpj15 xt (fun k0 => P k0) := by
 unfold shpj15M at h
 unfold shpj15
 refine ⟨fun hc0 => ?_, fun hc0 => ?_⟩
 ·rw [if_t hc0] at h
  exact h
 ·rw [if_f hc0] at h
  refine ⟨fun hc1 => ?_, fun hc1 => ?_⟩
  ·skip
   have hd1 := hc1; try simp only [Bool.and_eq_true, Bool.or_eq_true, Bool.and_eq_false_iff, Bool.or_eq_false_iff, Bool.not_eq_true', Bool.not_eq_false', decide_eq_true_eq, decide_eq_false_iff_not, beq_iff_eq, beq_eq_false_iff_ne, ne_eq] at hd1
   exact shpj33_A xt _ h
  ·skip
   have hd1 := hc1; try simp only [Bool.and_eq_true, Bool.or_eq_true, Bool.and_eq_false_iff, Bool.or_eq_false_iff, Bool.not_eq_true', Bool.not_eq_false', decide_eq_true_eq, decide_eq_false_iff_not, beq_iff_eq, beq_eq_false_iff_ne, ne_eq] at hd1
   exact shpj33_A xt _ h
def shpM (xt : Tree (Int × Int × Bs)) : Bool := (if (xt.lab.1 == 1) = true then ((xt.kids.length : Int) == 0) else (shpj15M xt))
theorem shpF_A (xt : Tree (Int × Int × Bs)) (P : Bool → Prop) (h : P (shpM xt)) : shpF xt (fun k0 => P k0) := by
 unfold shpM at h
 unfold shpF
 refine ⟨fun hc0 => ?_, fun hc0 => ?_⟩
 ·rw [if_t hc0] at h
  have hd0 := hc0; try simp only [Bool.and_eq_true, Bool.or_eq_true, Bool.and_eq_false_iff, Bool.or_eq_false_iff, Bool.not_eq_true', Bool.not_eq_false', decide_eq_true_eq, decide_eq_false_iff_not, beq_iff_eq, beq_eq_false_iff_ne, ne_eq] at hd0
  exact h
 ·rw [if_f hc0] at h
  have hd0 := hc0; try simp only [Bool.and_eq_true, Bool.or_eq_true, Bool.and_eq_false_iff, Bool.or_eq_false_iff, Bool.not_eq_true', Bool.not_eq_false', decide_eq_true_eq, decide_eq_false_iff_not, beq_iff_eq, beq_eq_false_iff_ne, ne_eq] at hd0
  refine ⟨fun hc1 => ?_, fun hc1 => ?_⟩
  ·skip
   have hd1 := hc1; try simp only [Bool.and_eq_true, Bool.or_eq_true, Bool.and_eq_false_iff, Bool.or_eq_false_iff, Bool.not_eq_true', Bool.not_eq_false', decide_eq_true_eq, decide_eq_false_iff_not, beq_iff_eq, beq_eq_false_iff_ne, ne_eq] at hd1
   exact shpj15_A xt _ h
  ·skip
   have hd1 := hc1; try simp only [Bool.and_eq_true, Bool.or_eq_true, Bool.and_eq_false_iff, Bool.or_eq_false_iff, Bool.not_eq_true', Bool.not_eq_false', decide_eq_true_eq, decide_eq_false_iff_not, beq_iff_eq, beq_eq_false_iff_ne, ne_eq] at hd1
   refine ⟨fun hc2 => ?_, fun hc2 => ?_⟩
   ·skip
    have hd2 := hc2; try simp only [Bool.and_eq_true, Bool.or_eq_true, Bool.and_eq_false_iff, Bool.or_eq_false_iff, Bool.not_eq_true', Bool.not_eq_false', decide_eq_true_eq, decide_eq_false_iff_not, beq_iff_eq, beq_eq_false_iff_ne, ne_eq] at hd2
    exact shpj15_A xt _ h
   ·skip
    have hd2 := hc2; try simp only [Bool.and_eq_true, Bool.or_eq_true, Bool.and_eq_false_iff, Bool.or_eq_false_iff, Bool.not_eq_true', Bool.not_eq_false', decide_eq_true_eq, decide_eq_false_iff_not, beq_iff_eq, beq_eq_false_iff_ne, ne_eq] at hd2
    refine ⟨fun hc3 => ?_, fun hc3 => ?_⟩
    ·skip
     have hd3 := hc3; try simp only [Bool.and_eq_true, Bool.or_eq_true, Bool.and_eq_false_iff, Bool.or_eq_false_iff, Bool.not_eq_true', Bool.not_eq_false', decide_eq_true_eq, decide_eq_false_iff_not, beq_iff_eq, beq_eq_false_iff_ne, ne_eq] at hd3
     exact shpj15_A xt _ h
    ·skip
     have hd3 := hc3; try simp only [Bool.and_eq_true, Bool.or_eq_true, Bool.and_eq_false_iff, Bool.or_eq_false_iff, Bool.not_eq_true', Bool.not_eq_false', decide_eq_true_eq, decide_eq_false_iff_not, beq_iff_eq, beq_eq_false_iff_ne, ne_eq] at hd3
     exact shpj15_A xt _ h
theorem shp_F (xt : Tree (Int × Int × Bs)) : shpF xt (fun k0 => k0 = shpM xt) :=
 shpF_A xt (fun z => z = shpM xt) rfl
theorem shp_c {g : Ghost} {axt_0 : Option Addr} {cxt_0 : Nat} (xt : Tree (Int × Int × Bs)) (hRxt_0 : Rep g (.slice (.tree (.pair (.int .i64) (.pair (.int .i64) (.str))))) [.slice axt_0 xt.kids.length cxt_0] xt.kids)  : CallsG Tryz.prog 20 #[.agg #[.int .i64 xt.lab.1, .int .i64 xt.lab.2.1, sv xt.lab.2.2, .slice axt_0 xt.kids.length cxt_0]] g (.bool (shpM xt)) :=
 (shp_ok xt hRxt_0 _ (shp_F xt)).gives (by rintro g' H' v _ ⟨r0, rfl, rfl, hK⟩; subst hK; rfl)
def wrdF (xkind : Int) (K : Bs → Prop) : Prop :=
 (((xkind == 6)) = true → K ([109, 105, 110] : Bs)) ∧ (((xkind == 6)) = false → (((xkind == 7)) = true → K ([109, 97, 120] : Bs)) ∧ (((xkind == 7)) = false → (((xkind == 8)) = true → K ([99, 108, 97, 109, 112] : Bs)) ∧ (((xkind == 8)) = false → K ([] : Bs))))
theorem wrd_ok {g : Ghost} (xkind : Int) (K : Bs → Prop)
  (hF : wrdF xkind K) : CallsH Tryz.prog 22 #[.int .i64 xkind] g [] (fun g' H' v => ∃ (r0 : Bs), v = sv r0 ∧ H' = [] ∧ K r0) := by
 refine CallsH.enter 10 [(0, .int .i64 xkind)] Tryz.func22 rfl (by kernel_rfl) (by kernel_rfl) (by kernel_rfl) fun w0 => ?_
 refine Ok.seq (Ok.region (Ok.batch 1 [(0, .int .i64 xkind)] (by kernel_rfl) (Ok.nil (Ok.thenN (Ok.seq (Ok.seq (Ok.region (Ok.batch 1 [(3, .int .i64 xkind)] (by kernel_rfl) (Ok.nil (Ok.thenN (Ok.block (Ok.seq (Ok.region (Ok.bat 2 [3] [(4, .bool (xkind == 6))] ?_))))))))))))))
 refine Ok.nil (Ok.thenN (Ok.cond (b := (xkind == 6)) rfl (fun hc1 => ?_) (fun hc1 => ?_)))
 ·replace hF := hF.1 hc1
  refine Ok.seq (Ok.region (Ok.batch 1 [(2, sv ([109, 105, 110] : Bs))] (by kernel_rfl) (Ok.nil (Ok.thenN (Ok.ret (Ok.blockR (Ok.thenR ?_)))))))
  exact Ok.resH (vs := [sv ([109, 105, 110] : Bs)]) (.inl rfl) rfl (.cons (.tmp rfl) .nil) (Gext.refl w0 g) ⟨([109, 105, 110] : Bs), rfl, rfl, hF⟩
 ·replace hF := hF.2 hc1
  refine Ok.seq (Ok.region (Ok.bat 2 [3] [(6, .bool (xkind == 7))] ?_))
  refine Ok.nil (Ok.thenN (Ok.cond (b := (xkind == 7)) rfl (fun hc2 => ?_) (fun hc2 => ?_)))
  ·replace hF := hF.1 hc2
   refine Ok.seq (Ok.region (Ok.batch 1 [(2, sv ([109, 97, 120] : Bs))] (by kernel_rfl) (Ok.nil (Ok.thenN (Ok.ret (Ok.blockR (Ok.thenR ?_)))))))
   exact Ok.resH (vs := [sv ([109, 97, 120] : Bs)]) (.inl rfl) rfl (.cons (.tmp rfl) .nil) (Gext.refl w0 g) ⟨([109, 97, 120] : Bs), rfl, rfl, hF⟩
  ·replace hF := hF.2 hc2
   refine Ok.seq (Ok.region (Ok.batch 2 [(8, .bool (xkind == 8))] (by kernel_rfl) (Ok.nil (Ok.thenN (Ok.cond (b := (xkind == 8)) rfl (fun hc3 => ?_) (fun hc3 => ?_))))))
   ·replace hF := hF.1 hc3
    refine Ok.seq (Ok.region (Ok.batch 1 [(2, sv ([99, 108, 97, 109, 112] : Bs))] (by kernel_rfl) (Ok.nil (Ok.thenN (Ok.ret (Ok.blockR (Ok.thenR ?_)))))))
    exact Ok.resH (vs := [sv ([99, 108, 97, 109, 112] : Bs)]) (.inl rfl) rfl (.cons (.tmp rfl) .nil) (Gext.refl w0 g) ⟨([99, 108, 97, 109, 112] : Bs), rfl, rfl, hF⟩
   ·replace hF := hF.2 hc3
    refine Ok.skip (Ok.blockN (Ok.thenN (Ok.seq (Ok.region (Ok.batch 1 [(2, sv ([] : Bs))] (by kernel_rfl) (Ok.nil (Ok.thenN (Ok.ret ?_))))))))
    exact Ok.resH (vs := [sv ([] : Bs)]) (.inl rfl) rfl (.cons (.tmp rfl) .nil) (Gext.refl w0 g) ⟨([] : Bs), rfl, rfl, hF⟩
def wrdM (xkind : Int) : Bs := (if (xkind == 6) = true then ([109, 105, 110] : Bs) else (if (xkind == 7) = true then ([109, 97, 120] : Bs) else (if (xkind == 8) = true then ([99, 108, 97, 109, 112] : Bs) else ([] : Bs))))
theorem wrdF_A (xkind : Int) (P : Bs → Prop) (h : P (wrdM xkind)) : wrdF xkind (fun k0 => P k0) := by
 unfold wrdM at h
 unfold wrdF
 refine ⟨fun hc0 => ?_, fun hc0 => ?_⟩
 ·rw [if_t hc0] at h
  have hd0 := hc0; try simp only [Bool.and_eq_true, Bool.or_eq_true, Bool.and_eq_false_iff, Bool.or_eq_false_iff, Bool.not_eq_true', Bool.not_eq_false', decide_eq_true_eq, decide_eq_false_iff_not, beq_iff_eq, beq_eq_false_iff_ne, ne_eq] at hd0
  exact h
 ·rw [if_f hc0] at h
  have hd0 := hc0; try simp only [Bool.and_eq_true, Bool.or_eq_true, Bool.and_eq_false_iff, Bool.or_eq_false_iff, Bool.not_eq_true', Bool.not_eq_false', decide_eq_true_eq, decide_eq_false_iff_not, beq_iff_eq, beq_eq_false_iff_ne, ne_eq] at hd0
  refine ⟨fun hc1 => ?_, fun hc1 => ?_⟩
  ·rw [if_t hc1] at h
   have hd1 := hc1; try simp only [Bool.and_eq_true, Bool.or_eq_true, Bool.and_eq_false_iff, Bool.or_eq_false_iff, Bool.not_eq_true', Bool.not_eq_false', decide_eq_true_eq, decide_eq_false_iff_not, beq_iff_eq, beq_eq_false_iff_ne, ne_eq] at hd1
   exact h
  ·rw [if_f hc1] at h
   have hd1 := hc1; try simp only [Bool.and_eq_true, Bool.or_eq_true, Bool.and_eq_false_iff, Bool.or_eq_false_iff, Bool.not_eq_true', Bool.not_eq_false', decide_eq_true_eq, decide_eq_false_iff_not, beq_iff_eq, beq_eq_false_iff_ne, ne_eq] at hd1
   refine ⟨fun hc2 => ?_, fun hc2 => ?_⟩
   ·rw [if_t hc2] at h
    have hd2 := hc2; try simp only [Bool.and_eq_true, Bool.or_eq_true, Bool.and_eq_false_iff, Bool.or_eq_false_iff, Bool.not_eq_true', Bool.not_eq_false', decide_eq_true_eq, decide_eq_false_iff_not, beq_iff_eq, beq_eq_false_iff_ne, ne_eq] at hd2
    exact h
   ·rw [if_f hc2] at h
    have hd2 := hc2; try simp only [Bool.and_eq_true, Bool.or_eq_true, Bool.and_eq_false_iff, Bool.or_eq_false_iff, Bool.not_eq_true', Bool.not_eq_false', decide_eq_true_eq, decide_eq_false_iff_not, beq_iff_eq, beq_eq_false_iff_ne, ne_eq] at hd2
    exact h
theorem wrd_F (xkind : Int) : wrdF xkind (fun k0 => k0 = wrdM xkind) :=
 wrdF_A xkind (fun z => z = wrdM xkind) rfl
theorem wrd_c {g : Ghost} (xkind : Int)  : CallsG Tryz.prog 22 #[.int .i64 xkind] g (sv (wrdM xkind)) :=
 (wrd_ok xkind _ (wrd_F xkind)).gives (by rintro g' H' v _ ⟨r0, rfl, rfl, hK⟩; subst hK; rfl)
def sgnF (xkind : Int) (K : Bs → Prop) : Prop :=
 (((xkind == 2)) = true → K ([32, 43, 32] : Bs)) ∧ (((xkind == 2)) = false → (((xkind == 3)) = true → K ([32, 45, 32] : Bs)) ∧ (((xkind == 3)) = false → (((xkind == 4)) = true → K ([32, 42, 32] : Bs)) ∧ (((xkind == 4)) = false → (((xkind == 5)) = true → K ([32, 47, 32] : Bs)) ∧ (((xkind == 5)) = false → K ([44, 32] : Bs)))))
theorem sgn_ok {g : Ghost} (xkind : Int) (K : Bs → Prop)
  (hF : sgnF xkind K) : CallsH Tryz.prog 24 #[.int .i64 xkind] g [] (fun g' H' v => ∃ (r0 : Bs), v = sv r0 ∧ H' = [] ∧ K r0) := by
 refine CallsH.enter 12 [(0, .int .i64 xkind)] Tryz.func24 rfl (by kernel_rfl) (by kernel_rfl) (by kernel_rfl) fun w0 => ?_
 refine Ok.seq (Ok.region (Ok.batch 1 [(0, .int .i64 xkind)] (by kernel_rfl) (Ok.nil (Ok.thenN (Ok.seq (Ok.seq (Ok.region (Ok.batch 1 [(3, .int .i64 xkind)] (by kernel_rfl) (Ok.nil (Ok.thenN (Ok.block (Ok.seq (Ok.region (Ok.bat 2 [3] [(4, .bool (xkind == 2))] ?_))))))))))))))
 refine Ok.nil (Ok.thenN (Ok.cond (b := (xkind == 2)) rfl (fun hc1 => ?_) (fun hc1 => ?_)))
 ·replace hF := hF.1 hc1
  refine Ok.seq (Ok.region (Ok.batch 1 [(2, sv ([32, 43, 32] : Bs))] (by kernel_rfl) (Ok.nil (Ok.thenN (Ok.ret (Ok.blockR (Ok.thenR ?_)))))))
  exact Ok.resH (vs := [sv ([32, 43, 32] : Bs)]) (.inl rfl) rfl (.cons (.tmp rfl) .nil) (Gext.refl w0 g) ⟨([32, 43, 32] : Bs), rfl, rfl, hF⟩
 ·replace hF := hF.2 hc1
  refine Ok.seq (Ok.region (Ok.bat 2 [3] [(6, .bool (xkind == 3))] ?_))
  refine Ok.nil (Ok.thenN (Ok.cond (b := (xkind == 3)) rfl (fun hc2 => ?_) (fun hc2 => ?_)))
  ·replace hF := hF.1 hc2
   refine Ok.seq (Ok.region (Ok.batch 1 [(2, sv ([32, 45, 32] : Bs))] (by kernel_rfl) (Ok.nil (Ok.thenN (Ok.ret (Ok.blockR (Ok.thenR ?_)))))))
   exact Ok.resH (vs := [sv ([32, 45, 32] : Bs)]) (.inl rfl) rfl (.cons (.tmp rfl) .nil) (Gext.refl w0 g) ⟨([32, 45, 32] : Bs), rfl, rfl, hF⟩
  ·replace hF := hF.2 hc2
   refine Ok.seq (Ok.region (Ok.bat 2 [3] [(8, .bool (xkind == 4))] ?_))
   refine Ok.nil (Ok.thenN (Ok.cond (b := (xkind == 4)) rfl (fun hc3 => ?_) (fun hc3 => ?_)))
   ·replace hF := hF.1 hc3
    refine Ok.seq (Ok.region (Ok.batch 1 [(2, sv ([32, 42, 32] : Bs))] (by kernel_rfl) (Ok.nil (Ok.thenN (Ok.ret (Ok.blockR (Ok.thenR ?_)))))))
    exact Ok.resH (vs := [sv ([32, 42, 32] : Bs)]) (.inl rfl) rfl (.cons (.tmp rfl) .nil) (Gext.refl w0 g) ⟨([32, 42, 32] : Bs), rfl, rfl, hF⟩
   ·replace hF := hF.2 hc3
    refine Ok.seq (Ok.region (Ok.batch 2 [(10, .bool (xkind == 5))] (by kernel_rfl) (Ok.nil (Ok.thenN (Ok.cond (b := (xkind == 5)) rfl (fun hc4 => ?_) (fun hc4 => ?_))))))
    ·replace hF := hF.1 hc4
     refine Ok.seq (Ok.region (Ok.batch 1 [(2, sv ([32, 47, 32] : Bs))] (by kernel_rfl) (Ok.nil (Ok.thenN (Ok.ret (Ok.blockR (Ok.thenR ?_)))))))
     exact Ok.resH (vs := [sv ([32, 47, 32] : Bs)]) (.inl rfl) rfl (.cons (.tmp rfl) .nil) (Gext.refl w0 g) ⟨([32, 47, 32] : Bs), rfl, rfl, hF⟩
    ·replace hF := hF.2 hc4
     refine Ok.skip (Ok.blockN (Ok.thenN (Ok.seq (Ok.region (Ok.batch 1 [(2, sv ([44, 32] : Bs))] (by kernel_rfl) (Ok.nil (Ok.thenN (Ok.ret ?_))))))))
     exact Ok.resH (vs := [sv ([44, 32] : Bs)]) (.inl rfl) rfl (.cons (.tmp rfl) .nil) (Gext.refl w0 g) ⟨([44, 32] : Bs), rfl, rfl, hF⟩
def sgnM (xkind : Int) : Bs := (if (xkind == 2) = true then ([32, 43, 32] : Bs) else (if (xkind == 3) = true then ([32, 45, 32] : Bs) else (if (xkind == 4) = true then ([32, 42, 32] : Bs) else (if (xkind == 5) = true then ([32, 47, 32] : Bs) else ([44, 32] : Bs)))))
theorem sgnF_A (xkind : Int) (P : Bs → Prop) (h : P (sgnM xkind)) : sgnF xkind (fun k0 => P k0) := by
 unfold sgnM at h
 unfold sgnF
 refine ⟨fun hc0 => ?_, fun hc0 => ?_⟩
 ·rw [if_t hc0] at h
  have hd0 := hc0; try simp only [Bool.and_eq_true, Bool.or_eq_true, Bool.and_eq_false_iff, Bool.or_eq_false_iff, Bool.not_eq_true', Bool.not_eq_false', decide_eq_true_eq, decide_eq_false_iff_not, beq_iff_eq, beq_eq_false_iff_ne, ne_eq] at hd0
  exact h
 ·rw [if_f hc0] at h
  have hd0 := hc0; try simp only [Bool.and_eq_true, Bool.or_eq_true, Bool.and_eq_false_iff, Bool.or_eq_false_iff, Bool.not_eq_true', Bool.not_eq_false', decide_eq_true_eq, decide_eq_false_iff_not, beq_iff_eq, beq_eq_false_iff_ne, ne_eq] at hd0
  refine ⟨fun hc1 => ?_, fun hc1 => ?_⟩
  ·rw [if_t hc1] at h
   have hd1 := hc1; try simp only [Bool.and_eq_true, Bool.or_eq_true, Bool.and_eq_false_iff, Bool.or_eq_false_iff, Bool.not_eq_true', Bool.not_eq_false', decide_eq_true_eq, decide_eq_false_iff_not, beq_iff_eq, beq_eq_false_iff_ne, ne_eq] at hd1
   exact h
  ·rw [if_f hc1] at h
   have hd1 := hc1; try simp only [Bool.and_eq_true, Bool.or_eq_true, Bool.and_eq_false_iff, Bool.or_eq_false_iff, Bool.not_eq_true', Bool.not_eq_false', decide_eq_true_eq, decide_eq_false_iff_not, beq_iff_eq, beq_eq_false_iff_ne, ne_eq] at hd1
   refine ⟨fun hc2 => ?_, fun hc2 => ?_⟩
   ·rw [if_t hc2] at h
    have hd2 := hc2; try simp only [Bool.and_eq_true, Bool.or_eq_true, Bool.and_eq_false_iff, Bool.or_eq_false_iff, Bool.not_eq_true', Bool.not_eq_false', decide_eq_true_eq, decide_eq_false_iff_not, beq_iff_eq, beq_eq_false_iff_ne, ne_eq] at hd2
    exact h
   ·rw [if_f hc2] at h
    have hd2 := hc2; try simp only [Bool.and_eq_true, Bool.or_eq_true, Bool.and_eq_false_iff, Bool.or_eq_false_iff, Bool.not_eq_true', Bool.not_eq_false', decide_eq_true_eq, decide_eq_false_iff_not, beq_iff_eq, beq_eq_false_iff_ne, ne_eq] at hd2
    refine ⟨fun hc3 => ?_, fun hc3 => ?_⟩
    ·rw [if_t hc3] at h
     have hd3 := hc3; try simp only [Bool.and_eq_true, Bool.or_eq_true, Bool.and_eq_false_iff, Bool.or_eq_false_iff, Bool.not_eq_true', Bool.not_eq_false', decide_eq_true_eq, decide_eq_false_iff_not, beq_iff_eq, beq_eq_false_iff_ne, ne_eq] at hd3
     exact h
    ·rw [if_f hc3] at h
     have hd3 := hc3; try simp only [Bool.and_eq_true, Bool.or_eq_true, Bool.and_eq_false_iff, Bool.or_eq_false_iff, Bool.not_eq_true', Bool.not_eq_false', decide_eq_true_eq, decide_eq_false_iff_not, beq_iff_eq, beq_eq_false_iff_ne, ne_eq] at hd3
     exact h
theorem sgn_F (xkind : Int) : sgnF xkind (fun k0 => k0 = sgnM xkind) :=
 sgnF_A xkind (fun z => z = sgnM xkind) rfl
theorem sgn_c {g : Ghost} (xkind : Int)  : CallsG Tryz.prog 24 #[.int .i64 xkind] g (sv (sgnM xkind)) :=
 (sgn_ok xkind _ (sgn_F xkind)).gives (by rintro g' H' v _ ⟨r0, rfl, rfl, hK⟩; subst hK; rfl)
def rmayj22 (xt : Tree (Int × Int × Bs)) (K : Bool → Prop) : Prop :=
 ((((xt.lab.1 == 6) || (xt.lab.1 == 7))) = true → K (decide ((xt.kids.length : Int) ≥ 1))) ∧ ((((xt.lab.1 == 6) || (xt.lab.1 == 7))) = false → K ((xt.lab.1 == 8) && ((xt.kids.length : Int) == 3)))
def rmayj14 (xt : Tree (Int × Int × Bs)) (K : Bool → Prop) : Prop :=
 ((((decide (xt.lab.1 ≥ 2)) && (decide (xt.lab.1 ≤ 5)))) = true → K ((xt.kids.length : Int) == 2)) ∧ ((((decide (xt.lab.1 ≥ 2)) && (decide (xt.lab.1 ≤ 5)))) = false → (((xt.lab.1 == 6)) = true → rmayj22 xt K) ∧ (((xt.lab.1 == 6)) = false → rmayj22 xt K))
def rmayF (xt : Tree (Int × Int × Bs)) (K : Bool → Prop) : Prop :=
 (((xt.lab.1 == 1)) = true → K ((xt.kids.length : Int) == 0)) ∧ (((xt.lab.1 == 1)) = false → ((decide (xt.lab.1 ≥ 2)) = true → rmayj14 xt K) ∧ ((decide (xt.lab.1 ≥ 2)) = false → rmayj14 xt K))
theorem rmay_ok {g : Ghost} {axt_0 : Option Addr} {cxt_0 : Nat} (xt : Tree (Int × Int × Bs)) (hRxt_0 : Rep g (.slice (.tree (.pair (.int .i64) (.pair (.int .i64) (.str))))) [.slice axt_0 xt.kids.length cxt_0] xt.kids) (K : Bool → Prop)
  (hF : rmayF xt K) : CallsH Tryz.prog 12 #[.agg #[.int .i64 xt.lab.1, .int .i64 xt.lab.2.1, sv xt.lab.2.2, .slice axt_0 xt.kids.length cxt_0]] g [] (fun g' H' v => ∃ (r0 : Bool), v = .bool r0 ∧ H' = [] ∧ K r0) := by
 refine CallsH.enter 39 [(0, .agg #[.int .i64 xt.lab.1, .int .i64 xt.lab.2.1, sv xt.lab.2.2, .slice axt_0 xt.kids.length cxt_0])] Tryz.func12 rfl (by kernel_rfl) (by kernel_rfl) (by kernel_rfl) fun w0 => ?_
 refine Ok.seq (Ok.region (Ok.op rfl (OpOk.box (v := .agg #[.int .i64 xt.lab.1, .int .i64 xt.lab.2.1, sv xt.lab.2.2, .slice axt_0 xt.kids.length cxt_0]) (cs := #[.int .i64 xt.lab.1, .int .i64 xt.lab.2.1, sv xt.lab.2.2, .slice axt_0 xt.kids.length cxt_0]) rfl (by kernel_rfl) rfl fun bs1 => ?_)))
 refine Ok.batch 1 [(1, pv bs1 0)] (by kernel_rfl) (Ok.nil (Ok.thenN (Ok.seq (Ok.region (Ok.bat 1 [1] [(4, pv bs1 3)] ?_)))))
 refine Ok.op rfl (OpOk.step (v := .slice axt_0 xt.kids.length cxt_0) (Yields.load 0 rfl rfl Tryz.underlying24 rfl (by kernel_rfl)) rfl rfl (Ok.bat 2 [1] [(3, .int .i64 (xt.kids.length : Int))] ?_))
 refine Ok.nil (Ok.thenN (Ok.seq (Ok.seq (Ok.region (Ok.bat 1 [1, 3] [(7, pv bs1 0)] ?_)))))
 refine Ok.op rfl (OpOk.step (v := .int .i64 xt.lab.1) (Yields.load 0 rfl rfl Tryz.underlying3 rfl (by kernel_rfl)) rfl rfl (Ok.bat 1 [1, 3] [(9, .bool (xt.lab.1 == 1))] ?_))
 refine Ok.nil (Ok.thenN (Ok.cond (b := (xt.lab.1 == 1)) rfl (fun hc2 => ?_) (fun hc2 => ?_)))
 ·replace hF := hF.1 hc2
  refine Ok.seq (Ok.region (Ok.batch 3 [(2, .bool ((xt.kids.length : Int) == 0))] (by kernel_rfl) (Ok.nil (Ok.thenN (Ok.ret (Ok.thenR ?_))))))
  exact Ok.resP (vs := [.bool ((xt.kids.length : Int) == 0)]) [] [] (by decide) rfl (.inl rfl) rfl (.cons (.tmp rfl) .nil) (Gext.refl w0 g) ⟨((xt.kids.length : Int) == 0), rfl, rfl, hF⟩
 ·replace hF := hF.2 hc2
  refine Ok.skip (Ok.thenN (Ok.seq (Ok.cut (fun a W => StA 39 [(1, pv bs1 0), (3, .int .i64 (xt.kids.length : Int)), (19, .bool ((decide (xt.lab.1 ≥ 2)) && (decide (xt.lab.1 ≤ 5))))] a ∧ StW w0 [.blk bs1 (.cells #[.int .i64 xt.lab.1, .int .i64 xt.lab.2.1, sv xt.lab.2.2, .slice axt_0 xt.kids.length cxt_0] 26)] g W ∧ rmayj14 xt K) ?_ ?_)))
  ·
   refine Ok.region (Ok.bat 1 [1, 3] [(12, pv bs1 0)] ?_)
   refine Ok.op rfl (OpOk.step (v := .int .i64 xt.lab.1) (Yields.load 0 rfl rfl Tryz.underlying3 rfl (by kernel_rfl)) rfl rfl (Ok.bat 2 [1, 3] [(15, .bool (decide (xt.lab.1 ≥ 2)))] ?_))
   refine Ok.boolAt 15 (decide (xt.lab.1 ≥ 2)) rfl (fun hc8 => ?_) (fun hc8 => ?_)
   ·replace hF := hF.1 hc8
    refine Ok.bat 1 [1, 3] [(15, .bool true), (16, pv bs1 0)] ?_
    refine Ok.opYes (j := 3) (d := 15) (want := true) (b := true) rfl (by kernel_rfl) (by kernel_rfl) rfl (OpOk.step (v := .int .i64 xt.lab.1) (Yields.load 0 rfl rfl Tryz.underlying3 rfl (by kernel_rfl)) rfl rfl (Ok.bat 2 [1, 3] [(19, .bool (decide (xt.lab.1 ≤ 5)))] ?_))
    refine Ok.nil (Ok.thenN (Ok.reval 19 rfl (show (.bool (decide (xt.lab.1 ≤ 5)) : Value) = .bool ((decide (xt.lab.1 ≥ 2)) && (decide (xt.lab.1 ≤ 5))) from congrArg (Value.bool) (mand_t hc8)) ?_))
    exact fun a W hA hW => ⟨hA.sub (by kernel_rfl), hW, hF⟩
   ·replace hF := hF.2 hc8
    refine Ok.bat 4 [1, 3] [(19, .bool false)] ?_
    refine Ok.nil (Ok.thenN (Ok.reval 19 rfl (show (.bool false : Value) = .bool ((decide (xt.lab.1 ≥ 2)) && (decide (xt.lab.1 ≤ 5))) from congrArg (Value.bool) (mand_f hc8)) ?_))
    exact fun a W hA hW => ⟨hA.sub (by kernel_rfl), hW, hF⟩
  ·
   clear hF
   rintro a W ⟨hA, hW, hF⟩
   refine (?_ : Ok _ _ _ _ _ _) a W hA hW
   clear hA hW
   refine Ok.cond (b := ((decide (xt.lab.1 ≥ 2)) && (decide (xt.lab.1 ≤ 5)))) rfl (fun hc3 => ?_) (fun hc3 => ?_)
   ·replace hF := hF.1 hc3
    refine Ok.seq (Ok.region (Ok.batch 3 [(2, .bool ((xt.kids.length : Int) == 2))] (by kernel_rfl) (Ok.nil (Ok.thenN (Ok.ret (Ok.thenR ?_))))))
    exact Ok.resP (vs := [.bool ((xt.kids.length : Int) == 2)]) [] [] (by decide) rfl (.inl rfl) rfl (.cons (.tmp rfl) .nil) (Gext.refl w0 g) ⟨((xt.kids.length : Int) == 2), rfl, rfl, hF⟩
   ·replace hF := hF.2 hc3
    refine Ok.skip (Ok.thenN (Ok.seq (Ok.cut (fun a W => StA 39 [(1, pv bs1 0), (3, .int .i64 (xt.kids.length : Int)), (29, .bool ((xt.lab.1 == 6) || (xt.lab.1 == 7)))] a ∧ StW w0 [.blk bs1 (.cells #[.int .i64 xt.lab.1, .int .i64 xt.lab.2.1, sv xt.lab.2.2, .slice axt_0 xt.kids.length cxt_0] 26)] g W ∧ rmayj22 xt K) ?_ ?_)))
    ·
     refine Ok.region (Ok.bat 1 [1, 3] [(22, pv bs1 0)] ?_)
     refine Ok.op rfl (OpOk.step (v := .int .i64 xt.lab.1) (Yields.load 0 rfl rfl Tryz.underlying3 rfl (by kernel_rfl)) rfl rfl (Ok.bat 2 [1, 3] [(25, .bool (xt.lab.1 == 6))] ?_))
     refine Ok.boolAt 25 ((xt.lab.1 == 6)) rfl (fun hc7 => ?_) (fun hc7 => ?_)
     ·replace hF := hF.1 hc7
      refine Ok.bat 4 [1, 3] [(29, .bool true)] ?_
      refine Ok.nil (Ok.thenN (Ok.reval 29 rfl (show (.bool true : Value) = .bool ((xt.lab.1 == 6) || (xt.lab.1 == 7)) from congrArg (Value.bool) (mor_t hc7)) ?_))
      exact fun a W hA hW => ⟨hA.sub (by kernel_rfl), hW, hF⟩
     ·replace hF := hF.2 hc7
      refine Ok.bat 1 [1, 3] [(25, .bool false), (26, pv bs1 0)] ?_
      refine Ok.opYes (j := 3) (d := 25) (want := false) (b := false) rfl (by kernel_rfl) (by kernel_rfl) rfl (OpOk.step (v := .int .i64 xt.lab.1) (Yields.load 0 rfl rfl Tryz.underlying3 rfl (by kernel_rfl)) rfl rfl (Ok.bat 2 [1, 3] [(29, .bool (xt.lab.1 == 7))] ?_))
      refine Ok.nil (Ok.thenN (Ok.reval 29 rfl (show (.bool (xt.lab.1 == 7) : Value) = .bool ((xt.lab.1 == 6) || (xt.lab.1 == 7)) from congrArg (Value.bool) (mor_f hc7)) ?_))
      exact fun a W hA hW => ⟨hA.sub (by kernel_rfl), hW, hF⟩
    ·
     clear hF
     rintro a W ⟨hA, hW, hF⟩
     refine (?_ : Ok _ _ _ _ _ _) a W hA hW
     clear hA hW
     refine Ok.cond (b := ((xt.lab.1 == 6) || (xt.lab.1 == 7))) rfl (fun hc4 => ?_) (fun hc4 => ?_)
     ·replace hF := hF.1 hc4
      refine Ok.seq (Ok.region (Ok.batch 3 [(2, .bool (decide ((xt.kids.length : Int) ≥ 1)))] (by kernel_rfl) (Ok.nil (Ok.thenN (Ok.ret (Ok.thenR ?_))))))
      exact Ok.resP (vs := [.bool (decide ((xt.kids.length : Int) ≥ 1))]) [] [] (by decide) rfl (.inl rfl) rfl (.cons (.tmp rfl) .nil) (Gext.refl w0 g) ⟨(decide ((xt.kids.length : Int) ≥ 1)), rfl, rfl, hF⟩
     ·replace hF := hF.2 hc4
      refine Ok.skip (Ok.thenN (Ok.seq (Ok.region (Ok.bat 1 [3] [(32, pv bs1 0)] ?_))))
      refine Ok.op rfl (OpOk.step (v := .int .i64 xt.lab.1) (Yields.load 0 rfl rfl Tryz.underlying3 rfl (by kernel_rfl)) rfl rfl (Ok.bat 2 [3] [(35, .bool (xt.lab.1 == 8))] ?_))
      refine Ok.midway 3 [(38, .bool ((xt.lab.1 == 8) && ((xt.kids.length : Int) == 3)))] (fun hR5 => ?_) ?_
      ·refine Ok.boolAt 35 ((xt.lab.1 == 8)) rfl (fun hc6 => ?_) (fun hc6 => ?_)
       ·skip
        refine Ok.batch 3 [(38, .bool ((xt.kids.length : Int) == 3))] (by kernel_rfl) (Ok.reval 38 rfl (show (.bool ((xt.kids.length : Int) == 3) : Value) = .bool ((xt.lab.1 == 8) && ((xt.kids.length : Int) == 3)) from congrArg Value.bool (mand_t hc6)) (Ok.batch 0 [(38, .bool ((xt.lab.1 == 8) && ((xt.kids.length : Int) == 3)))] (by kernel_rfl) ?_))
        exact hR5
       ·skip
        refine Ok.batch 3 [(38, .bool false)] (by kernel_rfl) (Ok.reval 38 rfl (show (.bool false : Value) = .bool ((xt.lab.1 == 8) && ((xt.kids.length : Int) == 3)) from congrArg Value.bool (mand_f hc6)) (Ok.batch 0 [(38, .bool ((xt.lab.1 == 8) && ((xt.kids.length : Int) == 3)))] (by kernel_rfl) ?_))
        exact hR5
      refine Ok.batch 1 [(2, .bool ((xt.lab.1 == 8) && ((xt.kids.length : Int) == 3)))] (by kernel_rfl) (Ok.nil (Ok.thenN (Ok.ret ?_)))
      exact Ok.resP (vs := [.bool ((xt.lab.1 == 8) && ((xt.kids.length : Int) == 3))]) [] [] (by decide) rfl (.inl rfl) rfl (.cons (.tmp rfl) .nil) (Gext.refl w0 g) ⟨((xt.lab.1 == 8) && ((xt.kids.length : Int) == 3)), rfl, rfl, hF⟩
def rmayj22M (xt : Tree (Int × Int × Bs)) : Bool := (if ((xt.lab.1 == 6) || (xt.lab.1 == 7)) = true then (decide ((xt.kids.length : Int) ≥ 1)) else ((xt.lab.1 == 8) && ((xt.kids.length : Int) == 3)))
theorem rmayj22_A (xt : Tree (Int × Int × Bs)) (P : Bool → Prop) (h : P (rmayj22M xt)) : rmayj22 xt (fun k0 => P k0) := by
 unfold rmayj22M at h
 unfold rmayj22
 refine ⟨fun hc0 => ?_, fun hc0 => ?_⟩
 ·rw [if_t hc0] at h
  have hd0 := hc0; try simp only [Bool.and_eq_true, Bool.or_eq_true, Bool.and_eq_false_iff, Bool.or_eq_false_iff, Bool.not_eq_true', Bool.not_eq_false', decide_eq_true_eq, decide_eq_false_iff_not, beq_iff_eq, beq_eq_false_iff_ne, ne_eq] at hd0
  exact h
 ·rw [if_f hc0] at h
  have hd0 := hc0; try simp only [Bool.and_eq_true, Bool.or_eq_true, Bool.and_eq_false_iff, Bool.or_eq_false_iff, Bool.not_eq_true', Bool.not_eq_false', decide_eq_true_eq, decide_eq_false_iff_not, beq_iff_eq, beq_eq_false_iff_ne, ne_eq] at hd0
  exact h
def rmayj14M (xt : Tree (Int × Int × Bs)) : Bool := (if ((decide (xt.lab.1 ≥ 2)) && (decide (xt.lab.1 ≤ 5))) = true then ((xt.kids.length : Int) == 2) else (rmayj22M xt))
theorem rmayj14_A (xt : Tree (Int × Int × Bs)) (P : Bool → Prop) (h : P (rmayj14M xt)) : rmayj14 xt (fun k0 => P k0) := by
 unfold rmayj14M at h
 unfold rmayj14
 refine ⟨fun hc0 => ?_, fun hc0 => ?_⟩
 ·rw [if_t hc0] at h
  have hd0 := hc0; try simp only [Bool.and_eq_true, Bool.or_eq_true, Bool.and_eq_false_iff, Bool.or_eq_false_iff, Bool.not_eq_true', Bool.not_eq_false', decide_eq_true_eq, decide_eq_false_iff_not, beq_iff_eq, beq_eq_false_iff_ne, ne_eq] at hd0
  exact h
 ·rw [if_f hc0] at h
  have hd0 := hc0; try simp only [Bool.and_eq_true, Bool.or_eq_true, Bool.and_eq_false_iff, Bool.or_eq_false_iff, Bool.not_eq_true', Bool.not_eq_false', decide_eq_true_eq, decide_eq_false_iff_not, beq_iff_eq, beq_eq_false_iff_ne, ne_eq] at hd0
  refine ⟨fun hc1 => ?_, fun hc1 => ?_⟩
  ·skip
   have hd1 := hc1; try simp only [Bool.and_eq_true, Bool.or_eq_true, Bool.and_eq_false_iff, Bool.or_eq_false_iff, Bool.not_eq_true', Bool.not_eq_false', decide_eq_true_eq, decide_eq_false_iff_not, beq_iff_eq, beq_eq_false_iff_ne, ne_eq] at hd1
   exact rmayj22_A xt _ h
  ·skip
   have hd1 := hc1; try simp only [Bool.and_eq_true, Bool.or_eq_true, Bool.and_eq_false_iff, Bool.or_eq_false_iff, Bool.not_eq_true', Bool.not_eq_false', decide_eq_true_eq, decide_eq_false_iff_not, beq_iff_eq, beq_eq_false_iff_ne, ne_eq] at hd1
   exact rmayj22_A xt _ h
def rmayM (xt : Tree (Int × Int × Bs)) : Bool := (if (xt.lab.1 == 1) = true then ((xt.kids.length : Int) == 0) else (rmayj14M xt))
theorem rmayF_A (xt : Tree (Int × Int × Bs)) (P : Bool → Prop) (h : P (rmayM xt)) : rmayF xt (fun k0 => P k0) := by
 unfold rmayM at h
 unfold rmayF
 refine ⟨fun hc0 => ?_, fun hc0 => ?_⟩
 ·rw [if_t hc0] at h
  have hd0 := hc0; try simp only [Bool.and_eq_true, Bool.or_eq_true, Bool.and_eq_false_iff, Bool.or_eq_false_iff, Bool.not_eq_true', Bool.not_eq_false', decide_eq_true_eq, decide_eq_false_iff_not, beq_iff_eq, beq_eq_false_iff_ne, ne_eq] at hd0
  exact h
 ·rw [if_f hc0] at h
  have hd0 := hc0; try simp only [Bool.and_eq_true, Bool.or_eq_true, Bool.and_eq_false_iff, Bool.or_eq_false_iff, Bool.not_eq_true', Bool.not_eq_false', decide_eq_true_eq, decide_eq_false_iff_not, beq_iff_eq, beq_eq_false_iff_ne, ne_eq] at hd0
  refine ⟨fun hc1 => ?_, fun hc1 => ?_⟩
  ·skip
   have hd1 := of_decide_eq_true hc1
   exact rmayj14_A xt _ h
  ·skip
   have hd1 := of_decide_eq_false hc1
   exact rmayj14_A xt _ h
theorem rmay_F (xt : Tree (Int × Int × Bs)) : rmayF xt (fun k0 => k0 = rmayM xt) :=
 rmayF_A xt (fun z => z = rmayM xt) rfl
theorem rmay_c {g : Ghost} {axt_0 : Option Addr} {cxt_0 : Nat} (xt : Tree (Int × Int × Bs)) (hRxt_0 : Rep g (.slice (.tree (.pair (.int .i64) (.pair (.int .i64) (.str))))) [.slice axt_0 xt.kids.length cxt_0] xt.kids)  : CallsG Tryz.prog 12 #[.agg #[.int .i64 xt.lab.1, .int .i64 xt.lab.2.1, sv xt.lab.2.2, .slice axt_0 xt.kids.length cxt_0]] g (.bool (rmayM xt)) :=
 (rmay_ok xt hRxt_0 _ (rmay_F xt)).gives (by rintro g' H' v _ ⟨r0, rfl, rfl, hK⟩; subst hK; rfl)
theorem may_eq (t : Tm) : rmayM t = shpM t := by
 obtain ⟨⟨k, d⟩, l⟩ := t
 have e : decide ((l.length : Int) ≥ 1) = decide ((l.length : Int) > 0) := decide_eq_decide.2 (by omega)
 show (if (k == 1) = true then ((l.length : Int) == 0) else if (decide (k ≥ 2) && decide (k ≤ 5)) = true then ((l.length : Int) == 2) else if (k == 6 || k == 7) = true then decide ((l.length : Int) ≥ 1) else (k == 8 && (l.length : Int) == 3)) = (if (k == 1) = true then ((l.length : Int) == 0) else if (k == 2 || (k == 3 || (k == 4 || k == 5))) = true then ((l.length : Int) == 2) else if (k == 6 || k == 7) = true then decide ((l.length : Int) > 0) else if (k == 8) = true then ((l.length : Int) == 3) else false)
 rw [e]
 by_cases h1 : k = 1
 ·subst h1; rfl
 by_cases h2 : k = 2
 ·subst h2; rfl
 by_cases h3 : k = 3
 ·subst h3; rfl
 by_cases h4 : k = 4
 ·subst h4; rfl
 by_cases h5 : k = 5
 ·subst h5; rfl
 by_cases h6 : k = 6
 ·subst h6; rfl
 by_cases h7 : k = 7
 ·subst h7; rfl
 by_cases h8 : k = 8
 ·subst h8; rfl
 have hb : (decide (k ≥ 2) && decide (k ≤ 5)) = false := by
  rw [Bool.and_eq_false_iff]
  by_cases h : k ≥ 2
  ·exact .inr (decide_eq_false (by omega))
  ·exact .inl (decide_eq_false h)
 rw [hb, show (k == 1) = false by simpa using h1, show (k == 2) = false by simpa using h2, show (k == 3) = false by simpa using h3, show (k == 4) = false by simpa using h4, show (k == 5) = false by simpa using h5, show (k == 6) = false by simpa using h6, show (k == 7) = false by simpa using h7, show (k == 8) = false by simpa using h8]
 rfl
mutual
def txS : Tm → Bs
 | .mk x l => if (!(shpM (.mk x l))) = true then [] else if (x.1 == 1) = true then dmS x.2 else (((wrdM x.1) ++ ([40] : Bs)) ++ (joinS (txL l) (sgnM x.1))) ++ ([41] : Bs)
def txL : List Tm → List Bs
 | [] => []
 | t :: l => txS t :: txL l
end
theorem txL_eq : ∀ l : List Tm, txL l = l.map txS
 | [] => rfl
 | t :: l => by rw [txL, txL_eq l]; rfl
def wt (t : Tm) : Nat := bulkT (.tree (.pair (.int .i64) (.pair (.int .i64) (.str)))) t
def wtL (l : List Tm) : Nat := (l.map wt).sum
theorem wt_mk (x : Lb) (l : List Tm) : wt (.mk x l) = 4 + x.2.2.length + wtL l := by
 show Tree.sum _ (Tree.mk x l) = _
 rw [Tree.sum, Tree.sumL_eq]
 show 1 + (1 + (x.2.2.length + 1)) + ((l.map wt).sum + 1) = _
 unfold wtL; omega
theorem wt_in {k : Tm} : ∀ {l : List Tm}, k ∈ l → wt k ≤ wtL l
 | x :: l, h => by
  unfold wtL
  rw [List.map_cons, List.sum_cons]
  rcases List.mem_cons.1 h with rfl | h
  ·omega
  ·have := wt_in h
   unfold wtL at this; omega
theorem getD_in {l : List Tm} {i : Nat} (h : i < l.length) : l.getD i default ∈ l := by
 rw [List.getD_eq_getElem?_getD, List.getElem?_eq_getElem h]
 exact List.getElem_mem h
theorem wt_kid {t : Tm} {i : Nat} (h : i < t.kids.length) : wt (t.kids.getD i default) + 4 ≤ wt t := by
 obtain ⟨x, l⟩ := t
 have := wt_in (getD_in h)
 rw [wt_mk]
 show wt (l.getD i default) + 4 ≤ _
 have h2 : wt (l.getD i default) ≤ wtL l := this
 omega
theorem len_kids (t : Tm) : t.kids.length ≤ wt t := by
 obtain ⟨x, l⟩ := t
 rw [wt_mk]
 have : ∀ l : List Tm, l.length ≤ wtL l := by
  intro l
  induction l with
  | nil => exact Nat.zero_le _
  | cons t l ih =>
   unfold wtL at ih ⊢
   rw [List.map_cons, List.sum_cons, List.length_cons]
   obtain ⟨x, r⟩ := t
   rw [wt_mk]; omega
 have := this l
 show l.length ≤ _
 omega
theorem dm_len (d : Dm) : (dmS d).length ≤ 1000010 + d.2.length := by
 have hz := sz_in d.1
 have hr : 0 ≤ szS d.1 % 1000 ∧ szS d.1 % 1000 < 1000 := by omega
 have hd := dig_len (n := szS d.1 / 1000) (by omega)
 have ht := trimR_le (rst (szS d.1 % 1000)) [48]
 rw [rst_len hr] at ht
 have hsl : (if clS d.1 < 0 then ([45] : Bs) else []).length ≤ 1 := by split <;> simp
 have h4 : (if (trm (szS d.1 % 1000) == []) = true then ([] : Bs) else [46] ++ trm (szS d.1 % 1000)).length ≤ 4 := by
  split
  ·simp
  ·rw [List.length_append]; unfold trm; simp only [List.length_cons, List.length_nil]; omega
 unfold dmS
 rw [List.length_append, List.length_append, List.length_append]
 omega
theorem wrd_len (k : Int) : (wrdM k).length ≤ 5 := by
 unfold wrdM
 repeat' split
 all_goals decide
theorem sgn_len (k : Int) : (sgnM k).length ≤ 3 := by
 unfold sgnM
 repeat' split
 all_goals decide
theorem join_sum (sep : Bs) : ∀ xs : List Bs, (Lib.join xs sep).length ≤ (xs.map fun x => x.length + sep.length).sum
 | [] => Nat.zero_le _
 | x :: xs => by
  rw [Lib.join_cons, List.length_append, List.map_cons, List.sum_cons]
  have : ∀ ys : List Bs, (Lib.joinTail sep ys).length = (ys.map fun x => x.length + sep.length).sum := by
   intro ys
   induction ys with
   | nil => rfl
   | cons y ys ih =>
    unfold Lib.joinTail at ih ⊢
    rw [List.map_cons, List.flatten_cons, List.length_append, ih, List.length_append, List.map_cons, List.sum_cons]; omega
  rw [this]; omega
theorem tx_len : ∀ t : Tm, (txS t).length + 3 ≤ 1000100 * wt t := by
 refine Tree.ind fun x l ih => ?_
 rw [wt_mk, txS]
 split
 ·simp; omega
 ·split
  ·have := dm_len x.2; omega
  ·have h1 := wrd_len x.1
   have h2 := sgn_len x.1
   have h3 : ∀ l : List Tm, (∀ k ∈ l, (txS k).length + 3 ≤ 1000100 * wt k) → ((l.map txS).map fun y => y.length + (sgnM x.1).length).sum ≤ 1000100 * wtL l := by
    intro l
    induction l with
    | nil => intro _; exact Nat.zero_le _
    | cons t l ihl =>
     intro ih
     have a := ih t (List.mem_cons_self ..)
     have b := ihl (fun k hk => ih k (List.mem_cons_of_mem _ hk))
     unfold wtL at b ⊢
     simp only [List.map_cons, List.sum_cons]
     omega
   have h3 := Nat.le_trans (join_sum (sgnM x.1) _) (h3 l ih)
   rw [txL_eq]
   unfold joinS
   simp only [List.length_append, List.length_cons, List.length_nil]
   omega
def txP (N : Nat) (t : Tm) : Prop := wt t < N ∧ wt t ≤ 1048576
def tx_C (N : Nat) : Prop := ∀ (g : Ghost) {axt_0 : Option Addr} {cxt_0 : Nat} (xt : Tree (Int × Int × Bs)) (hRxt_0 : Rep g (.slice (.tree (.pair (.int .i64) (.pair (.int .i64) (.str))))) [.slice axt_0 xt.kids.length cxt_0] xt.kids) (hG2 : GlobL g 2 (.int .u64) DPow)  (hp : txP N xt), CallsG Tryz.prog 9 #[.agg #[.int .i64 xt.lab.1, .int .i64 xt.lab.2.1, sv xt.lab.2.2, .slice axt_0 xt.kids.length cxt_0]] g (sv (txS xt))
def txl25b (N : Nat) (xt : Tree (Int × Int × Bs)) (K : Bs → Prop) (x18l25 : Int) (yown5_0l25 : List Bs) (C25 : Int → (List Bs) → Prop) : Prop :=
 ((decide (x18l25 < (xt.kids.length : Int))) = true → (0 : Int) ≤ x18l25 ∧ Int.toNat x18l25 < xt.kids.length ∧ txP N (xt.kids.getD (Int.toNat x18l25) default) ∧ (yown5_0l25 ++ ([(txS (xt.kids.getD (Int.toNat x18l25) default))] : List Bs)).length ≤ 8796093022208 ∧ C25 (w6 (x18l25 + 1)) (yown5_0l25 ++ ([(txS (xt.kids.getD (Int.toNat x18l25) default))] : List Bs))) ∧ ((decide (x18l25 < (xt.kids.length : Int))) = false → (wrdM xt.lab.1).length + ([40] : Bs).length ≤ maxLen ∧ joinP yown5_0l25 (sgnM xt.lab.1) ∧ ((wrdM xt.lab.1) ++ ([40] : Bs)).length + (joinS yown5_0l25 (sgnM xt.lab.1)).length ≤ maxLen ∧ (((wrdM xt.lab.1) ++ ([40] : Bs)) ++ (joinS yown5_0l25 (sgnM xt.lab.1))).length + ([41] : Bs).length ≤ maxLen ∧ K ((((wrdM xt.lab.1) ++ ([40] : Bs)) ++ (joinS yown5_0l25 (sgnM xt.lab.1))) ++ ([41] : Bs)))
def txl25 (N : Nat) (xt : Tree (Int × Int × Bs)) (K : Bs → Prop) : Nat → Int → (List Bs) → Prop
 | 0, _, _ => False
 | k + 1, x18l25, yown5_0l25 => txl25b N xt K x18l25 yown5_0l25 (txl25 N xt K k)
def txF (N : Nat) (xt : Tree (Int × Int × Bs)) (K : Bs → Prop) : Prop :=
 ((!(shpM xt)) = true → K ([] : Bs)) ∧ ((!(shpM xt)) = false → (((xt.lab.1 == 1)) = true → dmP xt.lab.2 ∧ K (dmS xt.lab.2)) ∧ (((xt.lab.1 == 1)) = false → ∃ k, txl25 N xt K k 0 ([] : List Bs)))
theorem tx_ok {g : Ghost} (N : Nat) (ih_tx : tx_C N) {axt_0 : Option Addr} {cxt_0 : Nat} (xt : Tree (Int × Int × Bs)) (hRxt_0 : Rep g (.slice (.tree (.pair (.int .i64) (.pair (.int .i64) (.str))))) [.slice axt_0 xt.kids.length cxt_0] xt.kids) (hG2 : GlobL g 2 (.int .u64) DPow) (K : Bs → Prop)
  (hF : txF N xt K) : CallsH Tryz.prog 9 #[.agg #[.int .i64 xt.lab.1, .int .i64 xt.lab.2.1, sv xt.lab.2.2, .slice axt_0 xt.kids.length cxt_0]] g [] (fun g' H' v => ∃ (r0 : Bs), v = sv r0 ∧ H' = [] ∧ K r0) := by
 refine CallsH.enter 39 [(0, .agg #[.int .i64 xt.lab.1, .int .i64 xt.lab.2.1, sv xt.lab.2.2, .slice axt_0 xt.kids.length cxt_0])] Tryz.func9 rfl (by kernel_rfl) (by kernel_rfl) (by kernel_rfl) fun w0 => ?_
 refine Ok.seq (Ok.region (Ok.op rfl (OpOk.box (v := .agg #[.int .i64 xt.lab.1, .int .i64 xt.lab.2.1, sv xt.lab.2.2, .slice axt_0 xt.kids.length cxt_0]) (cs := #[.int .i64 xt.lab.1, .int .i64 xt.lab.2.1, sv xt.lab.2.2, .slice axt_0 xt.kids.length cxt_0]) rfl (by kernel_rfl) rfl fun bs1 => ?_)))
 refine Ok.batch 1 [(1, pv bs1 0)] (by kernel_rfl) (Ok.nil (Ok.thenN (Ok.seq (Ok.seq (Ok.region (Ok.op rfl (OpOk.step (v := .agg #[.int .i64 xt.lab.1, .int .i64 xt.lab.2.1, sv xt.lab.2.2, .slice axt_0 xt.kids.length cxt_0]) (Yields.loadAgg 0 4 #[.int .i64 xt.lab.1, .int .i64 xt.lab.2.1, sv xt.lab.2.2, .slice axt_0 xt.kids.length cxt_0] rfl rfl Tryz.underlying26 rfl (by kernel_rfl) (by kernel_rfl) (by kernel_rfl)) rfl rfl (Ok.op rfl (OpOk.callG (v := .bool (shpM xt)) enr (fun W hW => shp_c xt (hRxt_0.mono hW.sees)) rfl ?_)))))))))
 refine Ok.bat 1 [1] [(8, .bool (!(shpM xt)))] ?_
 refine Ok.nil (Ok.thenN (Ok.cond (b := !(shpM xt)) rfl (fun hc2 => ?_) (fun hc2 => ?_)))
 ·replace hF := hF.1 hc2
  refine Ok.seq (Ok.region (Ok.batch 1 [(2, sv ([] : Bs))] (by kernel_rfl) (Ok.nil (Ok.thenN (Ok.ret (Ok.thenR ?_))))))
  exact Ok.resP (vs := [sv ([] : Bs)]) [] [] (by decide) rfl (.inl rfl) rfl (.cons (.tmp rfl) .nil) (Gext.refl w0 g) ⟨([] : Bs), rfl, rfl, hF⟩
 ·replace hF := hF.2 hc2
  refine Ok.skip (Ok.thenN (Ok.seq (Ok.seq (Ok.region (Ok.bat 1 [1] [(9, pv bs1 0)] ?_)))))
  refine Ok.op rfl (OpOk.step (v := .int .i64 xt.lab.1) (Yields.load 0 rfl rfl Tryz.underlying3 rfl (by kernel_rfl)) rfl rfl (Ok.bat 1 [1] [(11, .bool (xt.lab.1 == 1))] ?_))
  refine Ok.nil (Ok.thenN (Ok.cond (b := (xt.lab.1 == 1)) rfl (fun hc3 => ?_) (fun hc3 => ?_)))
  ·replace hF := hF.1 hc3
   refine Ok.seq (Ok.region (Ok.batch 1 [(12, pv bs1 1)] (by kernel_rfl) (Ok.op rfl (OpOk.step (v := .agg #[.int .i64 xt.lab.2.1, sv xt.lab.2.2]) (Yields.loadAgg 0 2 #[.int .i64 xt.lab.2.1, sv xt.lab.2.2] rfl rfl Tryz.underlying23 rfl (by kernel_rfl) (by kernel_rfl) (by kernel_rfl)) rfl rfl ?_))))
   obtain ⟨hp4, hF⟩ := hF
   refine Ok.op rfl (OpOk.callG (v := sv (dmS xt.lab.2)) enr (fun W hW => dmt_c xt.lab.2 (hG2.mono hW.sees) hp4) rfl ?_)
   refine Ok.batch 1 [(2, sv (dmS xt.lab.2))] (by kernel_rfl) (Ok.nil (Ok.thenN (Ok.ret (Ok.thenR ?_))))
   exact Ok.resP (vs := [sv (dmS xt.lab.2)]) [] [] (by decide) rfl (.inl rfl) rfl (.cons (.tmp rfl) .nil) (Gext.refl w0 g) ⟨(dmS xt.lab.2), rfl, rfl, hF⟩
  ·replace hF := hF.2 hc3
   refine Ok.skip (Ok.thenN (Ok.seq (Ok.region (Ok.bat 1 [1] [(3, .slice none 0 0)] ?_))))
   have hL5 : RepL g (.str) [] [] := rfl
   refine Ok.ownNil 9 1 (Ok.nil (Ok.thenN (Ok.seq (Ok.seq (Ok.region (Ok.bat 1 [1] [(3, .slice none ([] : List Bs).length 0), (15, pv bs1 3)] ?_))))))
   refine Ok.op rfl (OpOk.step (v := .slice axt_0 xt.kids.length cxt_0) (Yields.load 1 rfl rfl Tryz.underlying24 rfl (by kernel_rfl)) rfl rfl (Ok.bat 2 [1, 3] [(16, .slice axt_0 xt.kids.length cxt_0), (17, .int .i64 (xt.kids.length : Int)), (18, .int .i64 0)] ?_))
   refine Ok.nil (Ok.thenN (Ok.block ?_))
   obtain ⟨k, hF⟩ := hF
   refine Ok.loop (fun k a W => ∃ gl25 : Ghost, Gext w0 g gl25 ∧ ∃ (x18l25 : Int) (ayown5_0l25 : Option Addr) (cyown5_0l25 : Nat) (yown5_0l25 : List Bs) (xsyown5_0l25 : List Value), RepL gl25 (.str) xsyown5_0l25 yown5_0l25 ∧ StA 39 [(1, pv bs1 0), (3, .slice ayown5_0l25 yown5_0l25.length cyown5_0l25), (16, .slice axt_0 xt.kids.length cxt_0), (17, .int .i64 (xt.kids.length : Int)), (18, .int .i64 x18l25)] a ∧ StW w0 [.own (.slice ayown5_0l25 yown5_0l25.length cyown5_0l25) 9 1 yown5_0l25.length xsyown5_0l25, .blk bs1 (.cells #[.int .i64 xt.lab.1, .int .i64 xt.lab.2.1, sv xt.lab.2.2, .slice axt_0 xt.kids.length cxt_0] 26)] gl25 W ∧ txl25 N xt K k x18l25 yown5_0l25) k ?_ ?_
   ·
    exact fun a W hA hW => ⟨g, (Gext.refl w0 g), 0, none, 0, ([] : List Bs), [], hL5, hA.sub (by kernel_rfl), hW, hF⟩
   ·
    clear hF
    rintro k25 a W ⟨gl25, hxl25, x18l25, ayown5_0l25, cyown5_0l25, yown5_0l25, xsyown5_0l25, hLyown5_0l25, hA, hW, hF⟩
    cases k25 with
    | zero => exact (hF : False).elim
    | succ k25 =>
     refine (?_ : Ok _ _ _ _ _ _) a W hA hW
     clear hA hW
     replace hRxt_0 := hRxt_0.mono hxl25.1
     replace hG2 := hG2.mono hxl25.1
     refine Ok.seq (Ok.region (Ok.bat 1 [1, 3, 16, 17, 18] [(19, .bool (decide (x18l25 < (xt.kids.length : Int))))] ?_))
     refine Ok.nil (Ok.thenN (Ok.seq (Ok.cond (b := decide (x18l25 < (xt.kids.length : Int))) rfl (fun hc6 => ?_) (fun hc6 => ?_))))
     ·replace hF := hF.1 hc6
      refine Ok.skip (Ok.thenN (Ok.seq (Ok.block (Ok.seq (Ok.region ?_)))))
      obtain ⟨h08, h18, hF⟩ := hF
      have he8 := get_of (l := xt.kids) (default : Tree (Int × Int × Bs)) h18
      generalize hg8 : (xt.kids.getD (Int.toNat x18l25) default) = e8 at he8 hF ⊢
      refine Ok.op rfl (OpOk.indexRo (e := .tree (.pair (.int .i64) (.pair (.int .i64) (.str)))) (i := x18l25) (el := e8) rfl rfl Tryz.underlying24 (by kernel_rfl) hRxt_0 h08 he8 rfl fun q7 o7 cs7 _ hat7 hr7 => ?_)
      have hT7_0 := hr7
      replace hT7_0 := Rep.tree.1 hT7_0
      obtain ⟨_, _, rfl, ⟨_, _, rfl, rfl, ⟨_, _, rfl, rfl, rfl⟩⟩, ⟨a7_3, c7_3, rfl, hm7_3, hr7_3⟩⟩ := hT7_0
      have hR7_3 : Rep gl25 (.slice (.tree (.pair (.int .i64) (.pair (.int .i64) (.str))))) [.slice a7_3 e8.kids.length c7_3] e8.kids := ⟨a7_3, c7_3, rfl, hm7_3, hr7_3⟩
      replace hat7 : At gl25 q7 o7 [.int .i64 e8.lab.1, .int .i64 e8.lab.2.1, sv e8.lab.2.2, .slice a7_3 e8.kids.length c7_3] := hat7
      refine Ok.op rfl (OpOk.step (v := .agg #[.int .i64 e8.lab.1, .int .i64 e8.lab.2.1, sv e8.lab.2.2, .slice a7_3 e8.kids.length c7_3]) (Yields.loadAggRo 0 4 #[.int .i64 e8.lab.1, .int .i64 e8.lab.2.1, sv e8.lab.2.2, .slice a7_3 e8.kids.length c7_3] hat7 (by kernel_rfl) Tryz.underlying26 rfl (by kernel_rfl) (by kernel_rfl) (by kernel_rfl)) rfl rfl (Ok.op rfl (OpOk.alloc (z := .agg #[.int .i64 0, .int .i64 0, sv ([] : Bs), .slice none 0 0]) (cs := #[.int .i64 0, .int .i64 0, sv ([] : Bs), .slice none 0 0]) (by kernel_rfl) (by kernel_rfl) rfl fun bs5 => ?_)))
      refine Ok.op rfl (OpOk.sto (k := 4) (v := .agg #[.int .i64 e8.lab.1, .int .i64 e8.lab.2.1, sv e8.lab.2.2, .slice a7_3 e8.kids.length c7_3]) 0 #[.int .i64 e8.lab.1, .int .i64 e8.lab.2.1, sv e8.lab.2.2, .slice a7_3 e8.kids.length c7_3] rfl rfl rfl ?_)
      refine Ok.nil (Ok.thenN (Ok.region (Ok.bat 1 [1, 16, 17, 18] [(5, pv bs5 0), (22, .slice ayown5_0l25 yown5_0l25.length cyown5_0l25)] ?_)))
      refine Ok.op rfl (OpOk.step (v := .agg #[.int .i64 e8.lab.1, .int .i64 e8.lab.2.1, sv e8.lab.2.2, .slice a7_3 e8.kids.length c7_3]) (Yields.loadAgg 0 4 #[.int .i64 e8.lab.1, .int .i64 e8.lab.2.1, sv e8.lab.2.2, .slice a7_3 e8.kids.length c7_3] rfl rfl Tryz.underlying26 rfl (by kernel_rfl) (by kernel_rfl) (by kernel_rfl)) rfl rfl ?_)
      obtain ⟨hp10, hF⟩ := hF
      refine Ok.op rfl (OpOk.callG (v := sv (txS e8)) enr (fun W hW => ih_tx _ e8 (hR7_3.mono hW.sees) (hG2.mono hW.sees) hp10) rfl ?_)
      have hL11 : RepL gl25 (.str) ([sv (txS e8)] : List Value) ([(txS e8)] : List Bs) := (RepL.consN (c := [sv (txS e8)]) rfl rfl)
      refine Ok.op rfl (OpOk.lit (E := 9) (.str) ([(txS e8)] : List Bs) ([sv (txS e8)] : List Value) (by kernel_rfl) (by kernel_rfl) rfl (by kernel_rfl) hL11 rfl fun b11 => ?_)
      obtain ⟨hb12, hF⟩ := hF
      refine Ok.op rfl (OpOk.append' (e := .str) 16 8796093022208 2 0 rfl rfl rfl rfl hLyown5_0l25 hL11 Tryz.underlying57 (by kernel_rfl) (by kernel_rfl) (by kernel_rfl) hb12 rfl fun a12 c12 xs12 hL12 => ?_)
      refine Ok.bat 1 [1, 16, 17, 18] [(3, .slice a12 (yown5_0l25 ++ ([(txS e8)] : List Bs)).length c12)] ?_
      refine Ok.nil (Ok.blockN (Ok.thenN (Ok.region (Ok.bat 2 [1, 3, 16, 17] [(18, .int .i64 (w6 (x18l25 + 1)))] ?_))))
      refine Ok.nil (Ok.thenN ?_)
      subst hg8
      exact fun a W hA hW => ⟨k25, Nat.lt_succ_self _, gl25, hxl25, w6 (x18l25 + 1), a12, c12, (yown5_0l25 ++ ([(txS (xt.kids.getD (Int.toNat x18l25) default))] : List Bs)), xs12, hL12, hA.sub (by kernel_rfl), hW.sub (.cons _ (.cons _ (.cons_cons _ (.cons_cons _ .slnil)))), hF⟩
     ·replace hF := hF.2 hc6
      refine Ok.exit (Ok.thenE (Ok.thenE (Ok.blockHit (Ok.thenN (Ok.seq (Ok.quiet' (by kernel_rfl) (by kernel_rfl) (OkQ.bat 1 [1, 3] [(28, pv bs1 0)] ?_)))))))
      refine OkQ.op rfl (OpQ.step (v := .int .i64 xt.lab.1) (Yields.load 1 rfl rfl Tryz.underlying3 rfl (by kernel_rfl)) rfl rfl (OkQ.op rfl (OpQ.callG (v := sv (wrdM xt.lab.1)) enr (fun W hW => wrd_c xt.lab.1) rfl ?_)))
      obtain ⟨hv, hF⟩ := hF
      refine OkQ.op rfl (OpQ.step (v := sv ((wrdM xt.lab.1) ++ ([40] : Bs))) (Yields.strAdd rfl rfl hv) rfl rfl (OkQ.batch 2 [(31, sv ((wrdM xt.lab.1) ++ ([40] : Bs))), (32, .slice ayown5_0l25 yown5_0l25.length cyown5_0l25), (33, pv bs1 0)] (by kernel_rfl) (OkQ.op rfl (OpQ.step (v := .int .i64 xt.lab.1) (Yields.load 1 rfl rfl Tryz.underlying3 rfl (by kernel_rfl)) rfl rfl (OkQ.op rfl (OpQ.callG (v := sv (sgnM xt.lab.1)) enr (fun W hW => sgn_c xt.lab.1) rfl ?_))))))
      obtain ⟨hp13, hF⟩ := hF
      refine OkQ.op rfl (OpQ.callG (v := sv (joinS yown5_0l25 (sgnM xt.lab.1))) enr (fun W hW => join_c yown5_0l25 (sgnM xt.lab.1) (hW.seeOwn 0 rfl hLyown5_0l25) hp13) rfl ?_)
      obtain ⟨hv, hF⟩ := hF
      refine OkQ.op rfl (OpQ.step (v := sv (((wrdM xt.lab.1) ++ ([40] : Bs)) ++ (joinS yown5_0l25 (sgnM xt.lab.1)))) (Yields.strAdd rfl rfl hv) rfl rfl ?_)
      obtain ⟨hv, hF⟩ := hF
      refine OkQ.op rfl (OpQ.step (v := sv ((((wrdM xt.lab.1) ++ ([40] : Bs)) ++ (joinS yown5_0l25 (sgnM xt.lab.1))) ++ ([41] : Bs))) (Yields.strAdd rfl rfl hv) rfl rfl (OkQ.batch 1 [(2, sv ((((wrdM xt.lab.1) ++ ([40] : Bs)) ++ (joinS yown5_0l25 (sgnM xt.lab.1))) ++ ([41] : Bs)))] (by kernel_rfl) (OkQ.nil (Ok.thenN (Ok.ret ?_)))))
      exact Ok.resP (vs := [sv ((((wrdM xt.lab.1) ++ ([40] : Bs)) ++ (joinS yown5_0l25 (sgnM xt.lab.1))) ++ ([41] : Bs))]) [] [] (by decide) rfl (.inl rfl) rfl (.cons (.tmp rfl) .nil) hxl25 ⟨((((wrdM xt.lab.1) ++ ([40] : Bs)) ++ (joinS yown5_0l25 (sgnM xt.lab.1))) ++ ([41] : Bs)), rfl, rfl, hF⟩
theorem tx_0 (t : Tm) : ¬ txP 0 t := fun h => absurd h.1 (Nat.not_lt_zero _)
theorem tx_dm {N : Nat} {t : Tm} (h : txP N t) : dmP t.lab.2 := by
 obtain ⟨x, l⟩ := t
 have h2 := h.2
 rw [wt_mk] at h2
 show dmP x.2
 unfold dmP; omega
theorem tx_kid {N : Nat} {t : Tm} {i : Nat} (h : txP (N + 1) t) (hi : i < t.kids.length) : txP N (t.kids.getD i default) := by
 have := wt_kid hi
 have h1 := h.1
 have h2 := h.2
 exact ⟨by omega, by omega⟩
theorem join_all {N : Nat} {t : Tm} (h : txP N t) (k : Int) : (joinS (t.kids.map txS) (sgnM k)).length ≤ 1000100 * 1048576 := by
 obtain ⟨x, l⟩ := t
 have h2 := h.2
 rw [wt_mk] at h2
 have hs := sgn_len k
 have : (Lib.join (l.map txS) (sgnM k)).length ≤ 1000100 * wtL l := by
  refine Nat.le_trans (join_sum _ _) ?_
  clear h h2
  induction l with
  | nil => exact Nat.zero_le _
  | cons t l ihl =>
   have a := tx_len t
   unfold wtL at ihl ⊢
   simp only [List.map_cons, List.sum_cons]; omega
 show (Lib.join (l.map txS) (sgnM k)).length ≤ _
 omega
theorem tx_F (N : Nat) (t : Tm) (h : txP (N + 1) t) : txF N t (fun r => r = txS t) := by
 have hk := len_kids t
 have hw := h.2
 have e : txS t = if (!(shpM t)) = true then [] else if (t.lab.1 == 1) = true then dmS t.lab.2 else (((wrdM t.lab.1) ++ ([40] : Bs)) ++ (joinS (t.kids.map txS) (sgnM t.lab.1))) ++ ([41] : Bs) := by
  obtain ⟨x, l⟩ := t
  rw [txS, txL_eq]; rfl
 refine ⟨fun hs => ?_, fun hs => ⟨fun h1 => ⟨tx_dm h, ?_⟩, fun h1 => ?_⟩⟩
 ·rw [e, if_t hs]
 ·rw [e, if_f hs, if_t h1]
 ·rw [if_f hs, if_f h1] at e
  have loop : ∀ (n i : Nat), i + n = t.kids.length → txl25 N t (fun r => r = txS t) (n + 1) (i : Int) ((t.kids.take i).map txS) := by
   intro n
   induction n with
   | zero =>
    intro i hi
    have w := wrd_len t.lab.1
    have jl := join_all h t.lab.1
    have hl : ((t.kids.take i).map txS) = t.kids.map txS := by rw [List.take_of_length_le (by omega)]
    refine ⟨fun hc => absurd (of_decide_eq_true hc) (by omega), fun _ => ?_⟩
    rw [hl]
    refine ⟨by rw [maxLen_eq, List.length_singleton]; omega, ⟨by rw [List.length_map]; omega, Nat.le_trans jl (by omega)⟩, ?_, ?_, e.symm⟩
    ·rw [maxLen_eq, List.length_append, List.length_singleton]; omega
    ·rw [maxLen_eq, List.length_append, List.length_append, List.length_singleton, List.length_singleton]; omega
   | succ n ih =>
    intro i hi
    have hlen : ((t.kids.take i).map txS).length ≤ 1048576 := by rw [List.length_map, List.length_take]; omega
    refine ⟨fun _ => ⟨by omega, by rw [Int.toNat_natCast]; omega, by rw [Int.toNat_natCast]; exact tx_kid h (by omega), by rw [List.length_append, List.length_singleton]; omega, ?_⟩, fun hc => absurd (of_decide_eq_false hc) (by omega)⟩
    rw [Int.toNat_natCast, w64 (by omega), show (i : Int) + 1 = ((i + 1 : Nat) : Int) by omega]
    have := ih (i + 1) (by omega)
    rw [take_get default (by omega : i < t.kids.length), List.map_append] at this
    exact this
  exact ⟨_, loop t.kids.length 0 (by omega)⟩
theorem tx_rec : ∀ N, tx_C N
 | 0 => (by intro g axt_0 cxt_0 xt hRxt_0 hG2 hp; exact (tx_0 xt hp).elim)
 | N + 1 =>
  have ih := tx_rec N
  (by intro g axt_0 cxt_0 xt hRxt_0 hG2 hp; exact (tx_ok N ih xt hRxt_0 hG2 _ (tx_F N xt hp)).gives (by rintro g' H' v _ ⟨r0, rfl, rfl, hK⟩; subst hK; rfl))
def txPE (xt : Tree (Int × Int × Bs)) : Prop := ∃ N, txP N xt
theorem tx_c {g : Ghost} {axt_0 : Option Addr} {cxt_0 : Nat} (xt : Tree (Int × Int × Bs)) (hRxt_0 : Rep g (.slice (.tree (.pair (.int .i64) (.pair (.int .i64) (.str))))) [.slice axt_0 xt.kids.length cxt_0] xt.kids) (hG2 : GlobL g 2 (.int .u64) DPow)  (hp : txPE xt) : CallsG Tryz.prog 9 #[.agg #[.int .i64 xt.lab.1, .int .i64 xt.lab.2.1, sv xt.lab.2.2, .slice axt_0 xt.kids.length cxt_0]] g (sv (txS xt)) := by
 obtain ⟨N, hp⟩ := hp
 exact (tx_rec N) _ xt hRxt_0 hG2 hp
mutual
def cnS : Tm → Int
 | .mk x l => if (!(shpM (.mk x l))) = true then 31 else cnL l 1
def cnL : List Tm → Int → Int
 | [], n => n
 | t :: l, n => if n ≤ 30 then cnL l (n + cnS t) else n
end
theorem cn_bd : ∀ t : Tm, 1 ≤ cnS t ∧ cnS t ≤ 8 * wt t := by
 refine Tree.ind fun x l ih => ?_
 rw [wt_mk, cnS]
 split
 ·omega
 ·have : ∀ l : List Tm, (∀ k ∈ l, 1 ≤ cnS k ∧ cnS k ≤ 8 * wt k) → ∀ n : Int, 1 ≤ n → n ≤ cnL l n ∧ cnL l n ≤ n + 8 * wtL l := by
   intro l
   induction l with
   | nil => intro _ n hn; rw [cnL]; omega
   | cons t l ihl =>
    intro ih n hn
    have a := ih t (List.mem_cons_self ..)
    have b := ihl (fun k hk => ih k (List.mem_cons_of_mem _ hk)) (n + cnS t) (by omega)
    rw [cnL]
    unfold wtL at b ⊢
    rw [List.map_cons, List.sum_cons]
    split <;> omega
  have := this l ih 1 (by omega)
  omega
def cnP (N : Nat) (t : Tm) : Prop := txP N t
def cn_C (N : Nat) : Prop := ∀ (g : Ghost) {axt_0 : Option Addr} {cxt_0 : Nat} (xt : Tree (Int × Int × Bs)) (hRxt_0 : Rep g (.slice (.tree (.pair (.int .i64) (.pair (.int .i64) (.str))))) [.slice axt_0 xt.kids.length cxt_0] xt.kids)  (hp : cnP N xt), CallsG Tryz.prog 6 #[.agg #[.int .i64 xt.lab.1, .int .i64 xt.lab.2.1, sv xt.lab.2.2, .slice axt_0 xt.kids.length cxt_0]] g (.int .i64 (cnS xt))
def cnl17b (N : Nat) (xt : Tree (Int × Int × Bs)) (K : Int → Prop) (x3l17 : Int) (x4l17 : Int) (C17 : Int → Int → Prop) : Prop :=
 ((((decide (x4l17 < (xt.kids.length : Int))) && (decide (x3l17 ≤ 30)))) = true → (0 : Int) ≤ x4l17 ∧ Int.toNat x4l17 < xt.kids.length ∧ cnP N (xt.kids.getD (Int.toNat x4l17) default) ∧ C17 (w6 (x3l17 + (cnS (xt.kids.getD (Int.toNat x4l17) default)))) (w6 (x4l17 + 1))) ∧ ((((decide (x4l17 < (xt.kids.length : Int))) && (decide (x3l17 ≤ 30)))) = false → K x3l17)
def cnl17 (N : Nat) (xt : Tree (Int × Int × Bs)) (K : Int → Prop) : Nat → Int → Int → Prop
 | 0, _, _ => False
 | k + 1, x3l17, x4l17 => cnl17b N xt K x3l17 x4l17 (cnl17 N xt K k)
def cnF (N : Nat) (xt : Tree (Int × Int × Bs)) (K : Int → Prop) : Prop :=
 ((!(rmayM xt)) = true → K 31) ∧ ((!(rmayM xt)) = false → ∃ k, cnl17 N xt K k 1 0)
theorem cn_ok {g : Ghost} (N : Nat) (ih_cn : cn_C N) {axt_0 : Option Addr} {cxt_0 : Nat} (xt : Tree (Int × Int × Bs)) (hRxt_0 : Rep g (.slice (.tree (.pair (.int .i64) (.pair (.int .i64) (.str))))) [.slice axt_0 xt.kids.length cxt_0] xt.kids) (K : Int → Prop)
  (hF : cnF N xt K) : CallsH Tryz.prog 6 #[.agg #[.int .i64 xt.lab.1, .int .i64 xt.lab.2.1, sv xt.lab.2.2, .slice axt_0 xt.kids.length cxt_0]] g [] (fun g' H' v => ∃ (r0 : Int), v = .int .i64 r0 ∧ H' = [] ∧ K r0) := by
 refine CallsH.enter 28 [(0, .agg #[.int .i64 xt.lab.1, .int .i64 xt.lab.2.1, sv xt.lab.2.2, .slice axt_0 xt.kids.length cxt_0])] Tryz.func6 rfl (by kernel_rfl) (by kernel_rfl) (by kernel_rfl) fun w0 => ?_
 refine Ok.seq (Ok.region (Ok.op rfl (OpOk.box (v := .agg #[.int .i64 xt.lab.1, .int .i64 xt.lab.2.1, sv xt.lab.2.2, .slice axt_0 xt.kids.length cxt_0]) (cs := #[.int .i64 xt.lab.1, .int .i64 xt.lab.2.1, sv xt.lab.2.2, .slice axt_0 xt.kids.length cxt_0]) rfl (by kernel_rfl) rfl fun bs1 => ?_)))
 refine Ok.batch 1 [(1, pv bs1 0)] (by kernel_rfl) (Ok.nil (Ok.thenN (Ok.seq (Ok.seq (Ok.region (Ok.op rfl (OpOk.step (v := .agg #[.int .i64 xt.lab.1, .int .i64 xt.lab.2.1, sv xt.lab.2.2, .slice axt_0 xt.kids.length cxt_0]) (Yields.loadAgg 0 4 #[.int .i64 xt.lab.1, .int .i64 xt.lab.2.1, sv xt.lab.2.2, .slice axt_0 xt.kids.length cxt_0] rfl rfl Tryz.underlying26 rfl (by kernel_rfl) (by kernel_rfl) (by kernel_rfl)) rfl rfl (Ok.op rfl (OpOk.callG (v := .bool (rmayM xt)) enr (fun W hW => rmay_c xt (hRxt_0.mono hW.sees)) rfl ?_)))))))))
 refine Ok.bat 1 [1] [(7, .bool (!(rmayM xt)))] ?_
 refine Ok.nil (Ok.thenN (Ok.cond (b := !(rmayM xt)) rfl (fun hc2 => ?_) (fun hc2 => ?_)))
 ·replace hF := hF.1 hc2
  refine Ok.seq (Ok.region (Ok.batch 1 [(2, .int .i64 31)] (by kernel_rfl) (Ok.nil (Ok.thenN (Ok.ret (Ok.thenR ?_))))))
  exact Ok.resP (vs := [.int .i64 31]) [] [] (by decide) rfl (.inl rfl) rfl (.cons (.tmp rfl) .nil) (Gext.refl w0 g) ⟨31, rfl, rfl, hF⟩
 ·replace hF := hF.2 hc2
  refine Ok.skip (Ok.thenN (Ok.seq (Ok.region (Ok.bat 1 [1] [(3, .int .i64 1)] ?_))))
  refine Ok.nil (Ok.thenN (Ok.seq (Ok.seq (Ok.region (Ok.bat 1 [1, 3] [(4, .int .i64 0)] ?_)))))
  refine Ok.nil (Ok.thenN (Ok.block ?_))
  obtain ⟨k, hF⟩ := hF
  refine Ok.loop (fun k a W => ∃ (x3l17 : Int) (x4l17 : Int), StA 28 [(1, pv bs1 0), (3, .int .i64 x3l17), (4, .int .i64 x4l17)] a ∧ StW w0 [.blk bs1 (.cells #[.int .i64 xt.lab.1, .int .i64 xt.lab.2.1, sv xt.lab.2.2, .slice axt_0 xt.kids.length cxt_0] 26)] g W ∧ cnl17 N xt K k x3l17 x4l17) k ?_ ?_
  ·
   exact fun a W hA hW => ⟨1, 0, hA.sub (by kernel_rfl), hW, hF⟩
  ·
   clear hF
   rintro k17 a W ⟨x3l17, x4l17, hA, hW, hF⟩
   cases k17 with
   | zero => exact (hF : False).elim
   | succ k17 =>
    refine (?_ : Ok _ _ _ _ _ _) a W hA hW
    clear hA hW
    refine Ok.seq (Ok.seq (Ok.region (Ok.bat 2 [1, 3, 4] [(8, .int .i64 x4l17), (9, pv bs1 3)] ?_)))
    refine Ok.op rfl (OpOk.step (v := .slice axt_0 xt.kids.length cxt_0) (Yields.load 0 rfl rfl Tryz.underlying24 rfl (by kernel_rfl)) rfl rfl (Ok.bat 3 [1, 3, 4] [(13, .bool (decide (x4l17 < (xt.kids.length : Int))))] ?_))
    refine Ok.midway 3 [(1, pv bs1 0), (3, .int .i64 x3l17), (4, .int .i64 x4l17), (16, .bool ((decide (x4l17 < (xt.kids.length : Int))) && (decide (x3l17 ≤ 30))))] (fun hR3 => ?_) ?_
    ·refine Ok.boolAt 13 (decide (x4l17 < (xt.kids.length : Int))) rfl (fun hc4 => ?_) (fun hc4 => ?_)
     ·skip
      refine Ok.bat 3 [1, 3, 4] [(16, .bool (decide (x3l17 ≤ 30)))] ?_
      refine Ok.reval 16 rfl (show (.bool (decide (x3l17 ≤ 30)) : Value) = .bool ((decide (x4l17 < (xt.kids.length : Int))) && (decide (x3l17 ≤ 30))) from congrArg Value.bool (mand_t hc4)) (Ok.bat 0 [1, 3, 4] [(16, .bool ((decide (x4l17 < (xt.kids.length : Int))) && (decide (x3l17 ≤ 30))))] ?_)
      exact hR3
     ·skip
      refine Ok.bat 3 [1, 3, 4] [(16, .bool false)] ?_
      refine Ok.reval 16 rfl (show (.bool false : Value) = .bool ((decide (x4l17 < (xt.kids.length : Int))) && (decide (x3l17 ≤ 30))) from congrArg Value.bool (mand_f hc4)) (Ok.bat 0 [1, 3, 4] [(16, .bool ((decide (x4l17 < (xt.kids.length : Int))) && (decide (x3l17 ≤ 30))))] ?_)
      exact hR3
    refine Ok.nil (Ok.thenN (Ok.cond (b := ((decide (x4l17 < (xt.kids.length : Int))) && (decide (x3l17 ≤ 30)))) rfl (fun hc5 => ?_) (fun hc5 => ?_)))
    ·replace hF := hF.1 hc5
     refine Ok.skip (Ok.thenN (Ok.seq (Ok.block (Ok.region (Ok.bat 2 [1, 4] [(19, .int .i64 x3l17), (20, pv bs1 3)] ?_)))))
     refine Ok.op rfl (OpOk.step (v := .slice axt_0 xt.kids.length cxt_0) (Yields.load 0 rfl rfl Tryz.underlying24 rfl (by kernel_rfl)) rfl rfl (Ok.bat 1 [1, 4, 19] [(21, .slice axt_0 xt.kids.length cxt_0), (22, .int .i64 x4l17)] ?_))
     obtain ⟨h07, h17, hF⟩ := hF
     have he7 := get_of (l := xt.kids) (default : Tree (Int × Int × Bs)) h17
     generalize hg7 : (xt.kids.getD (Int.toNat x4l17) default) = e7 at he7 hF ⊢
     refine Ok.op rfl (OpOk.indexRo (e := .tree (.pair (.int .i64) (.pair (.int .i64) (.str)))) (i := x4l17) (el := e7) rfl rfl Tryz.underlying24 (by kernel_rfl) hRxt_0 h07 he7 rfl fun q6 o6 cs6 _ hat6 hr6 => ?_)
     have hT6_0 := hr6
     replace hT6_0 := Rep.tree.1 hT6_0
     obtain ⟨_, _, rfl, ⟨_, _, rfl, rfl, ⟨_, _, rfl, rfl, rfl⟩⟩, ⟨a6_3, c6_3, rfl, hm6_3, hr6_3⟩⟩ := hT6_0
     have hR6_3 : Rep g (.slice (.tree (.pair (.int .i64) (.pair (.int .i64) (.str))))) [.slice a6_3 e7.kids.length c6_3] e7.kids := ⟨a6_3, c6_3, rfl, hm6_3, hr6_3⟩
     replace hat6 : At g q6 o6 [.int .i64 e7.lab.1, .int .i64 e7.lab.2.1, sv e7.lab.2.2, .slice a6_3 e7.kids.length c6_3] := hat6
     refine Ok.op rfl (OpOk.step (v := .agg #[.int .i64 e7.lab.1, .int .i64 e7.lab.2.1, sv e7.lab.2.2, .slice a6_3 e7.kids.length c6_3]) (Yields.loadAggRo 0 4 #[.int .i64 e7.lab.1, .int .i64 e7.lab.2.1, sv e7.lab.2.2, .slice a6_3 e7.kids.length c6_3] hat6 (by kernel_rfl) Tryz.underlying26 rfl (by kernel_rfl) (by kernel_rfl) (by kernel_rfl)) rfl rfl ?_)
     obtain ⟨hp8, hF⟩ := hF
     refine Ok.op rfl (OpOk.callG (v := .int .i64 (cnS e7)) enr (fun W hW => ih_cn _ e7 (hR6_3.mono hW.sees) hp8) rfl ?_)
     refine Ok.bat 2 [1, 4] [(3, .int .i64 (w6 (x3l17 + (cnS e7))))] ?_
     refine Ok.nil (Ok.blockN (Ok.thenN (Ok.region (Ok.bat 3 [1, 3] [(4, .int .i64 (w6 (x4l17 + 1)))] ?_))))
     refine Ok.nil (Ok.thenN ?_)
     subst hg7
     exact fun a W hA hW => ⟨k17, Nat.lt_succ_self _, w6 (x3l17 + (cnS (xt.kids.getD (Int.toNat x4l17) default))), w6 (x4l17 + 1), hA.sub (by kernel_rfl), hW, hF⟩
    ·replace hF := hF.2 hc5
     refine Ok.exit (Ok.thenE (Ok.thenE (Ok.blockHit (Ok.thenN (Ok.seq (Ok.region (Ok.batch 2 [(2, .int .i64 x3l17)] (by kernel_rfl) (Ok.nil (Ok.thenN (Ok.ret ?_))))))))))
     exact Ok.resP (vs := [.int .i64 x3l17]) [] [] (by decide) rfl (.inl rfl) rfl (.cons (.tmp rfl) .nil) (Gext.refl w0 g) ⟨x3l17, rfl, rfl, hF⟩
theorem cn_0 (t : Tm) : ¬ cnP 0 t := tx_0 t
theorem cn_F (N : Nat) (t : Tm) (h : cnP (N + 1) t) : cnF N t (fun r => r = cnS t) := by
 have hk := len_kids t
 have hw := h.2
 have e : cnS t = if (!(shpM t)) = true then 31 else cnL t.kids 1 := by
  obtain ⟨x, l⟩ := t
  rw [cnS]; rfl
 unfold cnF
 rw [may_eq]
 refine ⟨fun hs => by rw [e, if_t hs], fun hs => ?_⟩
 rw [if_f hs] at e
 have loop : ∀ (m i : Nat) (n : Int), i + m = t.kids.length → 1 ≤ n → n ≤ 10000000 → cnL t.kids 1 = cnL (t.kids.drop i) n → cnl17 N t (fun r => r = cnS t) (m + 1) n (i : Int) := by
  intro m
  induction m with
  | zero =>
   intro i n hi h1 h2 he
   refine ⟨fun hc => ?_, fun _ => ?_⟩
   ·rw [Bool.and_eq_true] at hc
    exact absurd (of_decide_eq_true hc.1) (by omega)
   ·rw [e, he, List.drop_of_length_le (by omega), cnL]
  | succ m ih =>
   intro i n hi h1 h2 he
   have hi' : i < t.kids.length := by omega
   have kb := cn_bd (t.kids.getD i default)
   have kw := wt_kid hi'
   rw [drop_get (l := t.kids) default hi', cnL] at he
   refine ⟨fun hc => ?_, fun hc => ?_⟩
   ·rw [Bool.and_eq_true] at hc
    have hn := of_decide_eq_true hc.2
    rw [if_pos hn] at he
    rw [Int.toNat_natCast, w64 (by omega), w64 (by omega), show (i : Int) + 1 = ((i + 1 : Nat) : Int) by omega]
    exact ⟨by omega, hi', tx_kid h hi', ih (i + 1) _ (by omega) (by omega) (by omega) he⟩
   ·rw [decide_eq_true (by omega : (i : Int) < (t.kids.length : Int)), Bool.true_and] at hc
    rw [if_neg (of_decide_eq_false hc)] at he
    rw [e, he]
 exact ⟨_, loop t.kids.length 0 1 (by omega) (by omega) (by omega) (by rw [List.drop_zero])⟩
theorem cn_rec : ∀ N, cn_C N
 | 0 => (by intro g axt_0 cxt_0 xt hRxt_0 hp; exact (cn_0 xt hp).elim)
 | N + 1 =>
  have ih := cn_rec N
  (by intro g axt_0 cxt_0 xt hRxt_0 hp; exact (cn_ok N ih xt hRxt_0 _ (cn_F N xt hp)).gives (by rintro g' H' v _ ⟨r0, rfl, rfl, hK⟩; subst hK; rfl))
def cnPE (xt : Tree (Int × Int × Bs)) : Prop := ∃ N, cnP N xt
theorem cn_c {g : Ghost} {axt_0 : Option Addr} {cxt_0 : Nat} (xt : Tree (Int × Int × Bs)) (hRxt_0 : Rep g (.slice (.tree (.pair (.int .i64) (.pair (.int .i64) (.str))))) [.slice axt_0 xt.kids.length cxt_0] xt.kids)  (hp : cnPE xt) : CallsG Tryz.prog 6 #[.agg #[.int .i64 xt.lab.1, .int .i64 xt.lab.2.1, sv xt.lab.2.2, .slice axt_0 xt.kids.length cxt_0]] g (.int .i64 (cnS xt)) := by
 obtain ⟨N, hp⟩ := hp
 exact (cn_rec N) _ xt hRxt_0 hp
def twiV0 : Bool :=
 (((rdR ([99, 97, 108, 99, 40, 49, 112, 120, 32, 42, 32, 50, 41] : Bs)).2 == 0) && ((txS (rdR ([99, 97, 108, 99, 40, 49, 112, 120, 32, 42, 32, 50, 41] : Bs)).1) == ([40, 49, 112, 120, 32, 42, 32, 50, 41] : Bs)))
def twij5 (K : Bool → Prop) : Prop :=
 K twiV0
def twiF (K : Bool → Prop) : Prop :=
 rdP ([99, 97, 108, 99, 40, 49, 112, 120, 32, 42, 32, 50, 41] : Bs) ∧ ((((rdR ([99, 97, 108, 99, 40, 49, 112, 120, 32, 42, 32, 50, 41] : Bs)).2 == 0)) = true → txPE (rdR ([99, 97, 108, 99, 40, 49, 112, 120, 32, 42, 32, 50, 41] : Bs)).1 ∧ twij5 K) ∧ ((((rdR ([99, 97, 108, 99, 40, 49, 112, 120, 32, 42, 32, 50, 41] : Bs)).2 == 0)) = false → twij5 K)
theorem twi_ok {g : Ghost}  (hG0 : Glob g 0 (.slice (.str)) DUnits) (hG1 : SomeInt g 1) (hG2 : GlobL g 2 (.int .u64) DPow) (K : Bool → Prop)
  (hF : twiF K) : CallsH Tryz.prog 4 #[] g [] (fun g' H' v => ∃ (r0 : Bool), v = .bool r0 ∧ H' = [] ∧ K r0) := by
 refine CallsH.enter 14 [] Tryz.func4 rfl (by kernel_rfl) (by kernel_rfl) (by kernel_rfl) fun w0 => ?_
 refine Ok.seq (Ok.region (Ok.batch 1 [] (by kernel_rfl) (Ok.nil (Ok.thenN (Ok.seq (Ok.region ?_))))))
 obtain ⟨hp1, hF⟩ := hF
 refine Ok.op rfl (OpOk.callH [] _ enr rfl (rd_c ([99, 97, 108, 99, 40, 49, 112, 120, 32, 42, 32, 50, 41] : Bs) hG0 hG1 hp1) rfl fun g2 _ _ hx2 hV2 => ?_)
 obtain ⟨a2_0, c2_0, rfl, hR2_0, rfl⟩ := hV2
 replace hG0 := hG0.mono hx2.1
 replace hG1 := hG1.mono hx2.1
 replace hG2 := hG2.mono hx2.1
 refine Ok.batch 3 [(5, .agg #[.int .i64 (((rdR ([99, 97, 108, 99, 40, 49, 112, 120, 32, 42, 32, 50, 41] : Bs)).1).lab.1), .int .i64 (((rdR ([99, 97, 108, 99, 40, 49, 112, 120, 32, 42, 32, 50, 41] : Bs)).1).lab.2).1, sv ((((rdR ([99, 97, 108, 99, 40, 49, 112, 120, 32, 42, 32, 50, 41] : Bs)).1).lab.2).2), .slice a2_0 (((rdR ([99, 97, 108, 99, 40, 49, 112, 120, 32, 42, 32, 50, 41] : Bs)).1).kids).length c2_0]), (6, .int .i64 (rdR ([99, 97, 108, 99, 40, 49, 112, 120, 32, 42, 32, 50, 41] : Bs)).2)] (by kernel_rfl) (Ok.op rfl (OpOk.alloc (z := .agg #[.int .i64 0, .int .i64 0, sv ([] : Bs), .slice none 0 0]) (cs := #[.int .i64 0, .int .i64 0, sv ([] : Bs), .slice none 0 0]) (by kernel_rfl) (by kernel_rfl) rfl fun bs1 => ?_))
 refine Ok.op rfl (OpOk.sto (k := 4) (v := .agg #[.int .i64 (((rdR ([99, 97, 108, 99, 40, 49, 112, 120, 32, 42, 32, 50, 41] : Bs)).1).lab.1), .int .i64 (((rdR ([99, 97, 108, 99, 40, 49, 112, 120, 32, 42, 32, 50, 41] : Bs)).1).lab.2).1, sv ((((rdR ([99, 97, 108, 99, 40, 49, 112, 120, 32, 42, 32, 50, 41] : Bs)).1).lab.2).2), .slice a2_0 (((rdR ([99, 97, 108, 99, 40, 49, 112, 120, 32, 42, 32, 50, 41] : Bs)).1).kids).length c2_0]) 0 #[.int .i64 (((rdR ([99, 97, 108, 99, 40, 49, 112, 120, 32, 42, 32, 50, 41] : Bs)).1).lab.1), .int .i64 (((rdR ([99, 97, 108, 99, 40, 49, 112, 120, 32, 42, 32, 50, 41] : Bs)).1).lab.2).1, sv ((((rdR ([99, 97, 108, 99, 40, 49, 112, 120, 32, 42, 32, 50, 41] : Bs)).1).lab.2).2), .slice a2_0 (((rdR ([99, 97, 108, 99, 40, 49, 112, 120, 32, 42, 32, 50, 41] : Bs)).1).kids).length c2_0] rfl rfl rfl ?_)
 refine Ok.batch 1 [(1, pv bs1 0), (2, .int .i64 (rdR ([99, 97, 108, 99, 40, 49, 112, 120, 32, 42, 32, 50, 41] : Bs)).2)] (by kernel_rfl) (Ok.nil (Ok.thenN (Ok.cut (fun a W => ∃ gj5 : Ghost, Gext w0 g2 gj5 ∧ StA 14 [(0, .bool twiV0)] a ∧ StW w0 [] gj5 W ∧ twij5 K) ?_ ?_)))
 ·
  refine Ok.region (Ok.bat 3 [1] [(9, .bool ((rdR ([99, 97, 108, 99, 40, 49, 112, 120, 32, 42, 32, 50, 41] : Bs)).2 == 0))] ?_)
  refine Ok.boolAt 9 (((rdR ([99, 97, 108, 99, 40, 49, 112, 120, 32, 42, 32, 50, 41] : Bs)).2 == 0)) rfl (fun hc4 => ?_) (fun hc4 => ?_)
  ·replace hF := hF.1 hc4
   refine Ok.opYes (j := 2) (d := 9) (want := true) (b := true) rfl (by kernel_rfl) (by kernel_rfl) rfl (OpOk.step (v := .agg #[.int .i64 (((rdR ([99, 97, 108, 99, 40, 49, 112, 120, 32, 42, 32, 50, 41] : Bs)).1).lab.1), .int .i64 (((rdR ([99, 97, 108, 99, 40, 49, 112, 120, 32, 42, 32, 50, 41] : Bs)).1).lab.2).1, sv ((((rdR ([99, 97, 108, 99, 40, 49, 112, 120, 32, 42, 32, 50, 41] : Bs)).1).lab.2).2), .slice a2_0 (((rdR ([99, 97, 108, 99, 40, 49, 112, 120, 32, 42, 32, 50, 41] : Bs)).1).kids).length c2_0]) (Yields.loadAgg 0 4 #[.int .i64 (((rdR ([99, 97, 108, 99, 40, 49, 112, 120, 32, 42, 32, 50, 41] : Bs)).1).lab.1), .int .i64 (((rdR ([99, 97, 108, 99, 40, 49, 112, 120, 32, 42, 32, 50, 41] : Bs)).1).lab.2).1, sv ((((rdR ([99, 97, 108, 99, 40, 49, 112, 120, 32, 42, 32, 50, 41] : Bs)).1).lab.2).2), .slice a2_0 (((rdR ([99, 97, 108, 99, 40, 49, 112, 120, 32, 42, 32, 50, 41] : Bs)).1).kids).length c2_0] rfl rfl Tryz.underlying26 rfl (by kernel_rfl) (by kernel_rfl) (by kernel_rfl)) rfl rfl ?_)
   obtain ⟨hp5, hF⟩ := hF
   refine Ok.opYes (j := 2) (d := 9) (want := true) (b := true) rfl (by kernel_rfl) (by kernel_rfl) rfl (OpOk.callG (v := sv (txS (rdR ([99, 97, 108, 99, 40, 49, 112, 120, 32, 42, 32, 50, 41] : Bs)).1)) enr (fun W hW => tx_c (rdR ([99, 97, 108, 99, 40, 49, 112, 120, 32, 42, 32, 50, 41] : Bs)).1 (hR2_0.mono hW.sees) (hG2.mono hW.sees) hp5) rfl ?_)
   refine Ok.opYes (j := 2) (d := 9) (want := true) (b := true) rfl (by kernel_rfl) (by kernel_rfl) rfl (OpOk.step (v := .bool ((txS (rdR ([99, 97, 108, 99, 40, 49, 112, 120, 32, 42, 32, 50, 41] : Bs)).1) == ([40, 49, 112, 120, 32, 42, 32, 50, 41] : Bs))) (Yields.strCmp (f := .eql) (a := (txS (rdR ([99, 97, 108, 99, 40, 49, 112, 120, 32, 42, 32, 50, 41] : Bs)).1)) (b := ([40, 49, 112, 120, 32, 42, 32, 50, 41] : Bs)) (by kernel_rfl) (by kernel_rfl) rfl) rfl rfl (Ok.batch 2 [(0, .bool ((txS (rdR ([99, 97, 108, 99, 40, 49, 112, 120, 32, 42, 32, 50, 41] : Bs)).1) == ([40, 49, 112, 120, 32, 42, 32, 50, 41] : Bs)))] (by kernel_rfl) (Ok.nil (Ok.thenN (Ok.reval 0 rfl (show (.bool ((txS (rdR ([99, 97, 108, 99, 40, 49, 112, 120, 32, 42, 32, 50, 41] : Bs)).1) == ([40, 49, 112, 120, 32, 42, 32, 50, 41] : Bs)) : Value) = .bool twiV0 from congrArg (Value.bool) (mand_t hc4)) ?_)))))
   exact fun a W hA hW => ⟨g2, (Gext.refl w0 g2), hA.sub (by kernel_rfl), hW.sub (.cons _ .slnil), hF⟩
  ·replace hF := hF.2 hc4
   refine Ok.batch 5 [(0, .bool false)] (by kernel_rfl) (Ok.nil (Ok.thenN (Ok.reval 0 rfl (show (.bool false : Value) = .bool twiV0 from congrArg (Value.bool) (mand_f hc4)) ?_)))
   exact fun a W hA hW => ⟨g2, (Gext.refl w0 g2), hA.sub (by kernel_rfl), hW.sub (.cons _ .slnil), hF⟩
 ·
  clear hF
  rintro a W ⟨gj5, hxj5, hA, hW, hF⟩
  refine (?_ : Ok _ _ _ _ _ _) a W hA hW
  clear hA hW
  replace hG0 := hG0.mono hxj5.1
  replace hG1 := hG1.mono hxj5.1
  replace hG2 := hG2.mono hxj5.1
  refine Ok.ret ?_
  exact Ok.resH (vs := [.bool twiV0]) (.inl rfl) rfl (.cons (.tmp rfl) .nil) (hx2.trans hxj5) ⟨twiV0, rfl, rfl, hF⟩
theorem tx_T1 : txS T1 = [40, 49, 112, 120, 32, 42, 32, 50, 41] := by decide +kernel
theorem txe {t : Tm} (h : wt t ≤ 1048576) : txPE t := ⟨wt t + 1, by omega, h⟩
theorem twi_F : twiF (fun r => r = true) := by
 have key : twij5 (fun r => r = true) := by
  unfold twij5
  show ((0 : Int) == 0 && txS T1 == _) = true
  rw [tx_T1]; rfl
 exact ⟨rfl, fun _ => ⟨txe (by decide +kernel), key⟩, fun _ => key⟩
theorem twi_c {g : Ghost}  (hG0 : Glob g 0 (.slice (.str)) DUnits) (hG1 : SomeInt g 1) (hG2 : GlobL g 2 (.int .u64) DPow)  : CallsG Tryz.prog 4 #[] g (.bool true) :=
 (twi_ok  hG0 hG1 hG2 _ (twi_F )).gives (by rintro g' H' v _ ⟨r0, rfl, rfl, hK⟩; subst hK; rfl)
end Go.Proofs.YtogcmkphibegbaaGreatDoor.Cl
