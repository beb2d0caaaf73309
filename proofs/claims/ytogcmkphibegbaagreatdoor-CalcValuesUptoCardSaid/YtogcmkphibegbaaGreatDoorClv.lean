/- calc: the value of a term; the functions of numbers. -/
import Derived.Test.YtogcmkphibegbaaGreatDoorClb
import Derived.Test.YtogcmkphibegbaaGreatDoorDpx
namespace Go.Proofs.YtogcmkphibegbaaGreatDoor.Cl
open Go Go.Eng Go.RowKit Go.Shelf Go.Proofs Bld Trm Css Tk Dm Jo Co
set_option maxHeartbeats 4000000
set_option maxRecDepth 100000
set_option linter.unusedSimpArgs false
set_option linter.unusedVariables false
abbrev Vl := Int × Int
abbrev Sc := Int × Int × Int × Int
def cdnV0 (xn : Int) (xby : Int) : Int :=
 (if (((Int.tmod xn xby) != 0) && (!(decide (xn < 0) == decide (xby < 0)))) = true then w6 ((w6 (Int.tdiv xn xby)) - 1) else w6 (Int.tdiv xn xby))
def cdnj5 (xn : Int) (xby : Int) (K : Int → Prop) : Prop :=
 K (cdnV0 xn xby)
def cdnF (xn : Int) (xby : Int) (K : Int → Prop) : Prop :=
 xby ≠ 0 ∧ xby ≠ 0 ∧ (((((Int.tmod xn xby) != 0) && (!(decide (xn < 0) == decide (xby < 0))))) = true → cdnj5 xn xby K) ∧ (((((Int.tmod xn xby) != 0) && (!(decide (xn < 0) == decide (xby < 0))))) = false → cdnj5 xn xby K)
theorem cdn_ok {g : Ghost} (xn : Int) (xby : Int) (K : Int → Prop)
  (hF : cdnF xn xby K) : CallsH Tryz.prog 46 #[.int .i64 xn, .int .i64 xby] g [] (fun g' H' v => ∃ (r0 : Int), v = .int .i64 r0 ∧ H' = [] ∧ K r0) := by
 refine CallsH.enter 23 [(0, .int .i64 xn), (1, .int .i64 xby)] Tryz.func46 rfl (by kernel_rfl) (by kernel_rfl) (by kernel_rfl) fun w0 => ?_
 refine Ok.seq (Ok.region (Ok.batch 1 [(0, .int .i64 xn), (1, .int .i64 xby)] (by kernel_rfl) (Ok.nil (Ok.thenN (Ok.seq (Ok.region (Ok.bat 2 [0, 1] [(6, .int .i64 xn), (7, .int .i64 xby)] ?_)))))))
 obtain ⟨hv, hF⟩ := hF
 refine Ok.op rfl (OpOk.step (v := .int .i64 (w6 (Int.tdiv xn xby))) (Yields.quo rfl rfl hv) rfl rfl (Ok.bat 1 [0, 1] [(5, .int .i64 (w6 (Int.tdiv xn xby)))] ?_))
 refine Ok.nil (Ok.thenN (Ok.cut (fun a W => StA 23 [(5, .int .i64 (cdnV0 xn xby))] a ∧ StW w0 [] g W ∧ cdnj5 xn xby K) ?_ ?_))
 ·
  refine Ok.seq (Ok.region (Ok.bat 2 [0, 1, 5] [(9, .int .i64 xn), (10, .int .i64 xby)] ?_))
  obtain ⟨hv, hF⟩ := hF
  refine Ok.op rfl (OpOk.step (v := .int .i64 (Int.tmod xn xby)) (Yields.rem rfl rfl hv) rfl rfl (Ok.bat 2 [0, 1, 5] [(13, .bool ((Int.tmod xn xby) != 0))] ?_))
  refine Ok.midway 6 [(5, .int .i64 (w6 (Int.tdiv xn xby))), (19, .bool (((Int.tmod xn xby) != 0) && (!(decide (xn < 0) == decide (xby < 0)))))] (fun hR1 => ?_) ?_
  ·refine Ok.boolAt 13 (((Int.tmod xn xby) != 0)) rfl (fun hc2 => ?_) (fun hc2 => ?_)
   ·skip
    refine Ok.bat 6 [5] [(19, .bool (!(decide (xn < 0) == decide (xby < 0))))] ?_
    refine Ok.reval 19 rfl (show (.bool (!(decide (xn < 0) == decide (xby < 0))) : Value) = .bool (((Int.tmod xn xby) != 0) && (!(decide (xn < 0) == decide (xby < 0)))) from congrArg Value.bool (mand_t hc2)) (Ok.bat 0 [5] [(19, .bool (((Int.tmod xn xby) != 0) && (!(decide (xn < 0) == decide (xby < 0)))))] ?_)
    exact hR1
   ·skip
    refine Ok.bat 6 [5] [(19, .bool false)] ?_
    refine Ok.reval 19 rfl (show (.bool false : Value) = .bool (((Int.tmod xn xby) != 0) && (!(decide (xn < 0) == decide (xby < 0)))) from congrArg Value.bool (mand_f hc2)) (Ok.bat 0 [5] [(19, .bool (((Int.tmod xn xby) != 0) && (!(decide (xn < 0) == decide (xby < 0)))))] ?_)
    exact hR1
  refine Ok.nil (Ok.thenN (Ok.cond (b := (((Int.tmod xn xby) != 0) && (!(decide (xn < 0) == decide (xby < 0))))) rfl (fun hc3 => ?_) (fun hc3 => ?_)))
  ·replace hF := hF.1 hc3
   refine Ok.region (Ok.batch 3 [(5, .int .i64 (w6 ((w6 (Int.tdiv xn xby)) - 1)))] (by kernel_rfl) (Ok.nil (Ok.thenN (Ok.reval 5 rfl (show (.int .i64 (w6 ((w6 (Int.tdiv xn xby)) - 1)) : Value) = .int .i64 (cdnV0 xn xby) from congrArg (Value.int .i64) ((if_t hc3).symm)) ?_))))
   exact fun a W hA hW => ⟨hA.sub (by kernel_rfl), hW, hF⟩
  ·replace hF := hF.2 hc3
   refine Ok.skip (Ok.thenN (Ok.reval 5 rfl (show (.int .i64 (w6 (Int.tdiv xn xby)) : Value) = .int .i64 (cdnV0 xn xby) from congrArg (Value.int .i64) ((if_f hc3).symm)) ?_))
   exact fun a W hA hW => ⟨hA.sub (by kernel_rfl), hW, hF⟩
 ·
  clear hF
  rintro a W ⟨hA, hW, hF⟩
  refine (?_ : Ok _ _ _ _ _ _) a W hA hW
  clear hA hW
  refine Ok.seq (Ok.region (Ok.batch 2 [(4, .int .i64 (cdnV0 xn xby))] (by kernel_rfl) (Ok.nil (Ok.thenN (Ok.ret ?_)))))
  exact Ok.resH (vs := [.int .i64 (cdnV0 xn xby)]) (.inl rfl) rfl (.cons (.tmp rfl) .nil) (Gext.refl w0 g) ⟨(cdnV0 xn xby), rfl, rfl, hF⟩
def cdnj5M (xn : Int) (xby : Int) : Int := (cdnV0 xn xby)
theorem cdnj5_A (xn : Int) (xby : Int) (P : Int → Prop) (h : P (cdnj5M xn xby)) : cdnj5 xn xby (fun k0 => P k0) := by
 unfold cdnj5M at h
 unfold cdnj5
 exact h
def cdnM (xn : Int) (xby : Int) : Int := (cdnj5M xn xby)
theorem cdnF_A (xn : Int) (xby : Int) (hp : byP xn xby) (P : Int → Prop) (h : P (cdnM xn xby)) : cdnF xn xby (fun k0 => P k0) := by
 unfold cdnM at h
 unfold cdnF
 refine ⟨?_, ?_⟩
 ·first | exact hp | omega | assumption | exact trivial | (have h0 := List.length_pos_iff.mpr (by assumption); omega) | (simp; omega) | (simp at *; omega)
 refine ⟨?_, ?_⟩
 ·first | exact hp | omega | assumption | exact trivial | (have h0 := List.length_pos_iff.mpr (by assumption); omega) | (simp; omega) | (simp at *; omega)
 refine ⟨fun hc0 => ?_, fun hc0 => ?_⟩
 ·skip
  have hd0 := hc0; try simp only [Bool.and_eq_true, Bool.or_eq_true, Bool.and_eq_false_iff, Bool.or_eq_false_iff, Bool.not_eq_true', Bool.not_eq_false', decide_eq_true_eq, decide_eq_false_iff_not, beq_iff_eq, beq_eq_false_iff_ne, ne_eq] at hd0
  exact cdnj5_A xn xby _ h
 ·skip
  have hd0 := hc0; try simp only [Bool.and_eq_true, Bool.or_eq_true, Bool.and_eq_false_iff, Bool.or_eq_false_iff, Bool.not_eq_true', Bool.not_eq_false', decide_eq_true_eq, decide_eq_false_iff_not, beq_iff_eq, beq_eq_false_iff_ne, ne_eq] at hd0
  exact cdnj5_A xn xby _ h
theorem cdn_F (xn : Int) (xby : Int) (hp : byP xn xby) : cdnF xn xby (fun k0 => k0 = cdnM xn xby) :=
 cdnF_A xn xby hp (fun z => z = cdnM xn xby) rfl
theorem cdn_c {g : Ghost} (xn : Int) (xby : Int)  (hp : byP xn xby) : CallsG Tryz.prog 46 #[.int .i64 xn, .int .i64 xby] g (.int .i64 (cdnM xn xby)) :=
 (cdn_ok xn xby _ (cdn_F xn xby hp)).gives (by rintro g' H' v _ ⟨r0, rfl, rfl, hK⟩; subst hK; rfl)
def ccutF (xn : Int) (K : Int → Prop) : Prop :=
 K (if 16777216 < (if xn < (-16777216) then (-16777216) else xn) then 16777216 else (if xn < (-16777216) then (-16777216) else xn))
theorem ccut_ok {g : Ghost} (xn : Int) (K : Int → Prop)
  (hF : ccutF xn K) : CallsH Tryz.prog 45 #[.int .i64 xn] g [] (fun g' H' v => ∃ (r0 : Int), v = .int .i64 r0 ∧ H' = [] ∧ K r0) := by
 refine CallsH.enter 6 [(0, .int .i64 xn)] Tryz.func45 rfl (by kernel_rfl) (by kernel_rfl) (by kernel_rfl) fun w0 => ?_
 refine Ok.seq (Ok.region (Ok.batch 1 [(0, .int .i64 xn)] (by kernel_rfl) (Ok.nil (Ok.thenN (Ok.seq (Ok.region (Ok.batch 4 [(2, .int .i64 (if 16777216 < (if xn < (-16777216) then (-16777216) else xn) then 16777216 else (if xn < (-16777216) then (-16777216) else xn)))] (by kernel_rfl) (Ok.nil (Ok.thenN (Ok.ret ?_))))))))))
 exact Ok.resH (vs := [.int .i64 (if 16777216 < (if xn < (-16777216) then (-16777216) else xn) then 16777216 else (if xn < (-16777216) then (-16777216) else xn))]) (.inl rfl) rfl (.cons (.tmp rfl) .nil) (Gext.refl w0 g) ⟨(if 16777216 < (if xn < (-16777216) then (-16777216) else xn) then 16777216 else (if xn < (-16777216) then (-16777216) else xn)), rfl, rfl, hF⟩
def ccutM (xn : Int) : Int := (if 16777216 < (if xn < (-16777216) then (-16777216) else xn) then 16777216 else (if xn < (-16777216) then (-16777216) else xn))
theorem ccutF_A (xn : Int) (P : Int → Prop) (h : P (ccutM xn)) : ccutF xn (fun k0 => P k0) := by
 unfold ccutM at h
 unfold ccutF
 exact h
theorem ccut_F (xn : Int) : ccutF xn (fun k0 => k0 = ccutM xn) :=
 ccutF_A xn (fun z => z = ccutM xn) rfl
theorem ccut_c {g : Ghost} (xn : Int)  : CallsG Tryz.prog 45 #[.int .i64 xn] g (.int .i64 (ccutM xn)) :=
 (ccut_ok xn _ (ccut_F xn)).gives (by rintro g' H' v _ ⟨r0, rfl, rfl, hK⟩; subst hK; rfl)
def numF (xd : Int × Bs) (xk : Int × Int × Int × Int) (K : (Int × Int) → Int → Prop) : Prop :=
 (((xd.2 == ([] : Bs))) = true → K (4, (ccutM xd.1)) 0) ∧ (((xd.2 == ([] : Bs))) = false → (((xd.2 == ([37] : Bs))) = true → byP xd.1 10 ∧ K (3, (ccutM (cdnM xd.1 10))) 0) ∧ (((xd.2 == ([37] : Bs))) = false → ((((dpxM xd xk).2 != 0)) = true → K (0, 0) (dpxM xd xk).2) ∧ ((((dpxM xd xk).2 != 0)) = false → K (2, (dpxM xd xk).1) 0)))
theorem num_ok {g : Ghost} (xd : Int × Bs) (xk : Int × Int × Int × Int) (K : (Int × Int) → Int → Prop)
  (hF : numF xd xk K) : CallsH Tryz.prog 25 #[.agg #[.int .i64 xd.1, sv xd.2], .agg #[.int .i64 xk.1, .int .i64 xk.2.1, .int .i64 xk.2.2.1, .int .i64 xk.2.2.2]] g [] (fun g' H' v => ∃ (r0 : Int × Int), ∃ (r1 : Int), v = .tuple #[.agg #[.int .i64 r0.1, .int .i64 r0.2], .int .i64 r1] ∧ H' = [] ∧ K r0 r1) := by
 refine CallsH.enter 35 [(0, .agg #[.int .i64 xd.1, sv xd.2]), (1, .agg #[.int .i64 xk.1, .int .i64 xk.2.1, .int .i64 xk.2.2.1, .int .i64 xk.2.2.2])] Tryz.func25 rfl (by kernel_rfl) (by kernel_rfl) (by kernel_rfl) fun w0 => ?_
 refine Ok.seq (Ok.region (Ok.op rfl (OpOk.box (v := .agg #[.int .i64 xd.1, sv xd.2]) (cs := #[.int .i64 xd.1, sv xd.2]) rfl (by kernel_rfl) rfl fun bs2 => ?_)))
 refine Ok.op rfl (OpOk.box (v := .agg #[.int .i64 xk.1, .int .i64 xk.2.1, .int .i64 xk.2.2.1, .int .i64 xk.2.2.2]) (cs := #[.int .i64 xk.1, .int .i64 xk.2.1, .int .i64 xk.2.2.1, .int .i64 xk.2.2.2]) rfl (by kernel_rfl) rfl fun bs3 => ?_)
 refine Ok.op rfl (OpOk.alloc (z := .agg #[.int .i64 0, .int .i64 0]) (cs := #[.int .i64 0, .int .i64 0]) (by kernel_rfl) (by kernel_rfl) rfl fun bs4 => ?_)
 refine Ok.batch 1 [(2, pv bs2 0), (3, pv bs3 0), (4, pv bs4 0)] (by kernel_rfl) (Ok.nil (Ok.thenN (Ok.seq (Ok.seq (Ok.region (Ok.bat 1 [2, 3, 4] [(8, pv bs2 1)] ?_))))))
 refine Ok.op rfl (OpOk.step (v := sv xd.2) (Yields.load 2 rfl rfl Tryz.underlying9 rfl (by kernel_rfl)) rfl rfl (Ok.nil (Ok.thenN (Ok.block (Ok.seq (Ok.region (Ok.op rfl (OpOk.step (v := .bool (xd.2 == ([] : Bs))) (Yields.strCmp (f := .eql) (a := xd.2) (b := ([] : Bs)) (by kernel_rfl) (by kernel_rfl) rfl) rfl rfl (Ok.bat 1 [2, 3, 4] [(9, sv xd.2), (10, .bool (xd.2 == ([] : Bs)))] ?_)))))))))
 refine Ok.nil (Ok.thenN (Ok.cond (b := (xd.2 == ([] : Bs))) rfl (fun hc4 => ?_) (fun hc4 => ?_)))
 ·replace hF := hF.1 hc4
  refine Ok.seq (Ok.region (Ok.bat 1 [4] [(12, pv bs2 0)] ?_))
  refine Ok.op rfl (OpOk.step (v := .int .i64 xd.1) (Yields.load 2 rfl rfl Tryz.underlying3 rfl (by kernel_rfl)) rfl rfl (Ok.op rfl (OpOk.callG (v := .int .i64 (ccutM xd.1)) enr (fun W hW => ccut_c xd.1) rfl ?_)))
  refine Ok.bat 1 [4] [(15, .agg #[.int .i64 4, .int .i64 (ccutM xd.1)])] ?_
  refine Ok.op rfl (OpOk.sto (k := 2) (v := .agg #[.int .i64 4, .int .i64 (ccutM xd.1)]) 0 #[.int .i64 4, .int .i64 (ccutM xd.1)] rfl rfl rfl ?_)
  refine Ok.bat 1 [4] [(5, .int .i64 0)] ?_
  refine Ok.nil (Ok.thenN (Ok.ret (Ok.blockR (Ok.thenR ?_))))
  exact Ok.resP (vs := [.agg #[.int .i64 4, .int .i64 (ccutM xd.1)], .int .i64 0]) [] [] (by decide) rfl (.inl rfl) rfl (.cons (.cellAgg 0 2 #[.int .i64 4, .int .i64 (ccutM xd.1)] rfl rfl Tryz.underlying31 rfl (by kernel_rfl) (by kernel_rfl) (by kernel_rfl)) (.cons (.tmp rfl) .nil)) (Gext.refl w0 g) ⟨(4, (ccutM xd.1)), 0, rfl, rfl, hF⟩
 ·replace hF := hF.2 hc4
  refine Ok.seq (Ok.region (Ok.op rfl (OpOk.step (v := .bool (xd.2 == ([37] : Bs))) (Yields.strCmp (f := .eql) (a := xd.2) (b := ([37] : Bs)) (by kernel_rfl) (by kernel_rfl) rfl) rfl rfl (Ok.bat 1 [2, 3, 4] [(16, .bool (xd.2 == ([37] : Bs)))] ?_))))
  refine Ok.nil (Ok.thenN (Ok.cond (b := (xd.2 == ([37] : Bs))) rfl (fun hc5 => ?_) (fun hc5 => ?_)))
  ·replace hF := hF.1 hc5
   refine Ok.seq (Ok.region (Ok.bat 1 [4] [(18, pv bs2 0)] ?_))
   refine Ok.op rfl (OpOk.step (v := .int .i64 xd.1) (Yields.load 2 rfl rfl Tryz.underlying3 rfl (by kernel_rfl)) rfl rfl ?_)
   obtain ⟨hp6, hF⟩ := hF
   refine Ok.op rfl (OpOk.callG (v := .int .i64 (cdnM xd.1 10)) enr (fun W hW => cdn_c xd.1 10 hp6) rfl ?_)
   refine Ok.op rfl (OpOk.callG (v := .int .i64 (ccutM (cdnM xd.1 10))) enr (fun W hW => ccut_c (cdnM xd.1 10)) rfl ?_)
   refine Ok.bat 1 [4] [(22, .agg #[.int .i64 3, .int .i64 (ccutM (cdnM xd.1 10))])] ?_
   refine Ok.op rfl (OpOk.sto (k := 2) (v := .agg #[.int .i64 3, .int .i64 (ccutM (cdnM xd.1 10))]) 0 #[.int .i64 3, .int .i64 (ccutM (cdnM xd.1 10))] rfl rfl rfl ?_)
   refine Ok.bat 1 [4] [(5, .int .i64 0)] ?_
   refine Ok.nil (Ok.thenN (Ok.ret (Ok.blockR (Ok.thenR ?_))))
   exact Ok.resP (vs := [.agg #[.int .i64 3, .int .i64 (ccutM (cdnM xd.1 10))], .int .i64 0]) [] [] (by decide) rfl (.inl rfl) rfl (.cons (.cellAgg 0 2 #[.int .i64 3, .int .i64 (ccutM (cdnM xd.1 10))] rfl rfl Tryz.underlying31 rfl (by kernel_rfl) (by kernel_rfl) (by kernel_rfl)) (.cons (.tmp rfl) .nil)) (Gext.refl w0 g) ⟨(3, (ccutM (cdnM xd.1 10))), 0, rfl, rfl, hF⟩
  ·replace hF := hF.2 hc5
   refine Ok.skip (Ok.blockN (Ok.thenN (Ok.seq (Ok.region (Ok.op rfl (OpOk.step (v := .agg #[.int .i64 xd.1, sv xd.2]) (Yields.loadAgg 2 2 #[.int .i64 xd.1, sv xd.2] rfl rfl Tryz.underlying23 rfl (by kernel_rfl) (by kernel_rfl) (by kernel_rfl)) rfl rfl (Ok.op rfl (OpOk.step (v := .agg #[.int .i64 xk.1, .int .i64 xk.2.1, .int .i64 xk.2.2.1, .int .i64 xk.2.2.2]) (Yields.loadAgg 1 4 #[.int .i64 xk.1, .int .i64 xk.2.1, .int .i64 xk.2.2.1, .int .i64 xk.2.2.2] rfl rfl Tryz.underlying28 rfl (by kernel_rfl) (by kernel_rfl) (by kernel_rfl)) rfl rfl (Ok.op rfl (OpOk.callG (v := .tuple #[.int .i64 (dpxM xd xk).1, .int .i64 (dpxM xd xk).2]) enr (fun W hW => dpx_c xd xk) rfl ?_))))))))))
   refine Ok.bat 5 [4] [(6, .int .i64 (dpxM xd xk).1), (7, .int .i64 (dpxM xd xk).2)] ?_
   refine Ok.nil (Ok.thenN (Ok.seq (Ok.seq (Ok.region (Ok.bat 2 [4, 6, 7] [(30, .bool ((dpxM xd xk).2 != 0))] ?_)))))
   refine Ok.nil (Ok.thenN (Ok.cond (b := ((dpxM xd xk).2 != 0)) rfl (fun hc7 => ?_) (fun hc7 => ?_)))
   ·replace hF := hF.1 hc7
    refine Ok.seq (Ok.region (Ok.bat 2 [4] [(31, .agg #[.int .i64 0, .int .i64 0]), (32, .int .i64 (dpxM xd xk).2)] ?_))
    refine Ok.op rfl (OpOk.sto (k := 2) (v := .agg #[.int .i64 0, .int .i64 0]) 0 #[.int .i64 0, .int .i64 0] rfl rfl rfl ?_)
    refine Ok.bat 1 [4] [(5, .int .i64 (dpxM xd xk).2)] ?_
    refine Ok.nil (Ok.thenN (Ok.ret (Ok.thenR ?_)))
    exact Ok.resP (vs := [.agg #[.int .i64 0, .int .i64 0], .int .i64 (dpxM xd xk).2]) [] [] (by decide) rfl (.inl rfl) rfl (.cons (.cellAgg 0 2 #[.int .i64 0, .int .i64 0] rfl rfl Tryz.underlying31 rfl (by kernel_rfl) (by kernel_rfl) (by kernel_rfl)) (.cons (.tmp rfl) .nil)) (Gext.refl w0 g) ⟨(0, 0), (dpxM xd xk).2, rfl, rfl, hF⟩
   ·replace hF := hF.2 hc7
    refine Ok.skip (Ok.thenN (Ok.seq (Ok.region (Ok.bat 2 [4] [(34, .agg #[.int .i64 2, .int .i64 (dpxM xd xk).1])] ?_))))
    refine Ok.op rfl (OpOk.sto (k := 2) (v := .agg #[.int .i64 2, .int .i64 (dpxM xd xk).1]) 0 #[.int .i64 2, .int .i64 (dpxM xd xk).1] rfl rfl rfl ?_)
    refine Ok.bat 1 [4] [(5, .int .i64 0)] ?_
    refine Ok.nil (Ok.thenN (Ok.ret ?_))
    exact Ok.resP (vs := [.agg #[.int .i64 2, .int .i64 (dpxM xd xk).1], .int .i64 0]) [] [] (by decide) rfl (.inl rfl) rfl (.cons (.cellAgg 0 2 #[.int .i64 2, .int .i64 (dpxM xd xk).1] rfl rfl Tryz.underlying31 rfl (by kernel_rfl) (by kernel_rfl) (by kernel_rfl)) (.cons (.tmp rfl) .nil)) (Gext.refl w0 g) ⟨(2, (dpxM xd xk).1), 0, rfl, rfl, hF⟩
def numM (xd : Int × Bs) (xk : Int × Int × Int × Int) : (Int × Int) × Int := (if (xd.2 == ([] : Bs)) = true then ((4, (ccutM xd.1)), 0) else (if (xd.2 == ([37] : Bs)) = true then ((3, (ccutM (cdnM xd.1 10))), 0) else (if ((dpxM xd xk).2 != 0) = true then ((0, 0), (dpxM xd xk).2) else ((2, (dpxM xd xk).1), 0))))
theorem numF_A (xd : Int × Bs) (xk : Int × Int × Int × Int) (P : (Int × Int) × Int → Prop) (h : P (numM xd xk)) : numF xd xk (fun k0 k1 => P (k0, k1)) := by
 unfold numM at h
 unfold numF
 refine ⟨fun hc0 => ?_, fun hc0 => ?_⟩
 ·rw [if_t hc0] at h
  have hd0 := hc0; try simp only [Bool.and_eq_true, Bool.or_eq_true, Bool.and_eq_false_iff, Bool.or_eq_false_iff, Bool.not_eq_true', Bool.not_eq_false', decide_eq_true_eq, decide_eq_false_iff_not, beq_iff_eq, beq_eq_false_iff_ne, ne_eq] at hd0
  exact h
 ·rw [if_f hc0] at h
  have hd0 := hc0; try simp only [Bool.and_eq_true, Bool.or_eq_true, Bool.and_eq_false_iff, Bool.or_eq_false_iff, Bool.not_eq_true', Bool.not_eq_false', decide_eq_true_eq, decide_eq_false_iff_not, beq_iff_eq, beq_eq_false_iff_ne, ne_eq] at hd0
  refine ⟨fun hc1 => ?_, fun hc1 => ?_⟩
  ·rw [if_t hc1] at h
   have hd1 := hc1; try simp only [Bool.and_eq_true, Bool.or_eq_true, Bool.and_eq_false_iff, Bool.or_eq_false_iff, Bool.not_eq_true', Bool.not_eq_false', decide_eq_true_eq, decide_eq_false_iff_not, beq_iff_eq, beq_eq_false_iff_ne, ne_eq] at hd1
   refine ⟨?_, ?_⟩
   ·first | (unfold byP; decide) | omega | assumption | exact trivial | (have h0 := List.length_pos_iff.mpr (by assumption); omega) | (simp; omega) | (simp at *; omega)
   exact h
  ·rw [if_f hc1] at h
   have hd1 := hc1; try simp only [Bool.and_eq_true, Bool.or_eq_true, Bool.and_eq_false_iff, Bool.or_eq_false_iff, Bool.not_eq_true', Bool.not_eq_false', decide_eq_true_eq, decide_eq_false_iff_not, beq_iff_eq, beq_eq_false_iff_ne, ne_eq] at hd1
   refine ⟨fun hc2 => ?_, fun hc2 => ?_⟩
   ·rw [if_t hc2] at h
    exact h
   ·rw [if_f hc2] at h
    exact h
theorem num_F (xd : Int × Bs) (xk : Int × Int × Int × Int) : numF xd xk (fun k0 k1 => (k0, k1) = numM xd xk) :=
 numF_A xd xk (fun z => z = numM xd xk) rfl
theorem num_c {g : Ghost} (xd : Int × Bs) (xk : Int × Int × Int × Int)  : CallsG Tryz.prog 25 #[.agg #[.int .i64 xd.1, sv xd.2], .agg #[.int .i64 xk.1, .int .i64 xk.2.1, .int .i64 xk.2.2.1, .int .i64 xk.2.2.2]] g (.tuple #[.agg #[.int .i64 (numM xd xk).1.1, .int .i64 (numM xd xk).1.2], .int .i64 (numM xd xk).2]) :=
 (num_ok xd xk _ (num_F xd xk)).gives (by rintro g' H' v _ ⟨r0, r1, rfl, rfl, hK⟩; obtain ⟨rfl, rfl⟩ : r0 = (numM xd xk).1 ∧ r1 = (numM xd xk).2 := ⟨congrArg (fun z => z.1) hK, congrArg (fun z => z.2) hK⟩; rfl)
def timj3 (xa : Int × Int) (xb : Int × Int) (K : (Int × Int) → Int → Prop) : Prop :=
 ((((if (xb.1 != 4) = true then xa.1 else xb.1) != 4)) = true → K (0, 0) 7) ∧ ((((if (xb.1 != 4) = true then xa.1 else xb.1) != 4)) = false → byP (w6 ((if (xb.1 != 4) = true then xb.2 else xa.2) * (if (xb.1 != 4) = true then xa.2 else xb.2))) 1000 ∧ K ((if (xb.1 != 4) = true then xb.1 else xa.1), (ccutM (cdnM (w6 ((if (xb.1 != 4) = true then xb.2 else xa.2) * (if (xb.1 != 4) = true then xa.2 else xb.2))) 1000))) 0)
def timF (xa : Int × Int) (xb : Int × Int) (K : (Int × Int) → Int → Prop) : Prop :=
 (((xb.1 != 4)) = true → timj3 xa xb K) ∧ (((xb.1 != 4)) = false → timj3 xa xb K)
theorem tim_ok {g : Ghost} (xa : Int × Int) (xb : Int × Int) (K : (Int × Int) → Int → Prop)
  (hF : timF xa xb K) : CallsH Tryz.prog 26 #[.agg #[.int .i64 xa.1, .int .i64 xa.2], .agg #[.int .i64 xb.1, .int .i64 xb.2]] g [] (fun g' H' v => ∃ (r0 : Int × Int), ∃ (r1 : Int), v = .tuple #[.agg #[.int .i64 r0.1, .int .i64 r0.2], .int .i64 r1] ∧ H' = [] ∧ K r0 r1) := by
 refine CallsH.enter 25 [(0, .agg #[.int .i64 xa.1, .int .i64 xa.2]), (1, .agg #[.int .i64 xb.1, .int .i64 xb.2])] Tryz.func26 rfl (by kernel_rfl) (by kernel_rfl) (by kernel_rfl) fun w0 => ?_
 refine Ok.seq (Ok.region (Ok.op rfl (OpOk.box (v := .agg #[.int .i64 xa.1, .int .i64 xa.2]) (cs := #[.int .i64 xa.1, .int .i64 xa.2]) rfl (by kernel_rfl) rfl fun bs2 => ?_)))
 refine Ok.op rfl (OpOk.box (v := .agg #[.int .i64 xb.1, .int .i64 xb.2]) (cs := #[.int .i64 xb.1, .int .i64 xb.2]) rfl (by kernel_rfl) rfl fun bs3 => ?_)
 refine Ok.op rfl (OpOk.alloc (z := .agg #[.int .i64 0, .int .i64 0]) (cs := #[.int .i64 0, .int .i64 0]) (by kernel_rfl) (by kernel_rfl) rfl fun bs4 => ?_)
 refine Ok.batch 1 [(2, pv bs2 0), (3, pv bs3 0), (4, pv bs4 0)] (by kernel_rfl) (Ok.nil (Ok.thenN (Ok.cut (fun a W => StA 25 [(2, pv bs2 0), (3, pv bs3 0), (4, pv bs4 0)] a ∧ StW w0 [.blk bs4 (.cells #[.int .i64 0, .int .i64 0] 31), .blk bs3 (.cells #[.int .i64 (if (xb.1 != 4) = true then xa.1 else xb.1), .int .i64 (if (xb.1 != 4) = true then xa.2 else xb.2)] 31), .blk bs2 (.cells #[.int .i64 (if (xb.1 != 4) = true then xb.1 else xa.1), .int .i64 (if (xb.1 != 4) = true then xb.2 else xa.2)] 31)] g W ∧ timj3 xa xb K) ?_ ?_)))
 ·
  refine Ok.seq (Ok.region (Ok.bat 1 [2, 3, 4] [(6, pv bs3 0)] ?_))
  refine Ok.op rfl (OpOk.step (v := .int .i64 xb.1) (Yields.load 1 rfl rfl Tryz.underlying3 rfl (by kernel_rfl)) rfl rfl (Ok.bat 1 [2, 3, 4] [(8, .bool (xb.1 != 4))] ?_))
  refine Ok.nil (Ok.thenN (Ok.cond (b := (xb.1 != 4)) rfl (fun hc6 => ?_) (fun hc6 => ?_)))
  ·replace hF := hF.1 hc6
   refine Ok.region (Ok.op rfl (OpOk.step (v := .agg #[.int .i64 xb.1, .int .i64 xb.2]) (Yields.loadAgg 1 2 #[.int .i64 xb.1, .int .i64 xb.2] rfl rfl Tryz.underlying31 rfl (by kernel_rfl) (by kernel_rfl) (by kernel_rfl)) rfl rfl (Ok.op rfl (OpOk.step (v := .agg #[.int .i64 xa.1, .int .i64 xa.2]) (Yields.loadAgg 2 2 #[.int .i64 xa.1, .int .i64 xa.2] rfl rfl Tryz.underlying31 rfl (by kernel_rfl) (by kernel_rfl) (by kernel_rfl)) rfl rfl (Ok.op rfl (OpOk.sto (k := 2) (v := .agg #[.int .i64 xb.1, .int .i64 xb.2]) 2 #[.int .i64 xb.1, .int .i64 xb.2] rfl rfl rfl ?_))))))
   refine Ok.op rfl (OpOk.sto (k := 2) (v := .agg #[.int .i64 xa.1, .int .i64 xa.2]) 1 #[.int .i64 xa.1, .int .i64 xa.2] rfl rfl rfl ?_)
   refine Ok.nil (Ok.thenN (Ok.heapEq (H' := [.blk bs4 (.cells #[.int .i64 0, .int .i64 0] 31), .blk bs3 (.cells #[.int .i64 (if (xb.1 != 4) = true then xa.1 else xb.1), .int .i64 (if (xb.1 != 4) = true then xa.2 else xb.2)] 31), .blk bs2 (.cells #[.int .i64 (if (xb.1 != 4) = true then xb.1 else xa.1), .int .i64 (if (xb.1 != 4) = true then xb.2 else xa.2)] 31)]) (econs (rfl) (econs (congrArg (fun l : List Value => Ent.blk bs3 (.cells ⟨l⟩ 31)) (lcons (congrArg (Value.int .i64) ((if_t hc6).symm)) (lcons (congrArg (Value.int .i64) ((if_t hc6).symm)) rfl))) (econs (congrArg (fun l : List Value => Ent.blk bs2 (.cells ⟨l⟩ 31)) (lcons (congrArg (Value.int .i64) ((if_t hc6).symm)) (lcons (congrArg (Value.int .i64) ((if_t hc6).symm)) rfl))) rfl))) ?_))
   exact fun a W hA hW => ⟨hA.sub (by kernel_rfl), hW, hF⟩
  ·replace hF := hF.2 hc6
   refine Ok.skip (Ok.thenN (Ok.heapEq (H' := [.blk bs4 (.cells #[.int .i64 0, .int .i64 0] 31), .blk bs3 (.cells #[.int .i64 (if (xb.1 != 4) = true then xa.1 else xb.1), .int .i64 (if (xb.1 != 4) = true then xa.2 else xb.2)] 31), .blk bs2 (.cells #[.int .i64 (if (xb.1 != 4) = true then xb.1 else xa.1), .int .i64 (if (xb.1 != 4) = true then xb.2 else xa.2)] 31)]) (econs (rfl) (econs (congrArg (fun l : List Value => Ent.blk bs3 (.cells ⟨l⟩ 31)) (lcons (congrArg (Value.int .i64) ((if_f hc6).symm)) (lcons (congrArg (Value.int .i64) ((if_f hc6).symm)) rfl))) (econs (congrArg (fun l : List Value => Ent.blk bs2 (.cells ⟨l⟩ 31)) (lcons (congrArg (Value.int .i64) ((if_f hc6).symm)) (lcons (congrArg (Value.int .i64) ((if_f hc6).symm)) rfl))) rfl))) ?_))
   exact fun a W hA hW => ⟨hA.sub (by kernel_rfl), hW, hF⟩
 ·
  clear hF
  rintro a W ⟨hA, hW, hF⟩
  refine (?_ : Ok _ _ _ _ _ _) a W hA hW
  clear hA hW
  refine Ok.seq (Ok.seq (Ok.region (Ok.bat 1 [2, 3, 4] [(11, pv bs3 0)] ?_)))
  refine Ok.op rfl (OpOk.step (v := .int .i64 (if (xb.1 != 4) = true then xa.1 else xb.1)) (Yields.load 1 rfl rfl Tryz.underlying3 rfl (by kernel_rfl)) rfl rfl (Ok.bat 1 [2, 3, 4] [(13, .bool ((if (xb.1 != 4) = true then xa.1 else xb.1) != 4))] ?_))
  refine Ok.nil (Ok.thenN (Ok.cond (b := ((if (xb.1 != 4) = true then xa.1 else xb.1) != 4)) rfl (fun hc4 => ?_) (fun hc4 => ?_)))
  ·replace hF := hF.1 hc4
   refine Ok.seq (Ok.region (Ok.bat 1 [4] [(14, .agg #[.int .i64 0, .int .i64 0])] ?_))
   refine Ok.op rfl (OpOk.sto (k := 2) (v := .agg #[.int .i64 0, .int .i64 0]) 0 #[.int .i64 0, .int .i64 0] rfl rfl rfl ?_)
   refine Ok.bat 1 [4] [(5, .int .i64 7)] ?_
   refine Ok.nil (Ok.thenN (Ok.ret (Ok.thenR ?_)))
   exact Ok.resP (vs := [.agg #[.int .i64 0, .int .i64 0], .int .i64 7]) [] [] (by decide) rfl (.inl rfl) rfl (.cons (.cellAgg 0 2 #[.int .i64 0, .int .i64 0] rfl rfl Tryz.underlying31 rfl (by kernel_rfl) (by kernel_rfl) (by kernel_rfl)) (.cons (.tmp rfl) .nil)) (Gext.refl w0 g) ⟨(0, 0), 7, rfl, rfl, hF⟩
  ·replace hF := hF.2 hc4
   refine Ok.skip (Ok.thenN (Ok.seq (Ok.mix [] [] [.blk bs3 (.cells #[.int .i64 (if (xb.1 != 4) = true then xa.1 else xb.1), .int .i64 (if (xb.1 != 4) = true then xa.2 else xb.2)] 31), .blk bs2 (.cells #[.int .i64 (if (xb.1 != 4) = true then xb.1 else xa.1), .int .i64 (if (xb.1 != 4) = true then xb.2 else xa.2)] 31)] [(0, true), (1, true), (2, true), (3, true), (4, true), (5, true), (6, true), (7, true), (8, true), (9, true), (10, false), (11, true)] (by kernel_rfl) (by kernel_rfl) (.cons _ (.cons_cons _ (.cons_cons _ .slnil))) (OkM.bat 1 [2, 3, 4] [(15, pv bs2 0)] ?_))))
   refine OkM.head rfl rfl (show _ = [.blk bs3 (.cells #[.int .i64 (if (xb.1 != 4) = true then xa.1 else xb.1), .int .i64 (if (xb.1 != 4) = true then xa.2 else xb.2)] 31), .blk bs2 (.cells #[.int .i64 (if (xb.1 != 4) = true then xb.1 else xa.1), .int .i64 (if (xb.1 != 4) = true then xb.2 else xa.2)] 31)] from rfl) (OpQ.step (v := .int .i64 (if (xb.1 != 4) = true then xb.1 else xa.1)) (Yields.load 1 rfl rfl Tryz.underlying3 rfl (by kernel_rfl)) rfl rfl (OkM.bat 1 [3, 4] [(16, .int .i64 (if (xb.1 != 4) = true then xb.1 else xa.1)), (17, pv bs2 1)] ?_))
   refine OkM.head rfl rfl (show _ = [.blk bs3 (.cells #[.int .i64 (if (xb.1 != 4) = true then xa.1 else xb.1), .int .i64 (if (xb.1 != 4) = true then xa.2 else xb.2)] 31), .blk bs2 (.cells #[.int .i64 (if (xb.1 != 4) = true then xb.1 else xa.1), .int .i64 (if (xb.1 != 4) = true then xb.2 else xa.2)] 31)] from rfl) (OpQ.step (v := .int .i64 (if (xb.1 != 4) = true then xb.2 else xa.2)) (Yields.load 1 rfl rfl Tryz.underlying3 rfl (by kernel_rfl)) rfl rfl (OkM.bat 1 [4, 16] [(18, .int .i64 (if (xb.1 != 4) = true then xb.2 else xa.2)), (19, pv bs3 1)] ?_))
   refine OkM.head rfl rfl (show _ = [.blk bs3 (.cells #[.int .i64 (if (xb.1 != 4) = true then xa.1 else xb.1), .int .i64 (if (xb.1 != 4) = true then xa.2 else xb.2)] 31), .blk bs2 (.cells #[.int .i64 (if (xb.1 != 4) = true then xb.1 else xa.1), .int .i64 (if (xb.1 != 4) = true then xb.2 else xa.2)] 31)] from rfl) (OpQ.step (v := .int .i64 (if (xb.1 != 4) = true then xa.2 else xb.2)) (Yields.load 0 rfl rfl Tryz.underlying3 rfl (by kernel_rfl)) rfl rfl (OkM.bat 1 [4, 16] [(21, .int .i64 (w6 ((if (xb.1 != 4) = true then xb.2 else xa.2) * (if (xb.1 != 4) = true then xa.2 else xb.2))))] ?_))
   obtain ⟨hp5, hF⟩ := hF
   refine OkM.head rfl rfl (show _ = [.blk bs3 (.cells #[.int .i64 (if (xb.1 != 4) = true then xa.1 else xb.1), .int .i64 (if (xb.1 != 4) = true then xa.2 else xb.2)] 31), .blk bs2 (.cells #[.int .i64 (if (xb.1 != 4) = true then xb.1 else xa.1), .int .i64 (if (xb.1 != 4) = true then xb.2 else xa.2)] 31)] from rfl) (OpQ.callG (v := .int .i64 (cdnM (w6 ((if (xb.1 != 4) = true then xb.2 else xa.2) * (if (xb.1 != 4) = true then xa.2 else xb.2))) 1000)) enr (fun W hW => cdn_c (w6 ((if (xb.1 != 4) = true then xb.2 else xa.2) * (if (xb.1 != 4) = true then xa.2 else xb.2))) 1000 hp5) rfl ?_)
   refine OkM.head rfl rfl (show _ = [.blk bs3 (.cells #[.int .i64 (if (xb.1 != 4) = true then xa.1 else xb.1), .int .i64 (if (xb.1 != 4) = true then xa.2 else xb.2)] 31), .blk bs2 (.cells #[.int .i64 (if (xb.1 != 4) = true then xb.1 else xa.1), .int .i64 (if (xb.1 != 4) = true then xb.2 else xa.2)] 31)] from rfl) (OpQ.callG (v := .int .i64 (ccutM (cdnM (w6 ((if (xb.1 != 4) = true then xb.2 else xa.2) * (if (xb.1 != 4) = true then xa.2 else xb.2))) 1000))) enr (fun W hW => ccut_c (cdnM (w6 ((if (xb.1 != 4) = true then xb.2 else xa.2) * (if (xb.1 != 4) = true then xa.2 else xb.2))) 1000)) rfl ?_)
   refine OkM.bat 1 [4] [(24, .agg #[.int .i64 (if (xb.1 != 4) = true then xb.1 else xa.1), .int .i64 (ccutM (cdnM (w6 ((if (xb.1 != 4) = true then xb.2 else xa.2) * (if (xb.1 != 4) = true then xa.2 else xb.2))) 1000))])] ?_
   refine OkM.tail rfl rfl (OpOk.sto (k := 2) (v := .agg #[.int .i64 (if (xb.1 != 4) = true then xb.1 else xa.1), .int .i64 (ccutM (cdnM (w6 ((if (xb.1 != 4) = true then xb.2 else xa.2) * (if (xb.1 != 4) = true then xa.2 else xb.2))) 1000))]) 0 #[.int .i64 (if (xb.1 != 4) = true then xb.1 else xa.1), .int .i64 (ccutM (cdnM (w6 ((if (xb.1 != 4) = true then xb.2 else xa.2) * (if (xb.1 != 4) = true then xa.2 else xb.2))) 1000))] rfl rfl rfl ?_)
   refine OkM.leaf (i := 10) (show _ = [.blk bs3 (.cells #[.int .i64 (if (xb.1 != 4) = true then xa.1 else xb.1), .int .i64 (if (xb.1 != 4) = true then xa.2 else xb.2)] 31), .blk bs2 (.cells #[.int .i64 (if (xb.1 != 4) = true then xb.1 else xa.1), .int .i64 (if (xb.1 != 4) = true then xb.2 else xa.2)] 31)] from rfl) (Gle.refl _) (.cons _ (.cons_cons _ (.cons_cons _ .slnil))) (OkM.bat 1 [4] [(5, .int .i64 0)] ?_)
   refine OkM.nil (Ok.thenN (Ok.ret ?_))
   exact Ok.resP (vs := [.agg #[.int .i64 (if (xb.1 != 4) = true then xb.1 else xa.1), .int .i64 (ccutM (cdnM (w6 ((if (xb.1 != 4) = true then xb.2 else xa.2) * (if (xb.1 != 4) = true then xa.2 else xb.2))) 1000))], .int .i64 0]) [] [] (by decide) rfl (.inl rfl) rfl (.cons (.cellAgg 0 2 #[.int .i64 (if (xb.1 != 4) = true then xb.1 else xa.1), .int .i64 (ccutM (cdnM (w6 ((if (xb.1 != 4) = true then xb.2 else xa.2) * (if (xb.1 != 4) = true then xa.2 else xb.2))) 1000))] rfl rfl Tryz.underlying31 rfl (by kernel_rfl) (by kernel_rfl) (by kernel_rfl)) (.cons (.tmp rfl) .nil)) (Gext.refl w0 g) ⟨((if (xb.1 != 4) = true then xb.1 else xa.1), (ccutM (cdnM (w6 ((if (xb.1 != 4) = true then xb.2 else xa.2) * (if (xb.1 != 4) = true then xa.2 else xb.2))) 1000))), 0, rfl, rfl, hF⟩
def timj3M (xa : Int × Int) (xb : Int × Int) : (Int × Int) × Int := (if ((if (xb.1 != 4) = true then xa.1 else xb.1) != 4) = true then ((0, 0), 7) else (((if (xb.1 != 4) = true then xb.1 else xa.1), (ccutM (cdnM (w6 ((if (xb.1 != 4) = true then xb.2 else xa.2) * (if (xb.1 != 4) = true then xa.2 else xb.2))) 1000))), 0))
theorem timj3_A (xa : Int × Int) (xb : Int × Int) (P : (Int × Int) × Int → Prop) (h : P (timj3M xa xb)) : timj3 xa xb (fun k0 k1 => P (k0, k1)) := by
 unfold timj3M at h
 unfold timj3
 refine ⟨fun hc0 => ?_, fun hc0 => ?_⟩
 ·rw [if_t hc0] at h
  exact h
 ·rw [if_f hc0] at h
  refine ⟨?_, ?_⟩
  ·first | (unfold byP; decide) | omega | assumption | exact trivial | (have h0 := List.length_pos_iff.mpr (by assumption); omega) | (simp; omega) | (simp at *; omega)
  exact h
def timM (xa : Int × Int) (xb : Int × Int) : (Int × Int) × Int := (timj3M xa xb)
theorem timF_A (xa : Int × Int) (xb : Int × Int) (P : (Int × Int) × Int → Prop) (h : P (timM xa xb)) : timF xa xb (fun k0 k1 => P (k0, k1)) := by
 unfold timM at h
 unfold timF
 refine ⟨fun hc0 => ?_, fun hc0 => ?_⟩
 ·skip
  exact timj3_A xa xb _ h
 ·skip
  exact timj3_A xa xb _ h
theorem tim_F (xa : Int × Int) (xb : Int × Int) : timF xa xb (fun k0 k1 => (k0, k1) = timM xa xb) :=
 timF_A xa xb (fun z => z = timM xa xb) rfl
theorem tim_c {g : Ghost} (xa : Int × Int) (xb : Int × Int)  : CallsG Tryz.prog 26 #[.agg #[.int .i64 xa.1, .int .i64 xa.2], .agg #[.int .i64 xb.1, .int .i64 xb.2]] g (.tuple #[.agg #[.int .i64 (timM xa xb).1.1, .int .i64 (timM xa xb).1.2], .int .i64 (timM xa xb).2]) :=
 (tim_ok xa xb _ (tim_F xa xb)).gives (by rintro g' H' v _ ⟨r0, r1, rfl, rfl, hK⟩; obtain ⟨rfl, rfl⟩ : r0 = (timM xa xb).1 ∧ r1 = (timM xa xb).2 := ⟨congrArg (fun z => z.1) hK, congrArg (fun z => z.2) hK⟩; rfl)
def rnumF (xd : Int × Bs) (xk : Int × Int × Int × Int) (K : (Int × Int) → Int → Prop) : Prop :=
 (((xd.2 == ([] : Bs))) = true → K (4, (rcutM xd.1)) 0) ∧ (((xd.2 == ([] : Bs))) = false → (((xd.2 == ([37] : Bs))) = true → byP xd.1 10 ∧ K (3, (rcutM (wholeM xd.1 10))) 0) ∧ (((xd.2 == ([37] : Bs))) = false → ((((rpxM xd xk).2 != 0)) = true → K (0, 0) (rpxM xd xk).2) ∧ ((((rpxM xd xk).2 != 0)) = false → K (2, (rpxM xd xk).1) 0)))
theorem rnum_ok {g : Ghost} (xd : Int × Bs) (xk : Int × Int × Int × Int) (K : (Int × Int) → Int → Prop)
  (hF : rnumF xd xk K) : CallsH Tryz.prog 13 #[.agg #[.int .i64 xd.1, sv xd.2], .agg #[.int .i64 xk.1, .int .i64 xk.2.1, .int .i64 xk.2.2.1, .int .i64 xk.2.2.2]] g [] (fun g' H' v => ∃ (r0 : Int × Int), ∃ (r1 : Int), v = .tuple #[.agg #[.int .i64 r0.1, .int .i64 r0.2], .int .i64 r1] ∧ H' = [] ∧ K r0 r1) := by
 refine CallsH.enter 35 [(0, .agg #[.int .i64 xd.1, sv xd.2]), (1, .agg #[.int .i64 xk.1, .int .i64 xk.2.1, .int .i64 xk.2.2.1, .int .i64 xk.2.2.2])] Tryz.func13 rfl (by kernel_rfl) (by kernel_rfl) (by kernel_rfl) fun w0 => ?_
 refine Ok.seq (Ok.region (Ok.op rfl (OpOk.box (v := .agg #[.int .i64 xd.1, sv xd.2]) (cs := #[.int .i64 xd.1, sv xd.2]) rfl (by kernel_rfl) rfl fun bs2 => ?_)))
 refine Ok.op rfl (OpOk.box (v := .agg #[.int .i64 xk.1, .int .i64 xk.2.1, .int .i64 xk.2.2.1, .int .i64 xk.2.2.2]) (cs := #[.int .i64 xk.1, .int .i64 xk.2.1, .int .i64 xk.2.2.1, .int .i64 xk.2.2.2]) rfl (by kernel_rfl) rfl fun bs3 => ?_)
 refine Ok.op rfl (OpOk.alloc (z := .agg #[.int .i64 0, .int .i64 0]) (cs := #[.int .i64 0, .int .i64 0]) (by kernel_rfl) (by kernel_rfl) rfl fun bs4 => ?_)
 refine Ok.batch 1 [(2, pv bs2 0), (3, pv bs3 0), (4, pv bs4 0)] (by kernel_rfl) (Ok.nil (Ok.thenN (Ok.seq (Ok.seq (Ok.region (Ok.bat 1 [2, 3, 4] [(8, pv bs2 1)] ?_))))))
 refine Ok.op rfl (OpOk.step (v := sv xd.2) (Yields.load 2 rfl rfl Tryz.underlying9 rfl (by kernel_rfl)) rfl rfl (Ok.op rfl (OpOk.step (v := .bool (xd.2 == ([] : Bs))) (Yields.strCmp (f := .eql) (a := xd.2) (b := ([] : Bs)) (by kernel_rfl) (by kernel_rfl) rfl) rfl rfl (Ok.nil (Ok.thenN (Ok.cond (b := (xd.2 == ([] : Bs))) rfl (fun hc4 => ?_) (fun hc4 => ?_)))))))
 ·replace hF := hF.1 hc4
  refine Ok.seq (Ok.region (Ok.bat 1 [4] [(11, pv bs2 0)] ?_))
  refine Ok.op rfl (OpOk.step (v := .int .i64 xd.1) (Yields.load 2 rfl rfl Tryz.underlying3 rfl (by kernel_rfl)) rfl rfl (Ok.op rfl (OpOk.callG (v := .int .i64 (rcutM xd.1)) enr (fun W hW => rcut_c xd.1) rfl ?_)))
  refine Ok.bat 1 [4] [(14, .agg #[.int .i64 4, .int .i64 (rcutM xd.1)])] ?_
  refine Ok.op rfl (OpOk.sto (k := 2) (v := .agg #[.int .i64 4, .int .i64 (rcutM xd.1)]) 0 #[.int .i64 4, .int .i64 (rcutM xd.1)] rfl rfl rfl ?_)
  refine Ok.bat 1 [4] [(5, .int .i64 0)] ?_
  refine Ok.nil (Ok.thenN (Ok.ret (Ok.thenR ?_)))
  exact Ok.resP (vs := [.agg #[.int .i64 4, .int .i64 (rcutM xd.1)], .int .i64 0]) [] [] (by decide) rfl (.inl rfl) rfl (.cons (.cellAgg 0 2 #[.int .i64 4, .int .i64 (rcutM xd.1)] rfl rfl Tryz.underlying31 rfl (by kernel_rfl) (by kernel_rfl) (by kernel_rfl)) (.cons (.tmp rfl) .nil)) (Gext.refl w0 g) ⟨(4, (rcutM xd.1)), 0, rfl, rfl, hF⟩
 ·replace hF := hF.2 hc4
  refine Ok.skip (Ok.thenN (Ok.seq (Ok.seq (Ok.region (Ok.bat 1 [2, 3, 4] [(15, pv bs2 1)] ?_)))))
  refine Ok.op rfl (OpOk.step (v := sv xd.2) (Yields.load 2 rfl rfl Tryz.underlying9 rfl (by kernel_rfl)) rfl rfl (Ok.op rfl (OpOk.step (v := .bool (xd.2 == ([37] : Bs))) (Yields.strCmp (f := .eql) (a := xd.2) (b := ([37] : Bs)) (by kernel_rfl) (by kernel_rfl) rfl) rfl rfl (Ok.nil (Ok.thenN (Ok.cond (b := (xd.2 == ([37] : Bs))) rfl (fun hc5 => ?_) (fun hc5 => ?_)))))))
  ·replace hF := hF.1 hc5
   refine Ok.seq (Ok.region (Ok.bat 1 [4] [(18, pv bs2 0)] ?_))
   refine Ok.op rfl (OpOk.step (v := .int .i64 xd.1) (Yields.load 2 rfl rfl Tryz.underlying3 rfl (by kernel_rfl)) rfl rfl ?_)
   obtain ⟨hp6, hF⟩ := hF
   refine Ok.op rfl (OpOk.callG (v := .int .i64 (wholeM xd.1 10)) enr (fun W hW => whole_c xd.1 10 hp6) rfl ?_)
   refine Ok.op rfl (OpOk.callG (v := .int .i64 (rcutM (wholeM xd.1 10))) enr (fun W hW => rcut_c (wholeM xd.1 10)) rfl ?_)
   refine Ok.bat 1 [4] [(22, .agg #[.int .i64 3, .int .i64 (rcutM (wholeM xd.1 10))])] ?_
   refine Ok.op rfl (OpOk.sto (k := 2) (v := .agg #[.int .i64 3, .int .i64 (rcutM (wholeM xd.1 10))]) 0 #[.int .i64 3, .int .i64 (rcutM (wholeM xd.1 10))] rfl rfl rfl ?_)
   refine Ok.bat 1 [4] [(5, .int .i64 0)] ?_
   refine Ok.nil (Ok.thenN (Ok.ret (Ok.thenR ?_)))
   exact Ok.resP (vs := [.agg #[.int .i64 3, .int .i64 (rcutM (wholeM xd.1 10))], .int .i64 0]) [] [] (by decide) rfl (.inl rfl) rfl (.cons (.cellAgg 0 2 #[.int .i64 3, .int .i64 (rcutM (wholeM xd.1 10))] rfl rfl Tryz.underlying31 rfl (by kernel_rfl) (by kernel_rfl) (by kernel_rfl)) (.cons (.tmp rfl) .nil)) (Gext.refl w0 g) ⟨(3, (rcutM (wholeM xd.1 10))), 0, rfl, rfl, hF⟩
  ·replace hF := hF.2 hc5
   refine Ok.skip (Ok.thenN (Ok.seq (Ok.region (Ok.op rfl (OpOk.step (v := .agg #[.int .i64 xd.1, sv xd.2]) (Yields.loadAgg 2 2 #[.int .i64 xd.1, sv xd.2] rfl rfl Tryz.underlying23 rfl (by kernel_rfl) (by kernel_rfl) (by kernel_rfl)) rfl rfl (Ok.op rfl (OpOk.step (v := .agg #[.int .i64 xk.1, .int .i64 xk.2.1, .int .i64 xk.2.2.1, .int .i64 xk.2.2.2]) (Yields.loadAgg 1 4 #[.int .i64 xk.1, .int .i64 xk.2.1, .int .i64 xk.2.2.1, .int .i64 xk.2.2.2] rfl rfl Tryz.underlying28 rfl (by kernel_rfl) (by kernel_rfl) (by kernel_rfl)) rfl rfl (Ok.op rfl (OpOk.callG (v := .tuple #[.int .i64 (rpxM xd xk).1, .int .i64 (rpxM xd xk).2]) enr (fun W hW => rpx_c xd xk) rfl ?_)))))))))
   refine Ok.bat 5 [4] [(6, .int .i64 (rpxM xd xk).1), (7, .int .i64 (rpxM xd xk).2)] ?_
   refine Ok.nil (Ok.thenN (Ok.seq (Ok.seq (Ok.region (Ok.bat 2 [4, 6, 7] [(30, .bool ((rpxM xd xk).2 != 0))] ?_)))))
   refine Ok.nil (Ok.thenN (Ok.cond (b := ((rpxM xd xk).2 != 0)) rfl (fun hc7 => ?_) (fun hc7 => ?_)))
   ·replace hF := hF.1 hc7
    refine Ok.seq (Ok.region (Ok.bat 2 [4] [(31, .agg #[.int .i64 0, .int .i64 0]), (32, .int .i64 (rpxM xd xk).2)] ?_))
    refine Ok.op rfl (OpOk.sto (k := 2) (v := .agg #[.int .i64 0, .int .i64 0]) 0 #[.int .i64 0, .int .i64 0] rfl rfl rfl ?_)
    refine Ok.bat 1 [4] [(5, .int .i64 (rpxM xd xk).2)] ?_
    refine Ok.nil (Ok.thenN (Ok.ret (Ok.thenR ?_)))
    exact Ok.resP (vs := [.agg #[.int .i64 0, .int .i64 0], .int .i64 (rpxM xd xk).2]) [] [] (by decide) rfl (.inl rfl) rfl (.cons (.cellAgg 0 2 #[.int .i64 0, .int .i64 0] rfl rfl Tryz.underlying31 rfl (by kernel_rfl) (by kernel_rfl) (by kernel_rfl)) (.cons (.tmp rfl) .nil)) (Gext.refl w0 g) ⟨(0, 0), (rpxM xd xk).2, rfl, rfl, hF⟩
   ·replace hF := hF.2 hc7
    refine Ok.skip (Ok.thenN (Ok.seq (Ok.region (Ok.bat 2 [4] [(34, .agg #[.int .i64 2, .int .i64 (rpxM xd xk).1])] ?_))))
    refine Ok.op rfl (OpOk.sto (k := 2) (v := .agg #[.int .i64 2, .int .i64 (rpxM xd xk).1]) 0 #[.int .i64 2, .int .i64 (rpxM xd xk).1] rfl rfl rfl ?_)
    refine Ok.bat 1 [4] [(5, .int .i64 0)] ?_
    refine Ok.nil (Ok.thenN (Ok.ret ?_))
    exact Ok.resP (vs := [.agg #[.int .i64 2, .int .i64 (rpxM xd xk).1], .int .i64 0]) [] [] (by decide) rfl (.inl rfl) rfl (.cons (.cellAgg 0 2 #[.int .i64 2, .int .i64 (rpxM xd xk).1] rfl rfl Tryz.underlying31 rfl (by kernel_rfl) (by kernel_rfl) (by kernel_rfl)) (.cons (.tmp rfl) .nil)) (Gext.refl w0 g) ⟨(2, (rpxM xd xk).1), 0, rfl, rfl, hF⟩
def rnumM (xd : Int × Bs) (xk : Int × Int × Int × Int) : (Int × Int) × Int := (if (xd.2 == ([] : Bs)) = true then ((4, (rcutM xd.1)), 0) else (if (xd.2 == ([37] : Bs)) = true then ((3, (rcutM (wholeM xd.1 10))), 0) else (if ((rpxM xd xk).2 != 0) = true then ((0, 0), (rpxM xd xk).2) else ((2, (rpxM xd xk).1), 0))))
theorem rnumF_A (xd : Int × Bs) (xk : Int × Int × Int × Int) (P : (Int × Int) × Int → Prop) (h : P (rnumM xd xk)) : rnumF xd xk (fun k0 k1 => P (k0, k1)) := by
 unfold rnumM at h
 unfold rnumF
 refine ⟨fun hc0 => ?_, fun hc0 => ?_⟩
 ·rw [if_t hc0] at h
  have hd0 := hc0; try simp only [Bool.and_eq_true, Bool.or_eq_true, Bool.and_eq_false_iff, Bool.or_eq_false_iff, Bool.not_eq_true', Bool.not_eq_false', decide_eq_true_eq, decide_eq_false_iff_not, beq_iff_eq, beq_eq_false_iff_ne, ne_eq] at hd0
  exact h
 ·rw [if_f hc0] at h
  have hd0 := hc0; try simp only [Bool.and_eq_true, Bool.or_eq_true, Bool.and_eq_false_iff, Bool.or_eq_false_iff, Bool.not_eq_true', Bool.not_eq_false', decide_eq_true_eq, decide_eq_false_iff_not, beq_iff_eq, beq_eq_false_iff_ne, ne_eq] at hd0
  refine ⟨fun hc1 => ?_, fun hc1 => ?_⟩
  ·rw [if_t hc1] at h
   have hd1 := hc1; try simp only [Bool.and_eq_true, Bool.or_eq_true, Bool.and_eq_false_iff, Bool.or_eq_false_iff, Bool.not_eq_true', Bool.not_eq_false', decide_eq_true_eq, decide_eq_false_iff_not, beq_iff_eq, beq_eq_false_iff_ne, ne_eq] at hd1
   refine ⟨?_, ?_⟩
   ·first | (unfold byP; decide) | omega | assumption | exact trivial | (have h0 := List.length_pos_iff.mpr (by assumption); omega) | (simp; omega) | (simp at *; omega)
   exact h
  ·rw [if_f hc1] at h
   have hd1 := hc1; try simp only [Bool.and_eq_true, Bool.or_eq_true, Bool.and_eq_false_iff, Bool.or_eq_false_iff, Bool.not_eq_true', Bool.not_eq_false', decide_eq_true_eq, decide_eq_false_iff_not, beq_iff_eq, beq_eq_false_iff_ne, ne_eq] at hd1
   refine ⟨fun hc2 => ?_, fun hc2 => ?_⟩
   ·rw [if_t hc2] at h
    exact h
   ·rw [if_f hc2] at h
    exact h
theorem rnum_F (xd : Int × Bs) (xk : Int × Int × Int × Int) : rnumF xd xk (fun k0 k1 => (k0, k1) = rnumM xd xk) :=
 rnumF_A xd xk (fun z => z = rnumM xd xk) rfl
theorem rnum_c {g : Ghost} (xd : Int × Bs) (xk : Int × Int × Int × Int)  : CallsG Tryz.prog 13 #[.agg #[.int .i64 xd.1, sv xd.2], .agg #[.int .i64 xk.1, .int .i64 xk.2.1, .int .i64 xk.2.2.1, .int .i64 xk.2.2.2]] g (.tuple #[.agg #[.int .i64 (rnumM xd xk).1.1, .int .i64 (rnumM xd xk).1.2], .int .i64 (rnumM xd xk).2]) :=
 (rnum_ok xd xk _ (rnum_F xd xk)).gives (by rintro g' H' v _ ⟨r0, r1, rfl, rfl, hK⟩; obtain ⟨rfl, rfl⟩ : r0 = (rnumM xd xk).1 ∧ r1 = (rnumM xd xk).2 := ⟨congrArg (fun z => z.1) hK, congrArg (fun z => z.2) hK⟩; rfl)
theorem ccut_eq (n : Int) : ccutM n = rcutM n := (show ccutM n = dcutM n from rfl).trans (cut_cut n)
theorem rcut_in (n : Int) : -16777216 ≤ rcutM n ∧ rcutM n ≤ 16777216 := by
 rw [← ccut_eq]
 unfold ccutM
 repeat' split
 all_goals omega
theorem rcut_id {n : Int} (h : -16777216 ≤ n ∧ n ≤ 16777216) : rcutM n = n := by
 rw [← ccut_eq]
 unfold ccutM
 repeat' split
 all_goals omega
theorem cdn_whole {n b : Int} (hb : 1 ≤ b ∧ b ≤ 1000000000) (hn : -4611686018427387904 ≤ n ∧ n ≤ 4611686018427387904) : cdnM n b = wholeM n b := by
 unfold cdnM cdnj5M cdnV0 wholeM wholej5M wholeV0
 have h1 := Int.tdiv_mul_add_tmod n b
 have h2 : (n.tdiv b).natAbs ≤ n.natAbs := by rw [Int.natAbs_tdiv]; exact Nat.div_le_self _ _
 have h3 : (n.tmod b).natAbs < b.natAbs := by rw [Int.natAbs_tmod]; exact Nat.mod_lt _ (by omega)
 have h4 : (n.tdiv b * b).natAbs ≤ n.natAbs := by rw [Int.natAbs_mul, Int.natAbs_tdiv]; exact Nat.div_mul_le_self _ _
 have hs : (0 ≤ n → 0 ≤ n.tmod b) ∧ (n ≤ 0 → n.tmod b ≤ 0) := ⟨fun h => Int.tmod_nonneg _ h, fun h => by
  have := Int.tmod_nonneg b (show 0 ≤ -n by omega)
  rw [Int.neg_tmod] at this; omega⟩
 rw [w64 (x := n.tdiv b) (by omega), w64 (x := n.tdiv b * b) (by omega)]
 have e : ((n.tmod b != 0) && (!(decide (n < 0) == decide (b < 0)))) = decide (n.tdiv b * b > n) := by
  rw [decide_eq_false (show ¬ b < 0 by omega), Bool.eq_iff_iff]
  simp only [Bool.and_eq_true, bne_iff_ne, ne_eq, Bool.not_eq_true', beq_eq_false_iff_ne, decide_eq_true_eq, decide_eq_false_iff_not]
  omega
 rw [e]
theorem cdn_ten {n : Int} (hn : -9223372036854775808 ≤ n ∧ n ≤ 9223372036854775807) : cdnM n 10 = wholeM n 10 := by
 rw [← whole_down n 10 (by omega) hn]
 unfold cdnM cdnj5M cdnV0 downM downj5M downV0
 have hs : (0 ≤ n → 0 ≤ n.tmod 10) ∧ (n ≤ 0 → n.tmod 10 ≤ 0) := ⟨fun h => Int.tmod_nonneg _ h, fun h => by
  have := Int.tmod_nonneg 10 (show 0 ≤ -n by omega)
  rw [Int.neg_tmod] at this; omega⟩
 have e : ((n.tmod 10 != 0) && (!(decide (n < 0) == decide ((10 : Int) < 0)))) = decide (n.tmod 10 < 0) := by
  rw [decide_eq_false (show ¬ (10 : Int) < 0 by omega), Bool.eq_iff_iff]
  simp only [Bool.and_eq_true, bne_iff_ne, ne_eq, Bool.not_eq_true', beq_eq_false_iff_ne, decide_eq_true_eq, decide_eq_false_iff_not]
  omega
 rw [e]
theorem cdn_neg {n b : Int} (hb : -1000000000 ≤ b ∧ b ≤ -1) (hn : -4611686018427387904 ≤ n ∧ n ≤ 4611686018427387904) : cdnM n b = wholeM (w6 (0 - n)) (w6 (0 - b)) := by
 rw [w64 (by omega), w64 (by omega), ← cdn_whole (by omega) (by omega)]
 unfold cdnM cdnj5M cdnV0
 rw [Int.zero_sub, Int.zero_sub, Int.neg_tdiv_neg, Int.tmod_neg, Int.neg_tmod]
 have e : ((n.tmod b != 0) && (!(decide (n < 0) == decide (b < 0)))) = ((-n.tmod b != 0) && (!(decide (-n < 0) == decide (-b < 0)))) := by
  have hz : n = 0 → n.tmod b = 0 := fun h => by rw [h, Int.zero_tmod]
  rw [decide_eq_true (show b < 0 by omega), decide_eq_false (show ¬ -b < 0 by omega), Bool.eq_iff_iff]
  simp only [Bool.and_eq_true, bne_iff_ne, ne_eq, Bool.not_eq_true', beq_eq_false_iff_ne, decide_eq_true_eq, decide_eq_false_iff_not]
  omega
 rw [e]
def numOk (d : Dm) : Prop := -9223372036854775808 ≤ d.1 ∧ d.1 ≤ 9223372036854775807
theorem num_eq (d : Dm) (k : Sc) (hd : numOk d) : numM d k = rnumM d k := by
 unfold numM rnumM
 rw [ccut_eq, ccut_eq, cdn_ten hd, px_eq]
def bd (v : Vl) : Prop := -16777216 ≤ v.2 ∧ v.2 ≤ 16777216
theorem px_bd (d : Dm) (k : Sc) : -16777216 ≤ (rpxM d k).1 ∧ (rpxM d k).1 ≤ 16777216 := by
 unfold rpxM rpxj52M
 repeat' split
 all_goals first | exact rcut_in _ | decide
theorem rnum_bd (d : Dm) (k : Sc) : bd (rnumM d k).1 := by
 have := px_bd d k
 have h1 := rcut_in d.1
 have h2 := rcut_in (wholeM d.1 10)
 unfold rnumM bd
 repeat' split
 all_goals first | exact h1 | exact h2 | exact this | exact ⟨show (-16777216 : Int) ≤ 0 by decide, show (0 : Int) ≤ 16777216 by decide⟩
def dvdF (xa : Int × Int) (xb : Int × Int) (K : (Int × Int) → Int → Prop) : Prop :=
 (((xb.1 != 4)) = true → K (0, 0) 7) ∧ (((xb.1 != 4)) = false → (((xb.2 == 0)) = true → K (0, 0) 1) ∧ (((xb.2 == 0)) = false → byP (w6 (xa.2 * 1000)) xb.2 ∧ K (xa.1, (ccutM (cdnM (w6 (xa.2 * 1000)) xb.2))) 0))
theorem dvd_ok {g : Ghost} (xa : Int × Int) (xb : Int × Int) (K : (Int × Int) → Int → Prop)
  (hF : dvdF xa xb K) : CallsH Tryz.prog 27 #[.agg #[.int .i64 xa.1, .int .i64 xa.2], .agg #[.int .i64 xb.1, .int .i64 xb.2]] g [] (fun g' H' v => ∃ (r0 : Int × Int), ∃ (r1 : Int), v = .tuple #[.agg #[.int .i64 r0.1, .int .i64 r0.2], .int .i64 r1] ∧ H' = [] ∧ K r0 r1) := by
 refine CallsH.enter 26 [(0, .agg #[.int .i64 xa.1, .int .i64 xa.2]), (1, .agg #[.int .i64 xb.1, .int .i64 xb.2])] Tryz.func27 rfl (by kernel_rfl) (by kernel_rfl) (by kernel_rfl) fun w0 => ?_
 refine Ok.seq (Ok.region (Ok.op rfl (OpOk.box (v := .agg #[.int .i64 xa.1, .int .i64 xa.2]) (cs := #[.int .i64 xa.1, .int .i64 xa.2]) rfl (by kernel_rfl) rfl fun bs2 => ?_)))
 refine Ok.op rfl (OpOk.box (v := .agg #[.int .i64 xb.1, .int .i64 xb.2]) (cs := #[.int .i64 xb.1, .int .i64 xb.2]) rfl (by kernel_rfl) rfl fun bs3 => ?_)
 refine Ok.op rfl (OpOk.alloc (z := .agg #[.int .i64 0, .int .i64 0]) (cs := #[.int .i64 0, .int .i64 0]) (by kernel_rfl) (by kernel_rfl) rfl fun bs4 => ?_)
 refine Ok.batch 1 [(2, pv bs2 0), (3, pv bs3 0), (4, pv bs4 0)] (by kernel_rfl) (Ok.nil (Ok.thenN (Ok.seq (Ok.block (Ok.seq (Ok.region (Ok.bat 1 [2, 3, 4] [(7, pv bs3 0)] ?_)))))))
 refine Ok.op rfl (OpOk.step (v := .int .i64 xb.1) (Yields.load 1 rfl rfl Tryz.underlying3 rfl (by kernel_rfl)) rfl rfl (Ok.bat 2 [2, 3, 4] [(6, .bool (xb.1 != 4))] ?_))
 refine Ok.nil (Ok.thenN (Ok.cond (b := (xb.1 != 4)) rfl (fun hc4 => ?_) (fun hc4 => ?_)))
 ·replace hF := hF.1 hc4
  refine Ok.seq (Ok.region (Ok.bat 1 [4] [(10, .agg #[.int .i64 0, .int .i64 0])] ?_))
  refine Ok.op rfl (OpOk.sto (k := 2) (v := .agg #[.int .i64 0, .int .i64 0]) 0 #[.int .i64 0, .int .i64 0] rfl rfl rfl ?_)
  refine Ok.bat 1 [4] [(5, .int .i64 7)] ?_
  refine Ok.nil (Ok.thenN (Ok.ret (Ok.blockR (Ok.thenR ?_))))
  exact Ok.resP (vs := [.agg #[.int .i64 0, .int .i64 0], .int .i64 7]) [] [] (by decide) rfl (.inl rfl) rfl (.cons (.cellAgg 0 2 #[.int .i64 0, .int .i64 0] rfl rfl Tryz.underlying31 rfl (by kernel_rfl) (by kernel_rfl) (by kernel_rfl)) (.cons (.tmp rfl) .nil)) (Gext.refl w0 g) ⟨(0, 0), 7, rfl, rfl, hF⟩
 ·replace hF := hF.2 hc4
  refine Ok.seq (Ok.region (Ok.bat 1 [2, 3, 4] [(12, pv bs3 1)] ?_))
  refine Ok.op rfl (OpOk.step (v := .int .i64 xb.2) (Yields.load 1 rfl rfl Tryz.underlying3 rfl (by kernel_rfl)) rfl rfl (Ok.bat 2 [2, 3, 4] [(11, .bool (xb.2 == 0))] ?_))
  refine Ok.nil (Ok.thenN (Ok.cond (b := (xb.2 == 0)) rfl (fun hc5 => ?_) (fun hc5 => ?_)))
  ·replace hF := hF.1 hc5
   refine Ok.seq (Ok.region (Ok.bat 1 [4] [(15, .agg #[.int .i64 0, .int .i64 0])] ?_))
   refine Ok.op rfl (OpOk.sto (k := 2) (v := .agg #[.int .i64 0, .int .i64 0]) 0 #[.int .i64 0, .int .i64 0] rfl rfl rfl ?_)
   refine Ok.bat 1 [4] [(5, .int .i64 1)] ?_
   refine Ok.nil (Ok.thenN (Ok.ret (Ok.blockR (Ok.thenR ?_))))
   exact Ok.resP (vs := [.agg #[.int .i64 0, .int .i64 0], .int .i64 1]) [] [] (by decide) rfl (.inl rfl) rfl (.cons (.cellAgg 0 2 #[.int .i64 0, .int .i64 0] rfl rfl Tryz.underlying31 rfl (by kernel_rfl) (by kernel_rfl) (by kernel_rfl)) (.cons (.tmp rfl) .nil)) (Gext.refl w0 g) ⟨(0, 0), 1, rfl, rfl, hF⟩
  ·replace hF := hF.2 hc5
   refine Ok.skip (Ok.blockN (Ok.thenN (Ok.seq (Ok.mix [] [] [.blk bs3 (.cells #[.int .i64 xb.1, .int .i64 xb.2] 31), .blk bs2 (.cells #[.int .i64 xa.1, .int .i64 xa.2] 31)] [(0, true), (1, true), (2, true), (3, true), (4, true), (5, true), (6, true), (7, true), (8, true), (9, true), (10, false), (11, true)] (by kernel_rfl) (by kernel_rfl) (.cons _ (.cons_cons _ (.cons_cons _ .slnil))) (OkM.bat 1 [2, 3, 4] [(16, pv bs2 0)] ?_)))))
   refine OkM.head rfl rfl (show _ = [.blk bs3 (.cells #[.int .i64 xb.1, .int .i64 xb.2] 31), .blk bs2 (.cells #[.int .i64 xa.1, .int .i64 xa.2] 31)] from rfl) (OpQ.step (v := .int .i64 xa.1) (Yields.load 1 rfl rfl Tryz.underlying3 rfl (by kernel_rfl)) rfl rfl (OkM.bat 1 [3, 4] [(17, .int .i64 xa.1), (18, pv bs2 1)] ?_))
   refine OkM.head rfl rfl (show _ = [.blk bs3 (.cells #[.int .i64 xb.1, .int .i64 xb.2] 31), .blk bs2 (.cells #[.int .i64 xa.1, .int .i64 xa.2] 31)] from rfl) (OpQ.step (v := .int .i64 xa.2) (Yields.load 1 rfl rfl Tryz.underlying3 rfl (by kernel_rfl)) rfl rfl (OkM.bat 2 [4, 17] [(20, .int .i64 (w6 (xa.2 * 1000))), (21, pv bs3 1)] ?_))
   refine OkM.head rfl rfl (show _ = [.blk bs3 (.cells #[.int .i64 xb.1, .int .i64 xb.2] 31), .blk bs2 (.cells #[.int .i64 xa.1, .int .i64 xa.2] 31)] from rfl) (OpQ.step (v := .int .i64 xb.2) (Yields.load 0 rfl rfl Tryz.underlying3 rfl (by kernel_rfl)) rfl rfl ?_)
   obtain ⟨hp6, hF⟩ := hF
   refine OkM.head rfl rfl (show _ = [.blk bs3 (.cells #[.int .i64 xb.1, .int .i64 xb.2] 31), .blk bs2 (.cells #[.int .i64 xa.1, .int .i64 xa.2] 31)] from rfl) (OpQ.callG (v := .int .i64 (cdnM (w6 (xa.2 * 1000)) xb.2)) enr (fun W hW => cdn_c (w6 (xa.2 * 1000)) xb.2 hp6) rfl ?_)
   refine OkM.head rfl rfl (show _ = [.blk bs3 (.cells #[.int .i64 xb.1, .int .i64 xb.2] 31), .blk bs2 (.cells #[.int .i64 xa.1, .int .i64 xa.2] 31)] from rfl) (OpQ.callG (v := .int .i64 (ccutM (cdnM (w6 (xa.2 * 1000)) xb.2))) enr (fun W hW => ccut_c (cdnM (w6 (xa.2 * 1000)) xb.2)) rfl ?_)
   refine OkM.bat 1 [4] [(25, .agg #[.int .i64 xa.1, .int .i64 (ccutM (cdnM (w6 (xa.2 * 1000)) xb.2))])] ?_
   refine OkM.tail rfl rfl (OpOk.sto (k := 2) (v := .agg #[.int .i64 xa.1, .int .i64 (ccutM (cdnM (w6 (xa.2 * 1000)) xb.2))]) 0 #[.int .i64 xa.1, .int .i64 (ccutM (cdnM (w6 (xa.2 * 1000)) xb.2))] rfl rfl rfl ?_)
   refine OkM.leaf (i := 10) (show _ = [.blk bs3 (.cells #[.int .i64 xb.1, .int .i64 xb.2] 31), .blk bs2 (.cells #[.int .i64 xa.1, .int .i64 xa.2] 31)] from rfl) (Gle.refl _) (.cons _ (.cons_cons _ (.cons_cons _ .slnil))) (OkM.bat 1 [4] [(5, .int .i64 0)] ?_)
   refine OkM.nil (Ok.thenN (Ok.ret ?_))
   exact Ok.resP (vs := [.agg #[.int .i64 xa.1, .int .i64 (ccutM (cdnM (w6 (xa.2 * 1000)) xb.2))], .int .i64 0]) [] [] (by decide) rfl (.inl rfl) rfl (.cons (.cellAgg 0 2 #[.int .i64 xa.1, .int .i64 (ccutM (cdnM (w6 (xa.2 * 1000)) xb.2))] rfl rfl Tryz.underlying31 rfl (by kernel_rfl) (by kernel_rfl) (by kernel_rfl)) (.cons (.tmp rfl) .nil)) (Gext.refl w0 g) ⟨(xa.1, (ccutM (cdnM (w6 (xa.2 * 1000)) xb.2))), 0, rfl, rfl, hF⟩
def dvS (a b : Vl) : Vl × Int := if (b.1 != 4) = true then ((0, 0), 7) else if (b.2 == 0) = true then ((0, 0), 1) else ((a.1, ccutM (cdnM (w6 (a.2 * 1000)) b.2)), 0)
theorem dvd_F (a b : Vl) : dvdF a b (fun x y => (x, y) = dvS a b) := by
 unfold dvdF dvS
 refine ⟨fun h => by rw [if_t h], fun h => ⟨fun h2 => by rw [if_f h, if_t h2], fun h2 => ⟨?_, by rw [if_f h, if_f h2]⟩⟩⟩
 unfold byP
 simpa using h2
theorem dvd_c {g : Ghost} (xa : Int × Int) (xb : Int × Int)  : CallsG Tryz.prog 27 #[.agg #[.int .i64 xa.1, .int .i64 xa.2], .agg #[.int .i64 xb.1, .int .i64 xb.2]] g (.tuple #[.agg #[.int .i64 (dvS xa xb).1.1, .int .i64 (dvS xa xb).1.2], .int .i64 (dvS xa xb).2]) :=
 (dvd_ok xa xb _ (dvd_F xa xb)).gives (by rintro g' H' v _ ⟨r0, r1, rfl, rfl, hK⟩; obtain ⟨rfl, rfl⟩ : r0 = (dvS xa xb).1 ∧ r1 = (dvS xa xb).2 := ⟨congrArg (fun z => z.1) hK, congrArg (fun z => z.2) hK⟩; rfl)
def floS (n b : Int) : Int := if (decide (b < 0)) = true then wholeM (w6 (0 - n)) (w6 (0 - b)) else wholeM n b
def floP (_ : Int) (b : Int) : Prop := b ≠ 0 ∧ -1000000000 ≤ b ∧ b ≤ 1000000000
def floF (xn : Int) (xby : Int) (K : Int → Prop) : Prop :=
 ((decide (xby < 0)) = true → byP (w6 (0 - xn)) (w6 (0 - xby)) ∧ K (wholeM (w6 (0 - xn)) (w6 (0 - xby)))) ∧ ((decide (xby < 0)) = false → byP xn xby ∧ K (wholeM xn xby))
theorem flo_ok {g : Ghost} (xn : Int) (xby : Int) (K : Int → Prop)
  (hF : floF xn xby K) : CallsH Tryz.prog 32 #[.int .i64 xn, .int .i64 xby] g [] (fun g' H' v => ∃ (r0 : Int), v = .int .i64 r0 ∧ H' = [] ∧ K r0) := by
 refine CallsH.enter 15 [(0, .int .i64 xn), (1, .int .i64 xby)] Tryz.func32 rfl (by kernel_rfl) (by kernel_rfl) (by kernel_rfl) fun w0 => ?_
 refine Ok.seq (Ok.region (Ok.batch 1 [(0, .int .i64 xn), (1, .int .i64 xby)] (by kernel_rfl) (Ok.nil (Ok.thenN (Ok.seq (Ok.seq (Ok.region (Ok.bat 2 [0, 1] [(6, .bool (decide (xby < 0)))] ?_))))))))
 refine Ok.nil (Ok.thenN (Ok.cond (b := decide (xby < 0)) rfl (fun hc1 => ?_) (fun hc1 => ?_)))
 ·replace hF := hF.1 hc1
  refine Ok.seq (Ok.region (Ok.batch 4 [(8, .int .i64 (w6 (0 - xn))), (10, .int .i64 (w6 (0 - xby)))] (by kernel_rfl) ?_))
  obtain ⟨hp2, hF⟩ := hF
  refine Ok.op rfl (OpOk.callG (v := .int .i64 (wholeM (w6 (0 - xn)) (w6 (0 - xby)))) enr (fun W hW => whole_c (w6 (0 - xn)) (w6 (0 - xby)) hp2) rfl ?_)
  refine Ok.batch 1 [(4, .int .i64 (wholeM (w6 (0 - xn)) (w6 (0 - xby))))] (by kernel_rfl) (Ok.nil (Ok.thenN (Ok.ret (Ok.thenR ?_))))
  exact Ok.resH (vs := [.int .i64 (wholeM (w6 (0 - xn)) (w6 (0 - xby)))]) (.inl rfl) rfl (.cons (.tmp rfl) .nil) (Gext.refl w0 g) ⟨(wholeM (w6 (0 - xn)) (w6 (0 - xby))), rfl, rfl, hF⟩
 ·replace hF := hF.2 hc1
  refine Ok.skip (Ok.thenN (Ok.seq (Ok.region (Ok.batch 2 [(12, .int .i64 xn), (13, .int .i64 xby)] (by kernel_rfl) ?_))))
  obtain ⟨hp3, hF⟩ := hF
  refine Ok.op rfl (OpOk.callG (v := .int .i64 (wholeM xn xby)) enr (fun W hW => whole_c xn xby hp3) rfl ?_)
  refine Ok.batch 1 [(4, .int .i64 (wholeM xn xby))] (by kernel_rfl) (Ok.nil (Ok.thenN (Ok.ret ?_)))
  exact Ok.resH (vs := [.int .i64 (wholeM xn xby)]) (.inl rfl) rfl (.cons (.tmp rfl) .nil) (Gext.refl w0 g) ⟨(wholeM xn xby), rfl, rfl, hF⟩
theorem flo_F (n b : Int) (hp : floP n b) : floF n b (fun r => r = floS n b) := by
 obtain ⟨h1, h2, h3⟩ := hp
 unfold floF floS
 refine ⟨fun h => ⟨?_, by rw [if_t h]⟩, fun h => ⟨h1, by rw [if_f h]⟩⟩
 unfold byP
 rw [w64 (by omega)]; omega
theorem flo_c {g : Ghost} (xn : Int) (xby : Int)  (hp : floP xn xby) : CallsG Tryz.prog 32 #[.int .i64 xn, .int .i64 xby] g (.int .i64 (floS xn xby)) :=
 (flo_ok xn xby _ (flo_F xn xby hp)).gives (by rintro g' H' v _ ⟨r0, rfl, rfl, hK⟩; subst hK; rfl)
def prvV0 (xkind : Int) (xa : Int × Int) (xb : Int × Int) : Int :=
 (if (xkind == 3) = true then w6 (xa.2 - xb.2) else w6 (xa.2 + xb.2))
def prvV1 (xkind : Int) (xa : Int × Int) (xb : Int × Int) : Int :=
 (if (xkind == 6) = true then (if xb.2 < xa.2 then xb.2 else xa.2) else (prvV0 xkind xa xb))
def prvV2 (xkind : Int) (xa : Int × Int) (xb : Int × Int) : Int :=
 (if (xkind == 7) = true then (if xa.2 < xb.2 then xb.2 else xa.2) else (prvV1 xkind xa xb))
def prvj17 (xa : Int × Int) (xb : Int × Int) (K : (Int × Int) → Int → Prop) : Prop :=
 byP (w6 (xa.2 * xb.2)) 1000 ∧ K ((if (xa.1 == 4) = true then xb.1 else xa.1), (rcutM (wholeM (w6 (xa.2 * xb.2)) 1000))) 0
def prvj8 (xa : Int × Int) (xb : Int × Int) (K : (Int × Int) → Int → Prop) : Prop :=
 ((((xa.1 != 4) && (xb.1 != 4))) = true → K (0, 0) 7) ∧ ((((xa.1 != 4) && (xb.1 != 4))) = false → (((xa.1 == 4)) = true → prvj17 xa xb K) ∧ (((xa.1 == 4)) = false → prvj17 xa xb K))
def prvj73 (xkind : Int) (xa : Int × Int) (xb : Int × Int) (K : (Int × Int) → Int → Prop) : Prop :=
 K (xa.1, (rcutM (prvV2 xkind xa xb))) 0
def prvj67 (xkind : Int) (xa : Int × Int) (xb : Int × Int) (K : (Int × Int) → Int → Prop) : Prop :=
 (((xkind == 7)) = true → prvj73 xkind xa xb K) ∧ (((xkind == 7)) = false → prvj73 xkind xa xb K)
def prvj61 (xkind : Int) (xa : Int × Int) (xb : Int × Int) (K : (Int × Int) → Int → Prop) : Prop :=
 (((xkind == 6)) = true → prvj67 xkind xa xb K) ∧ (((xkind == 6)) = false → prvj67 xkind xa xb K)
def prvF (xkind : Int) (xa : Int × Int) (xb : Int × Int) (K : (Int × Int) → Int → Prop) : Prop :=
 (((xkind == 4)) = true → (((xa.1 != 4)) = true → prvj8 xa xb K) ∧ (((xa.1 != 4)) = false → prvj8 xa xb K)) ∧ (((xkind == 4)) = false → (((xkind == 5)) = true → (((xb.1 != 4)) = true → K (0, 0) 7) ∧ (((xb.1 != 4)) = false → (((xb.2 == 0)) = true → K (0, 0) 1) ∧ (((xb.2 == 0)) = false → floP (w6 (xa.2 * 1000)) xb.2 ∧ K (xa.1, (rcutM (floS (w6 (xa.2 * 1000)) xb.2))) 0))) ∧ (((xkind == 5)) = false → (((xa.1 != xb.1)) = true → K (0, 0) 7) ∧ (((xa.1 != xb.1)) = false → (((xkind == 3)) = true → prvj61 xkind xa xb K) ∧ (((xkind == 3)) = false → prvj61 xkind xa xb K))))
theorem prv_ok {g : Ghost} (xkind : Int) (xa : Int × Int) (xb : Int × Int) (K : (Int × Int) → Int → Prop)
  (hF : prvF xkind xa xb K) : CallsH Tryz.prog 14 #[.int .i64 xkind, .agg #[.int .i64 xa.1, .int .i64 xa.2], .agg #[.int .i64 xb.1, .int .i64 xb.2]] g [] (fun g' H' v => ∃ (r0 : Int × Int), ∃ (r1 : Int), v = .tuple #[.agg #[.int .i64 r0.1, .int .i64 r0.2], .int .i64 r1] ∧ H' = [] ∧ K r0 r1) := by
 refine CallsH.enter 94 [(0, .int .i64 xkind), (1, .agg #[.int .i64 xa.1, .int .i64 xa.2]), (2, .agg #[.int .i64 xb.1, .int .i64 xb.2])] Tryz.func14 rfl (by kernel_rfl) (by kernel_rfl) (by kernel_rfl) fun w0 => ?_
 refine Ok.seq (Ok.region (Ok.op rfl (OpOk.box (v := .agg #[.int .i64 xa.1, .int .i64 xa.2]) (cs := #[.int .i64 xa.1, .int .i64 xa.2]) rfl (by kernel_rfl) rfl fun bs4 => ?_)))
 refine Ok.op rfl (OpOk.box (v := .agg #[.int .i64 xb.1, .int .i64 xb.2]) (cs := #[.int .i64 xb.1, .int .i64 xb.2]) rfl (by kernel_rfl) rfl fun bs5 => ?_)
 refine Ok.op rfl (OpOk.alloc (z := .agg #[.int .i64 0, .int .i64 0]) (cs := #[.int .i64 0, .int .i64 0]) (by kernel_rfl) (by kernel_rfl) rfl fun bs6 => ?_)
 refine Ok.batch 1 [(0, .int .i64 xkind), (4, pv bs4 0), (5, pv bs5 0), (6, pv bs6 0)] (by kernel_rfl) (Ok.nil (Ok.thenN (Ok.seq (Ok.seq (Ok.region (Ok.bat 2 [0, 4, 5, 6] [(11, .bool (xkind == 4))] ?_))))))
 refine Ok.nil (Ok.thenN (Ok.cond (b := (xkind == 4)) rfl (fun hc4 => ?_) (fun hc4 => ?_)))
 ·replace hF := hF.1 hc4
  refine Ok.seq (Ok.cut (fun a W => StA 94 [(4, pv bs4 0), (5, pv bs5 0), (6, pv bs6 0), (19, .bool ((xa.1 != 4) && (xb.1 != 4)))] a ∧ StW w0 [.blk bs6 (.cells #[.int .i64 0, .int .i64 0] 31), .blk bs5 (.cells #[.int .i64 xb.1, .int .i64 xb.2] 31), .blk bs4 (.cells #[.int .i64 xa.1, .int .i64 xa.2] 31)] g W ∧ prvj8 xa xb K) ?_ ?_)
  ·
   refine Ok.region (Ok.bat 1 [4, 5, 6] [(12, pv bs4 0)] ?_)
   refine Ok.op rfl (OpOk.step (v := .int .i64 xa.1) (Yields.load 2 rfl rfl Tryz.underlying3 rfl (by kernel_rfl)) rfl rfl (Ok.bat 2 [4, 5, 6] [(15, .bool (xa.1 != 4))] ?_))
   refine Ok.boolAt 15 ((xa.1 != 4)) rfl (fun hc8 => ?_) (fun hc8 => ?_)
   ·replace hF := hF.1 hc8
    refine Ok.bat 1 [4, 5, 6] [(15, .bool true), (16, pv bs5 0)] ?_
    refine Ok.opYes (j := 3) (d := 15) (want := true) (b := true) rfl (by kernel_rfl) (by kernel_rfl) rfl (OpOk.step (v := .int .i64 xb.1) (Yields.load 1 rfl rfl Tryz.underlying3 rfl (by kernel_rfl)) rfl rfl (Ok.bat 2 [4, 5, 6] [(19, .bool (xb.1 != 4))] ?_))
    refine Ok.nil (Ok.thenN (Ok.reval 19 rfl (show (.bool (xb.1 != 4) : Value) = .bool ((xa.1 != 4) && (xb.1 != 4)) from congrArg (Value.bool) (mand_t hc8)) ?_))
    exact fun a W hA hW => ⟨hA.sub (by kernel_rfl), hW, hF⟩
   ·replace hF := hF.2 hc8
    refine Ok.bat 4 [4, 5, 6] [(19, .bool false)] ?_
    refine Ok.nil (Ok.thenN (Ok.reval 19 rfl (show (.bool false : Value) = .bool ((xa.1 != 4) && (xb.1 != 4)) from congrArg (Value.bool) (mand_f hc8)) ?_))
    exact fun a W hA hW => ⟨hA.sub (by kernel_rfl), hW, hF⟩
  ·
   clear hF
   rintro a W ⟨hA, hW, hF⟩
   refine (?_ : Ok _ _ _ _ _ _) a W hA hW
   clear hA hW
   refine Ok.cond (b := ((xa.1 != 4) && (xb.1 != 4))) rfl (fun hc5 => ?_) (fun hc5 => ?_)
   ·replace hF := hF.1 hc5
    refine Ok.seq (Ok.region (Ok.bat 1 [6] [(20, .agg #[.int .i64 0, .int .i64 0])] ?_))
    refine Ok.op rfl (OpOk.sto (k := 2) (v := .agg #[.int .i64 0, .int .i64 0]) 0 #[.int .i64 0, .int .i64 0] rfl rfl rfl ?_)
    refine Ok.bat 1 [6] [(7, .int .i64 7)] ?_
    refine Ok.nil (Ok.thenN (Ok.ret (Ok.thenR (Ok.thenR ?_))))
    exact Ok.resP (vs := [.agg #[.int .i64 0, .int .i64 0], .int .i64 7]) [] [] (by decide) rfl (.inl rfl) rfl (.cons (.cellAgg 0 2 #[.int .i64 0, .int .i64 0] rfl rfl Tryz.underlying31 rfl (by kernel_rfl) (by kernel_rfl) (by kernel_rfl)) (.cons (.tmp rfl) .nil)) (Gext.refl w0 g) ⟨(0, 0), 7, rfl, rfl, hF⟩
   ·replace hF := hF.2 hc5
    refine Ok.skip (Ok.thenN (Ok.seq (Ok.region (Ok.bat 1 [4, 5, 6] [(21, pv bs4 0)] ?_))))
    refine Ok.op rfl (OpOk.step (v := .int .i64 xa.1) (Yields.load 2 rfl rfl Tryz.underlying3 rfl (by kernel_rfl)) rfl rfl (Ok.bat 1 [4, 5, 6] [(8, .int .i64 xa.1)] ?_))
    refine Ok.nil (Ok.thenN (Ok.cut (fun a W => StA 94 [(4, pv bs4 0), (5, pv bs5 0), (6, pv bs6 0), (8, .int .i64 (if (xa.1 == 4) = true then xb.1 else xa.1))] a ∧ StW w0 [.blk bs6 (.cells #[.int .i64 0, .int .i64 0] 31), .blk bs5 (.cells #[.int .i64 xb.1, .int .i64 xb.2] 31), .blk bs4 (.cells #[.int .i64 xa.1, .int .i64 xa.2] 31)] g W ∧ prvj17 xa xb K) ?_ ?_))
    ·
     refine Ok.seq (Ok.region (Ok.bat 1 [4, 5, 6, 8] [(23, pv bs4 0)] ?_))
     refine Ok.op rfl (OpOk.step (v := .int .i64 xa.1) (Yields.load 2 rfl rfl Tryz.underlying3 rfl (by kernel_rfl)) rfl rfl (Ok.bat 1 [4, 5, 6, 8] [(25, .bool (xa.1 == 4))] ?_))
     refine Ok.nil (Ok.thenN (Ok.cond (b := (xa.1 == 4)) rfl (fun hc7 => ?_) (fun hc7 => ?_)))
     ·replace hF := hF.1 hc7
      refine Ok.region (Ok.bat 1 [4, 5, 6] [(26, pv bs5 0)] ?_)
      refine Ok.op rfl (OpOk.step (v := .int .i64 xb.1) (Yields.load 1 rfl rfl Tryz.underlying3 rfl (by kernel_rfl)) rfl rfl (Ok.bat 1 [4, 5, 6] [(8, .int .i64 xb.1)] ?_))
      refine Ok.nil (Ok.thenN (Ok.reval 8 rfl (show (.int .i64 xb.1 : Value) = .int .i64 (if (xa.1 == 4) = true then xb.1 else xa.1) from congrArg (Value.int .i64) ((if_t hc7).symm)) ?_))
      exact fun a W hA hW => ⟨hA.sub (by kernel_rfl), hW, hF⟩
     ·replace hF := hF.2 hc7
      refine Ok.skip (Ok.thenN (Ok.reval 8 rfl (show (.int .i64 xa.1 : Value) = .int .i64 (if (xa.1 == 4) = true then xb.1 else xa.1) from congrArg (Value.int .i64) ((if_f hc7).symm)) ?_))
      exact fun a W hA hW => ⟨hA.sub (by kernel_rfl), hW, hF⟩
    ·
     clear hF
     rintro a W ⟨hA, hW, hF⟩
     refine (?_ : Ok _ _ _ _ _ _) a W hA hW
     clear hA hW
     refine Ok.seq (Ok.region (Ok.bat 2 [5, 6] [(28, .int .i64 (if (xa.1 == 4) = true then xb.1 else xa.1)), (29, pv bs4 1)] ?_))
     refine Ok.op rfl (OpOk.step (v := .int .i64 xa.2) (Yields.load 2 rfl rfl Tryz.underlying3 rfl (by kernel_rfl)) rfl rfl (Ok.bat 1 [6, 28] [(30, .int .i64 xa.2), (31, pv bs5 1)] ?_))
     refine Ok.op rfl (OpOk.step (v := .int .i64 xb.2) (Yields.load 1 rfl rfl Tryz.underlying3 rfl (by kernel_rfl)) rfl rfl (Ok.bat 1 [6, 28] [(33, .int .i64 (w6 (xa.2 * xb.2)))] ?_))
     obtain ⟨hp6, hF⟩ := hF
     refine Ok.op rfl (OpOk.callG (v := .int .i64 (wholeM (w6 (xa.2 * xb.2)) 1000)) enr (fun W hW => whole_c (w6 (xa.2 * xb.2)) 1000 hp6) rfl ?_)
     refine Ok.op rfl (OpOk.callG (v := .int .i64 (rcutM (wholeM (w6 (xa.2 * xb.2)) 1000))) enr (fun W hW => rcut_c (wholeM (w6 (xa.2 * xb.2)) 1000)) rfl ?_)
     refine Ok.bat 1 [6] [(36, .agg #[.int .i64 (if (xa.1 == 4) = true then xb.1 else xa.1), .int .i64 (rcutM (wholeM (w6 (xa.2 * xb.2)) 1000))])] ?_
     refine Ok.op rfl (OpOk.sto (k := 2) (v := .agg #[.int .i64 (if (xa.1 == 4) = true then xb.1 else xa.1), .int .i64 (rcutM (wholeM (w6 (xa.2 * xb.2)) 1000))]) 0 #[.int .i64 (if (xa.1 == 4) = true then xb.1 else xa.1), .int .i64 (rcutM (wholeM (w6 (xa.2 * xb.2)) 1000))] rfl rfl rfl ?_)
     refine Ok.bat 1 [6] [(7, .int .i64 0)] ?_
     refine Ok.nil (Ok.thenN (Ok.ret (Ok.thenR ?_)))
     exact Ok.resP (vs := [.agg #[.int .i64 (if (xa.1 == 4) = true then xb.1 else xa.1), .int .i64 (rcutM (wholeM (w6 (xa.2 * xb.2)) 1000))], .int .i64 0]) [] [] (by decide) rfl (.inl rfl) rfl (.cons (.cellAgg 0 2 #[.int .i64 (if (xa.1 == 4) = true then xb.1 else xa.1), .int .i64 (rcutM (wholeM (w6 (xa.2 * xb.2)) 1000))] rfl rfl Tryz.underlying31 rfl (by kernel_rfl) (by kernel_rfl) (by kernel_rfl)) (.cons (.tmp rfl) .nil)) (Gext.refl w0 g) ⟨((if (xa.1 == 4) = true then xb.1 else xa.1), (rcutM (wholeM (w6 (xa.2 * xb.2)) 1000))), 0, rfl, rfl, hF⟩
 ·replace hF := hF.2 hc4
  refine Ok.skip (Ok.thenN (Ok.seq (Ok.seq (Ok.region (Ok.bat 2 [0, 4, 5, 6] [(38, .bool (xkind == 5))] ?_)))))
  refine Ok.nil (Ok.thenN (Ok.cond (b := (xkind == 5)) rfl (fun hc9 => ?_) (fun hc9 => ?_)))
  ·replace hF := hF.1 hc9
   refine Ok.seq (Ok.seq (Ok.region (Ok.bat 1 [4, 5, 6] [(39, pv bs5 0)] ?_)))
   refine Ok.op rfl (OpOk.step (v := .int .i64 xb.1) (Yields.load 1 rfl rfl Tryz.underlying3 rfl (by kernel_rfl)) rfl rfl (Ok.bat 1 [4, 5, 6] [(41, .bool (xb.1 != 4))] ?_))
   refine Ok.nil (Ok.thenN (Ok.cond (b := (xb.1 != 4)) rfl (fun hc10 => ?_) (fun hc10 => ?_)))
   ·replace hF := hF.1 hc10
    refine Ok.seq (Ok.region (Ok.bat 1 [6] [(42, .agg #[.int .i64 0, .int .i64 0])] ?_))
    refine Ok.op rfl (OpOk.sto (k := 2) (v := .agg #[.int .i64 0, .int .i64 0]) 0 #[.int .i64 0, .int .i64 0] rfl rfl rfl ?_)
    refine Ok.bat 1 [6] [(7, .int .i64 7)] ?_
    refine Ok.nil (Ok.thenN (Ok.ret (Ok.thenR (Ok.thenR ?_))))
    exact Ok.resP (vs := [.agg #[.int .i64 0, .int .i64 0], .int .i64 7]) [] [] (by decide) rfl (.inl rfl) rfl (.cons (.cellAgg 0 2 #[.int .i64 0, .int .i64 0] rfl rfl Tryz.underlying31 rfl (by kernel_rfl) (by kernel_rfl) (by kernel_rfl)) (.cons (.tmp rfl) .nil)) (Gext.refl w0 g) ⟨(0, 0), 7, rfl, rfl, hF⟩
   ·replace hF := hF.2 hc10
    refine Ok.skip (Ok.thenN (Ok.seq (Ok.seq (Ok.region (Ok.bat 1 [4, 5, 6] [(43, pv bs5 1)] ?_)))))
    refine Ok.op rfl (OpOk.step (v := .int .i64 xb.2) (Yields.load 1 rfl rfl Tryz.underlying3 rfl (by kernel_rfl)) rfl rfl (Ok.bat 1 [4, 5, 6] [(45, .bool (xb.2 == 0))] ?_))
    refine Ok.nil (Ok.thenN (Ok.cond (b := (xb.2 == 0)) rfl (fun hc11 => ?_) (fun hc11 => ?_)))
    ·replace hF := hF.1 hc11
     refine Ok.seq (Ok.region (Ok.bat 1 [6] [(46, .agg #[.int .i64 0, .int .i64 0])] ?_))
     refine Ok.op rfl (OpOk.sto (k := 2) (v := .agg #[.int .i64 0, .int .i64 0]) 0 #[.int .i64 0, .int .i64 0] rfl rfl rfl ?_)
     refine Ok.bat 1 [6] [(7, .int .i64 1)] ?_
     refine Ok.nil (Ok.thenN (Ok.ret (Ok.thenR (Ok.thenR ?_))))
     exact Ok.resP (vs := [.agg #[.int .i64 0, .int .i64 0], .int .i64 1]) [] [] (by decide) rfl (.inl rfl) rfl (.cons (.cellAgg 0 2 #[.int .i64 0, .int .i64 0] rfl rfl Tryz.underlying31 rfl (by kernel_rfl) (by kernel_rfl) (by kernel_rfl)) (.cons (.tmp rfl) .nil)) (Gext.refl w0 g) ⟨(0, 0), 1, rfl, rfl, hF⟩
    ·replace hF := hF.2 hc11
     refine Ok.skip (Ok.thenN (Ok.seq (Ok.mix [] [] [.blk bs5 (.cells #[.int .i64 xb.1, .int .i64 xb.2] 31), .blk bs4 (.cells #[.int .i64 xa.1, .int .i64 xa.2] 31)] [(0, true), (1, true), (2, true), (3, true), (4, true), (5, true), (6, true), (7, true), (8, true), (9, true), (10, false), (11, true)] (by kernel_rfl) (by kernel_rfl) (.cons _ (.cons_cons _ (.cons_cons _ .slnil))) (OkM.bat 1 [4, 5, 6] [(47, pv bs4 0)] ?_))))
     refine OkM.head rfl rfl (show _ = [.blk bs5 (.cells #[.int .i64 xb.1, .int .i64 xb.2] 31), .blk bs4 (.cells #[.int .i64 xa.1, .int .i64 xa.2] 31)] from rfl) (OpQ.step (v := .int .i64 xa.1) (Yields.load 1 rfl rfl Tryz.underlying3 rfl (by kernel_rfl)) rfl rfl (OkM.bat 1 [5, 6] [(48, .int .i64 xa.1), (49, pv bs4 1)] ?_))
     refine OkM.head rfl rfl (show _ = [.blk bs5 (.cells #[.int .i64 xb.1, .int .i64 xb.2] 31), .blk bs4 (.cells #[.int .i64 xa.1, .int .i64 xa.2] 31)] from rfl) (OpQ.step (v := .int .i64 xa.2) (Yields.load 1 rfl rfl Tryz.underlying3 rfl (by kernel_rfl)) rfl rfl (OkM.bat 2 [6, 48] [(51, .int .i64 (w6 (xa.2 * 1000))), (52, pv bs5 1)] ?_))
     refine OkM.head rfl rfl (show _ = [.blk bs5 (.cells #[.int .i64 xb.1, .int .i64 xb.2] 31), .blk bs4 (.cells #[.int .i64 xa.1, .int .i64 xa.2] 31)] from rfl) (OpQ.step (v := .int .i64 xb.2) (Yields.load 0 rfl rfl Tryz.underlying3 rfl (by kernel_rfl)) rfl rfl ?_)
     obtain ⟨hp12, hF⟩ := hF
     refine OkM.head rfl rfl (show _ = [.blk bs5 (.cells #[.int .i64 xb.1, .int .i64 xb.2] 31), .blk bs4 (.cells #[.int .i64 xa.1, .int .i64 xa.2] 31)] from rfl) (OpQ.callG (v := .int .i64 (floS (w6 (xa.2 * 1000)) xb.2)) enr (fun W hW => flo_c (w6 (xa.2 * 1000)) xb.2 hp12) rfl ?_)
     refine OkM.head rfl rfl (show _ = [.blk bs5 (.cells #[.int .i64 xb.1, .int .i64 xb.2] 31), .blk bs4 (.cells #[.int .i64 xa.1, .int .i64 xa.2] 31)] from rfl) (OpQ.callG (v := .int .i64 (rcutM (floS (w6 (xa.2 * 1000)) xb.2))) enr (fun W hW => rcut_c (floS (w6 (xa.2 * 1000)) xb.2)) rfl ?_)
     refine OkM.bat 1 [6] [(56, .agg #[.int .i64 xa.1, .int .i64 (rcutM (floS (w6 (xa.2 * 1000)) xb.2))])] ?_
     refine OkM.tail rfl rfl (OpOk.sto (k := 2) (v := .agg #[.int .i64 xa.1, .int .i64 (rcutM (floS (w6 (xa.2 * 1000)) xb.2))]) 0 #[.int .i64 xa.1, .int .i64 (rcutM (floS (w6 (xa.2 * 1000)) xb.2))] rfl rfl rfl ?_)
     refine OkM.leaf (i := 10) (show _ = [.blk bs5 (.cells #[.int .i64 xb.1, .int .i64 xb.2] 31), .blk bs4 (.cells #[.int .i64 xa.1, .int .i64 xa.2] 31)] from rfl) (Gle.refl _) (.cons _ (.cons_cons _ (.cons_cons _ .slnil))) (OkM.bat 1 [6] [(7, .int .i64 0)] ?_)
     refine OkM.nil (Ok.thenN (Ok.ret (Ok.thenR ?_)))
     exact Ok.resP (vs := [.agg #[.int .i64 xa.1, .int .i64 (rcutM (floS (w6 (xa.2 * 1000)) xb.2))], .int .i64 0]) [] [] (by decide) rfl (.inl rfl) rfl (.cons (.cellAgg 0 2 #[.int .i64 xa.1, .int .i64 (rcutM (floS (w6 (xa.2 * 1000)) xb.2))] rfl rfl Tryz.underlying31 rfl (by kernel_rfl) (by kernel_rfl) (by kernel_rfl)) (.cons (.tmp rfl) .nil)) (Gext.refl w0 g) ⟨(xa.1, (rcutM (floS (w6 (xa.2 * 1000)) xb.2))), 0, rfl, rfl, hF⟩
  ·replace hF := hF.2 hc9
   refine Ok.skip (Ok.thenN (Ok.seq (Ok.seq (Ok.region (Ok.bat 1 [0, 4, 5, 6] [(57, pv bs4 0)] ?_)))))
   refine Ok.op rfl (OpOk.step (v := .int .i64 xa.1) (Yields.load 2 rfl rfl Tryz.underlying3 rfl (by kernel_rfl)) rfl rfl (Ok.bat 1 [0, 4, 5, 6] [(58, .int .i64 xa.1), (59, pv bs5 0)] ?_))
   refine Ok.op rfl (OpOk.step (v := .int .i64 xb.1) (Yields.load 1 rfl rfl Tryz.underlying3 rfl (by kernel_rfl)) rfl rfl (Ok.bat 1 [0, 4, 5, 6] [(61, .bool (xa.1 != xb.1))] ?_))
   refine Ok.nil (Ok.thenN (Ok.cond (b := (xa.1 != xb.1)) rfl (fun hc13 => ?_) (fun hc13 => ?_)))
   ·replace hF := hF.1 hc13
    refine Ok.seq (Ok.region (Ok.bat 1 [6] [(62, .agg #[.int .i64 0, .int .i64 0])] ?_))
    refine Ok.op rfl (OpOk.sto (k := 2) (v := .agg #[.int .i64 0, .int .i64 0]) 0 #[.int .i64 0, .int .i64 0] rfl rfl rfl ?_)
    refine Ok.bat 1 [6] [(7, .int .i64 7)] ?_
    refine Ok.nil (Ok.thenN (Ok.ret (Ok.thenR ?_)))
    exact Ok.resP (vs := [.agg #[.int .i64 0, .int .i64 0], .int .i64 7]) [] [] (by decide) rfl (.inl rfl) rfl (.cons (.cellAgg 0 2 #[.int .i64 0, .int .i64 0] rfl rfl Tryz.underlying31 rfl (by kernel_rfl) (by kernel_rfl) (by kernel_rfl)) (.cons (.tmp rfl) .nil)) (Gext.refl w0 g) ⟨(0, 0), 7, rfl, rfl, hF⟩
   ·replace hF := hF.2 hc13
    refine Ok.skip (Ok.thenN (Ok.seq (Ok.region (Ok.bat 1 [0, 4, 5, 6] [(63, pv bs4 1)] ?_))))
    refine Ok.op rfl (OpOk.step (v := .int .i64 xa.2) (Yields.load 2 rfl rfl Tryz.underlying3 rfl (by kernel_rfl)) rfl rfl (Ok.bat 1 [0, 4, 5, 6] [(64, .int .i64 xa.2), (65, pv bs5 1)] ?_))
    refine Ok.op rfl (OpOk.step (v := .int .i64 xb.2) (Yields.load 1 rfl rfl Tryz.underlying3 rfl (by kernel_rfl)) rfl rfl (Ok.bat 2 [0, 4, 5, 6] [(9, .int .i64 (w6 (xa.2 + xb.2)))] ?_))
    refine Ok.nil (Ok.thenN (Ok.cut (fun a W => StA 94 [(0, .int .i64 xkind), (4, pv bs4 0), (5, pv bs5 0), (6, pv bs6 0), (9, .int .i64 (prvV0 xkind xa xb))] a ∧ StW w0 [.blk bs6 (.cells #[.int .i64 0, .int .i64 0] 31), .blk bs5 (.cells #[.int .i64 xb.1, .int .i64 xb.2] 31), .blk bs4 (.cells #[.int .i64 xa.1, .int .i64 xa.2] 31)] g W ∧ prvj61 xkind xa xb K) ?_ ?_))
    ·
     refine Ok.seq (Ok.region (Ok.bat 2 [0, 4, 5, 6, 9] [(69, .bool (xkind == 3))] ?_))
     refine Ok.nil (Ok.thenN (Ok.cond (b := (xkind == 3)) rfl (fun hc16 => ?_) (fun hc16 => ?_)))
     ·replace hF := hF.1 hc16
      refine Ok.region (Ok.bat 1 [0, 4, 5, 6] [(70, pv bs4 1)] ?_)
      refine Ok.op rfl (OpOk.step (v := .int .i64 xa.2) (Yields.load 2 rfl rfl Tryz.underlying3 rfl (by kernel_rfl)) rfl rfl (Ok.bat 1 [0, 4, 5, 6] [(71, .int .i64 xa.2), (72, pv bs5 1)] ?_))
      refine Ok.op rfl (OpOk.step (v := .int .i64 xb.2) (Yields.load 1 rfl rfl Tryz.underlying3 rfl (by kernel_rfl)) rfl rfl (Ok.bat 2 [0, 4, 5, 6] [(9, .int .i64 (w6 (xa.2 - xb.2)))] ?_))
      refine Ok.nil (Ok.thenN (Ok.reval 9 rfl (show (.int .i64 (w6 (xa.2 - xb.2)) : Value) = .int .i64 (prvV0 xkind xa xb) from congrArg (Value.int .i64) ((if_t hc16).symm)) ?_))
      exact fun a W hA hW => ⟨hA.sub (by kernel_rfl), hW, hF⟩
     ·replace hF := hF.2 hc16
      refine Ok.skip (Ok.thenN (Ok.reval 9 rfl (show (.int .i64 (w6 (xa.2 + xb.2)) : Value) = .int .i64 (prvV0 xkind xa xb) from congrArg (Value.int .i64) ((if_f hc16).symm)) ?_))
      exact fun a W hA hW => ⟨hA.sub (by kernel_rfl), hW, hF⟩
    ·
     clear hF
     rintro a W ⟨hA, hW, hF⟩
     refine (?_ : Ok _ _ _ _ _ _) a W hA hW
     clear hA hW
     refine Ok.cut (fun a W => StA 94 [(0, .int .i64 xkind), (4, pv bs4 0), (5, pv bs5 0), (6, pv bs6 0), (9, .int .i64 (prvV1 xkind xa xb))] a ∧ StW w0 [.blk bs6 (.cells #[.int .i64 0, .int .i64 0] 31), .blk bs5 (.cells #[.int .i64 xb.1, .int .i64 xb.2] 31), .blk bs4 (.cells #[.int .i64 xa.1, .int .i64 xa.2] 31)] g W ∧ prvj67 xkind xa xb K) ?_ ?_
     ·
      refine Ok.seq (Ok.region (Ok.bat 2 [0, 4, 5, 6, 9] [(76, .bool (xkind == 6))] ?_))
      refine Ok.nil (Ok.thenN (Ok.cond (b := (xkind == 6)) rfl (fun hc15 => ?_) (fun hc15 => ?_)))
      ·replace hF := hF.1 hc15
       refine Ok.region (Ok.bat 1 [0, 4, 5, 6] [(77, pv bs4 1)] ?_)
       refine Ok.op rfl (OpOk.step (v := .int .i64 xa.2) (Yields.load 2 rfl rfl Tryz.underlying3 rfl (by kernel_rfl)) rfl rfl (Ok.bat 1 [0, 4, 5, 6] [(78, .int .i64 xa.2), (79, pv bs5 1)] ?_))
       refine Ok.op rfl (OpOk.step (v := .int .i64 xb.2) (Yields.load 1 rfl rfl Tryz.underlying3 rfl (by kernel_rfl)) rfl rfl (Ok.bat 2 [0, 4, 5, 6] [(9, .int .i64 (if xb.2 < xa.2 then xb.2 else xa.2))] ?_))
       refine Ok.nil (Ok.thenN (Ok.reval 9 rfl (show (.int .i64 (if xb.2 < xa.2 then xb.2 else xa.2) : Value) = .int .i64 (prvV1 xkind xa xb) from congrArg (Value.int .i64) ((if_t hc15).symm)) ?_))
       exact fun a W hA hW => ⟨hA.sub (by kernel_rfl), hW, hF⟩
      ·replace hF := hF.2 hc15
       refine Ok.skip (Ok.thenN (Ok.reval 9 rfl (show (.int .i64 (prvV0 xkind xa xb) : Value) = .int .i64 (prvV1 xkind xa xb) from congrArg (Value.int .i64) ((if_f hc15).symm)) ?_))
       exact fun a W hA hW => ⟨hA.sub (by kernel_rfl), hW, hF⟩
     ·
      clear hF
      rintro a W ⟨hA, hW, hF⟩
      refine (?_ : Ok _ _ _ _ _ _) a W hA hW
      clear hA hW
      refine Ok.cut (fun a W => StA 94 [(4, pv bs4 0), (6, pv bs6 0), (9, .int .i64 (prvV2 xkind xa xb))] a ∧ StW w0 [.blk bs6 (.cells #[.int .i64 0, .int .i64 0] 31), .blk bs4 (.cells #[.int .i64 xa.1, .int .i64 xa.2] 31)] g W ∧ prvj73 xkind xa xb K) ?_ ?_
      ·
       refine Ok.seq (Ok.region (Ok.bat 2 [4, 5, 6, 9] [(83, .bool (xkind == 7))] ?_))
       refine Ok.nil (Ok.thenN (Ok.cond (b := (xkind == 7)) rfl (fun hc14 => ?_) (fun hc14 => ?_)))
       ·replace hF := hF.1 hc14
        refine Ok.region (Ok.bat 1 [4, 5, 6] [(84, pv bs4 1)] ?_)
        refine Ok.op rfl (OpOk.step (v := .int .i64 xa.2) (Yields.load 2 rfl rfl Tryz.underlying3 rfl (by kernel_rfl)) rfl rfl (Ok.bat 1 [4, 6] [(85, .int .i64 xa.2), (86, pv bs5 1)] ?_))
        refine Ok.op rfl (OpOk.step (v := .int .i64 xb.2) (Yields.load 1 rfl rfl Tryz.underlying3 rfl (by kernel_rfl)) rfl rfl (Ok.bat 2 [4, 6] [(9, .int .i64 (if xa.2 < xb.2 then xb.2 else xa.2))] ?_))
        refine Ok.nil (Ok.thenN (Ok.reval 9 rfl (show (.int .i64 (if xa.2 < xb.2 then xb.2 else xa.2) : Value) = .int .i64 (prvV2 xkind xa xb) from congrArg (Value.int .i64) ((if_t hc14).symm)) ?_))
        exact fun a W hA hW => ⟨hA.sub (by kernel_rfl), hW.sub (.cons_cons _ (.cons _ (.cons_cons _ .slnil))), hF⟩
       ·replace hF := hF.2 hc14
        refine Ok.skip (Ok.thenN (Ok.reval 9 rfl (show (.int .i64 (prvV1 xkind xa xb) : Value) = .int .i64 (prvV2 xkind xa xb) from congrArg (Value.int .i64) ((if_f hc14).symm)) ?_))
        exact fun a W hA hW => ⟨hA.sub (by kernel_rfl), hW.sub (.cons_cons _ (.cons _ (.cons_cons _ .slnil))), hF⟩
      ·
       clear hF
       rintro a W ⟨hA, hW, hF⟩
       refine (?_ : Ok _ _ _ _ _ _) a W hA hW
       clear hA hW
       refine Ok.seq (Ok.mix [] [] [.blk bs4 (.cells #[.int .i64 xa.1, .int .i64 xa.2] 31)] [(0, true), (1, true), (2, true), (3, true), (4, true), (5, false), (6, true)] (by kernel_rfl) (by kernel_rfl) (.cons _ (.cons_cons _ .slnil)) (OkM.bat 1 [6, 9] [(89, pv bs4 0)] ?_))
       refine OkM.head rfl rfl (show _ = [.blk bs4 (.cells #[.int .i64 xa.1, .int .i64 xa.2] 31)] from rfl) (OpQ.step (v := .int .i64 xa.1) (Yields.load 0 rfl rfl Tryz.underlying3 rfl (by kernel_rfl)) rfl rfl (OkM.bat 1 [6] [(90, .int .i64 xa.1), (91, .int .i64 (prvV2 xkind xa xb))] ?_))
       refine OkM.head rfl rfl (show _ = [.blk bs4 (.cells #[.int .i64 xa.1, .int .i64 xa.2] 31)] from rfl) (OpQ.callG (v := .int .i64 (rcutM (prvV2 xkind xa xb))) enr (fun W hW => rcut_c (prvV2 xkind xa xb)) rfl ?_)
       refine OkM.bat 1 [6] [(93, .agg #[.int .i64 xa.1, .int .i64 (rcutM (prvV2 xkind xa xb))])] ?_
       refine OkM.tail rfl rfl (OpOk.sto (k := 2) (v := .agg #[.int .i64 xa.1, .int .i64 (rcutM (prvV2 xkind xa xb))]) 0 #[.int .i64 xa.1, .int .i64 (rcutM (prvV2 xkind xa xb))] rfl rfl rfl ?_)
       refine OkM.leaf (i := 5) (show _ = [.blk bs4 (.cells #[.int .i64 xa.1, .int .i64 xa.2] 31)] from rfl) (Gle.refl _) (.cons _ (.cons_cons _ .slnil)) (OkM.bat 1 [6] [(7, .int .i64 0)] ?_)
       refine OkM.nil (Ok.thenN (Ok.ret ?_))
       exact Ok.resP (vs := [.agg #[.int .i64 xa.1, .int .i64 (rcutM (prvV2 xkind xa xb))], .int .i64 0]) [] [] (by decide) rfl (.inl rfl) rfl (.cons (.cellAgg 0 2 #[.int .i64 xa.1, .int .i64 (rcutM (prvV2 xkind xa xb))] rfl rfl Tryz.underlying31 rfl (by kernel_rfl) (by kernel_rfl) (by kernel_rfl)) (.cons (.tmp rfl) .nil)) (Gext.refl w0 g) ⟨(xa.1, (rcutM (prvV2 xkind xa xb))), 0, rfl, rfl, hF⟩
def prvS (k : Int) (a b : Vl) : Vl × Int :=
 if (k == 4) = true then (if ((a.1 != 4) && (b.1 != 4)) = true then ((0, 0), 7) else (((if (a.1 == 4) = true then b.1 else a.1), rcutM (wholeM (w6 (a.2 * b.2)) 1000)), 0))
 else if (k == 5) = true then (if (b.1 != 4) = true then ((0, 0), 7) else if (b.2 == 0) = true then ((0, 0), 1) else ((a.1, rcutM (floS (w6 (a.2 * 1000)) b.2)), 0))
 else if (a.1 != b.1) = true then ((0, 0), 7) else ((a.1, rcutM (prvV2 k a b)), 0)
def prvP (_ : Int) (a b : Vl) : Prop := bd a ∧ bd b
theorem prv_F (k : Int) (a b : Vl) (hp : prvP k a b) : prvF k a b (fun x y => (x, y) = prvS k a b) := by
 obtain ⟨ha, hb⟩ := hp
 unfold bd at ha hb
 have j73 : (k == 4) = false → (k == 5) = false → (a.1 != b.1) = false → prvj73 k a b (fun x y => (x, y) = prvS k a b) := fun h1 h2 h3 => by
  unfold prvj73 prvS
  rw [if_f h1, if_f h2, if_f h3]
 have j8 : (k == 4) = true → prvj8 a b (fun x y => (x, y) = prvS k a b) := fun h1 => by
  have j17 : ((a.1 != 4) && (b.1 != 4)) = false → prvj17 a b (fun x y => (x, y) = prvS k a b) := fun h2 => by
   unfold prvj17 prvS
   rw [if_t h1, if_f h2]
   exact ⟨by unfold byP; decide, rfl⟩
  exact ⟨fun h2 => by unfold prvS; rw [if_t h1, if_t h2], fun h2 => ⟨fun _ => j17 h2, fun _ => j17 h2⟩⟩
 refine ⟨fun h1 => ⟨fun _ => j8 h1, fun _ => j8 h1⟩, fun h1 => ⟨fun h2 => ⟨fun h3 => ?_, fun h3 => ⟨fun h4 => ?_, fun h4 => ⟨?_, ?_⟩⟩⟩, fun h2 => ⟨fun h3 => ?_, fun h3 => ?_⟩⟩⟩
 ·unfold prvS; rw [if_f h1, if_t h2, if_t h3]
 ·unfold prvS; rw [if_f h1, if_t h2, if_f h3, if_t h4]
 ·have : b.2 ≠ 0 := by simpa using h4
  exact ⟨this, by omega, by omega⟩
 ·unfold prvS; rw [if_f h1, if_t h2, if_f h3, if_f h4]
 ·unfold prvS; rw [if_f h1, if_f h2, if_t h3]
 ·have h := j73 h1 h2 h3
  have j67 : prvj67 k a b (fun x y => (x, y) = prvS k a b) := ⟨fun _ => h, fun _ => h⟩
  have j61 : prvj61 k a b (fun x y => (x, y) = prvS k a b) := ⟨fun _ => j67, fun _ => j67⟩
  exact ⟨fun _ => j61, fun _ => j61⟩
theorem prv_c {g : Ghost} (xkind : Int) (xa : Int × Int) (xb : Int × Int)  (hp : prvP xkind xa xb) : CallsG Tryz.prog 14 #[.int .i64 xkind, .agg #[.int .i64 xa.1, .int .i64 xa.2], .agg #[.int .i64 xb.1, .int .i64 xb.2]] g (.tuple #[.agg #[.int .i64 (prvS xkind xa xb).1.1, .int .i64 (prvS xkind xa xb).1.2], .int .i64 (prvS xkind xa xb).2]) :=
 (prv_ok xkind xa xb _ (prv_F xkind xa xb hp)).gives (by rintro g' H' v _ ⟨r0, r1, rfl, rfl, hK⟩; obtain ⟨rfl, rfl⟩ : r0 = (prvS xkind xa xb).1 ∧ r1 = (prvS xkind xa xb).2 := ⟨congrArg (fun z => z.1) hK, congrArg (fun z => z.2) hK⟩; rfl)
theorem prv_bd (k : Int) (a b : Vl) : bd (prvS k a b).1 := by
 unfold prvS bd
 repeat' split
 all_goals first | exact rcut_in _ | exact ⟨show (-16777216 : Int) ≤ 0 by decide, show (0 : Int) ≤ 16777216 by decide⟩
theorem prvE {k : Int} {a b : Vl} (h : ((prvS k a b).2 != 0) = true) : prvS k a b = ((0, 0), (prvS k a b).2) := by
 revert h
 unfold prvS
 repeat' split
 all_goals first | (intro h; rfl) | (intro h; exact absurd h (show ¬ (((0 : Int) != 0) = true) by decide))
theorem prvO {k : Int} {a b : Vl} (h : ((prvS k a b).2 != 0) = false) : prvS k a b = ((prvS k a b).1, 0) := by
 have : (prvS k a b).2 = 0 := by simpa using h
 rw [← this]
theorem mul_in {x y : Int} (hx : -16777216 ≤ x ∧ x ≤ 16777216) (hy : -16777216 ≤ y ∧ y ≤ 16777216) : -281474976710656 ≤ x * y ∧ x * y ≤ 281474976710656 := by
 have h1 : (x * y).natAbs ≤ 16777216 * 16777216 := by rw [Int.natAbs_mul]; exact Nat.mul_le_mul (by omega) (by omega)
 omega
theorem tim_eq {a b : Vl} (ha : bd a) (hb : bd b) : timM a b = prvS 4 a b := by
 have hm := mul_in ha hb
 have hm2 := mul_in hb ha
 unfold timM timj3M prvS
 rw [if_t (show ((4 : Int) == 4) = true from rfl)]
 by_cases h1 : b.1 = 4
 ·have e1 : (b.1 != 4) = false := by simpa using h1
  simp only [e1, if_f, Bool.and_false, Bool.false_eq_true, if_false]
  rw [w64 (by omega), ccut_eq, cdn_whole (by omega) (by omega)]
  by_cases h2 : a.1 = 4
  ·rw [if_t (show (a.1 == 4) = true by simpa using h2), h1, h2]
  ·rw [if_f (show (a.1 == 4) = false by simpa using h2)]
 ·have e1 : (b.1 != 4) = true := by simpa using h1
  simp only [e1, if_true, Bool.and_true]
  by_cases h2 : a.1 = 4
  ·have e2 : (a.1 != 4) = false := by simpa using h2
   rw [e2, if_f rfl, if_f rfl, if_t (show (a.1 == 4) = true by simpa using h2), w64 (by omega), w64 (by omega), ccut_eq, cdn_whole (by omega) (by omega), Int.mul_comm]
  ·have e2 : (a.1 != 4) = true := by simpa using h2
   rw [e2, if_t rfl, if_t rfl]
theorem dv_eq {a b : Vl} (ha : bd a) (hb : bd b) : dvS a b = prvS 5 a b := by
 unfold bd at ha hb
 unfold dvS prvS
 rw [if_f (show ((5 : Int) == 4) = false from rfl), if_t (show ((5 : Int) == 5) = true from rfl)]
 cases h1 : b.1 != 4
 ·rw [if_f rfl, if_f rfl]
  cases h2 : b.2 == 0
  ·rw [if_f rfl, if_f rfl, ccut_eq]
   have h2 : b.2 ≠ 0 := by simpa using h2
   unfold floS
   by_cases h3 : b.2 < 0
   ·rw [if_t (decide_eq_true h3), w64 (by omega), cdn_neg (by omega) (by omega)]
   ·rw [if_f (decide_eq_false h3), w64 (by omega), cdn_whole (by omega) (by omega)]
  ·rw [if_t rfl, if_t rfl]
 ·rw [if_t rfl, if_t rfl]
end Go.Proofs.YtogcmkphibegbaaGreatDoor.Cl
