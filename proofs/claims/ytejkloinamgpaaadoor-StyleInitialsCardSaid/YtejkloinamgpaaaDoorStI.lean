/- StyleInitials: functions of the law. -/
import Derived.Test.YtejkloinamgpaaaDoorPl
import Derived.Test.YtejkloinamgpaaaDoorLaid
import Derived.Test.YtejkloinamgpaaaDoorChecked
namespace Go.Proofs.YtejkloinamgpaaaDoor.StI
open Go.Eng
set_option linter.unusedVariables false
def DInit : List (Int × Int) := [(1, 1), (1, 0), (1, 0), (1, 0), (1, 0), (6, 0), (6, 0), (6, 0), (6, 0), (6, 0), (6, 0), (2, 0), (2, 0), (2, 0), (2, 0), (2, 0), (2, 0), (2, 0), (2, 0), (2, 0), (2, 0), (2, 0), (2, 0), (5, 255), (5, 255), (5, 255), (5, 255), (6, 0), (6, 0), (6, 0), (6, 0), (6, 0), (1, 0), (1, 0), (4, 1000), (5, 255), (5, 0), (2, 1024), (6, 0), (1, 0), (2, 0), (1, 0), (1, 0), (1, 0), (6, 0), (1, 0), (1, 0), (1, 0), (1, 6), (6, 0), (4, 0), (4, 1000), (6, 0), (4, 0), (2, 0), (1, 0), (2, 0), (1, 1), (1, 0)]
def initj4 (xp : Int) (K : (Int × Int) → Prop) : Prop :=
  ((((decide (xp < 0)) || (decide (xp ≥ 59)))) = true → K (0, 0)) ∧ ((((decide (xp < 0)) || (decide (xp ≥ 59)))) = false → (0 : Int) ≤ xp ∧ Int.toNat xp < DInit.length ∧ K (DInit.getD (Int.toNat xp) default))
def initF (xp : Int) (K : (Int × Int) → Prop) : Prop :=
  ((decide (xp < 0)) = true → initj4 xp K) ∧ ((decide (xp < 0)) = false → initj4 xp K)
set_option maxHeartbeats 4000000 in
set_option maxRecDepth 100000 in
set_option linter.unusedVariables false in
theorem init_ok {g : Ghost} (xp : Int) (hG0 : GlobL g 0 (.pair (.int .i64) (.int .i64)) DInit) (K : (Int × Int) → Prop)
    (hF : initF xp K) : CallsH Tryd.prog 6 #[.int .i64 xp] g [] (fun g' H' v => ∃ (r0 : Int × Int), v = .agg #[.int .i64 r0.1, .int .i64 r0.2] ∧ H' = [] ∧ K r0) := by
  refine CallsH.enter 13 [(0, .int .i64 xp)] Tryd.func6 rfl (by kernel_rfl) (by kernel_rfl) (by kernel_rfl) fun w0 => ?_
  refine Ok.seq ?_
  refine Ok.region ?_
  refine Ok.op rfl (OpOk.alloc (z := .agg #[.int .i64 0, .int .i64 0]) (cs := #[.int .i64 0, .int .i64 0]) (by kernel_rfl) (by kernel_rfl) rfl fun b1 => ?_)
  refine Ok.nil ?_
  refine Ok.thenN ?_
  refine Ok.seq ?_
  refine Ok.cut (fun a W => StA 13 [(0, .int .i64 xp), (2, .pointer (some ⟨b1, 0, none⟩)), (8, .bool ((decide (xp < 0)) || (decide (xp ≥ 59))))] a ∧ StW w0 [.blk b1 (.cells #[.int .i64 0, .int .i64 0] 23)] g W ∧ initj4 xp K) ?_ ?_
  ·
    refine Ok.region ?_
    refine Ok.batch 3 [(0, .int .i64 xp), (2, .pointer (some ⟨b1, 0, none⟩)), (5, .bool (decide (xp < 0)))] (by kernel_rfl) ?_
    refine Ok.boolAt 5 (decide (xp < 0)) rfl (fun hc5 => ?_) (fun hc5 => ?_)
    · replace hF := hF.1 hc5
      refine Ok.batch 3 [(0, .int .i64 xp), (2, .pointer (some ⟨b1, 0, none⟩)), (8, .bool true)] (by kernel_rfl) ?_
      refine Ok.nil ?_
      refine Ok.thenN ?_
      refine Ok.reval 8 rfl (show (.bool true : Value) = .bool ((decide (xp < 0)) || (decide (xp ≥ 59))) from congrArg (Value.bool) (mor_t hc5)) ?_
      exact fun a W hA hW => ⟨hA.sub (by kernel_rfl), hW, hF⟩
    · replace hF := hF.2 hc5
      refine Ok.batch 3 [(0, .int .i64 xp), (2, .pointer (some ⟨b1, 0, none⟩)), (8, .bool (decide (xp ≥ 59)))] (by kernel_rfl) ?_
      refine Ok.nil ?_
      refine Ok.thenN ?_
      refine Ok.reval 8 rfl (show (.bool (decide (xp ≥ 59)) : Value) = .bool ((decide (xp < 0)) || (decide (xp ≥ 59))) from congrArg (Value.bool) (mor_f hc5)) ?_
      exact fun a W hA hW => ⟨hA.sub (by kernel_rfl), hW, hF⟩
  ·
    rintro a W ⟨hA, hW, hF⟩
    refine (?_ : Ok _ _ _ _ _ _) a W hA hW
    clear hA hW
    refine Ok.cond (b := ((decide (xp < 0)) || (decide (xp ≥ 59)))) rfl (fun hc2 => ?_) (fun hc2 => ?_)
    · replace hF := hF.1 hc2
      refine Ok.seq ?_
      refine Ok.region ?_
      refine Ok.batch 1 [(2, .pointer (some ⟨b1, 0, none⟩)), (9, .agg #[.int .i64 0, .int .i64 0])] (by kernel_rfl) ?_
      refine Ok.op rfl (OpOk.store (k := 2) (v := .agg #[.int .i64 0, .int .i64 0]) (H' := [.blk b1 (.cells #[.int .i64 0, .int .i64 0] 23)]) 0 rfl rfl rfl (by kernel_rfl) (by kernel_rfl) (by kernel_rfl) (by kernel_rfl) (by kernel_rfl) ?_)
      refine Ok.nil ?_
      refine Ok.thenN ?_
      refine Ok.ret ?_
      refine Ok.thenR ?_
      exact Ok.resP (vs := [.agg #[.int .i64 0, .int .i64 0]]) [] [] (by decide) rfl (.inl rfl) rfl (.cons (.cellAgg 0 2 #[.int .i64 0, .int .i64 0] rfl rfl Tryd.underlying23 rfl (by kernel_rfl) (by kernel_rfl) (by kernel_rfl)) .nil) (Gext.refl w0 g) ⟨(0, 0), rfl, rfl, hF⟩
    · replace hF := hF.2 hc2
      refine Ok.skip ?_
      refine Ok.thenN ?_
      refine Ok.seq ?_
      refine Ok.region ?_
      refine Ok.batch 1 [(2, .pointer (some ⟨b1, 0, none⟩)), (10, .int .i64 xp)] (by kernel_rfl) ?_
      obtain ⟨h04, h14, hF⟩ := hF
      have he4 := get_of (l := DInit) (default : Int × Int) h14
      generalize hg4 : (DInit.getD (Int.toNat xp) default) = e4 at he4 hF ⊢
      refine Ok.op rfl (OpOk.indexGlob (e := .pair (.int .i64) (.int .i64)) (L := DInit) (q := xp) (el := e4) hG0 rfl rfl Tryd.underlying35 (by kernel_rfl) rfl h04 he4 rfl fun cs3 _ hat3 hr3 => ?_)
      obtain ⟨_, _, rfl, rfl, rfl⟩ := hr3
      replace hat3 : At g 0 (Int.toNat xp * 2) [.int .i64 e4.1, .int .i64 e4.2] := hat3
      refine Ok.op rfl (OpOk.step (v := .agg #[.int .i64 e4.1, .int .i64 e4.2]) (Yields.loadAggRo 0 2 #[.int .i64 e4.1, .int .i64 e4.2] hat3 (by kernel_rfl) Tryd.underlying23 rfl (by kernel_rfl) (by kernel_rfl) (by kernel_rfl)) rfl rfl ?_)
      refine Ok.op rfl (OpOk.store (k := 2) (v := .agg #[.int .i64 e4.1, .int .i64 e4.2]) (H' := [.blk b1 (.cells #[.int .i64 e4.1, .int .i64 e4.2] 23)]) 0 rfl rfl rfl (by kernel_rfl) (by kernel_rfl) (by kernel_rfl) (by kernel_rfl) (by kernel_rfl) ?_)
      refine Ok.nil ?_
      refine Ok.thenN ?_
      refine Ok.ret ?_
      exact Ok.resP (vs := [.agg #[.int .i64 e4.1, .int .i64 e4.2]]) [] [] (by decide) rfl (.inl rfl) rfl (.cons (.cellAgg 0 2 #[.int .i64 e4.1, .int .i64 e4.2] rfl rfl Tryd.underlying23 rfl (by kernel_rfl) (by kernel_rfl) (by kernel_rfl)) .nil) (Gext.refl w0 g) ⟨e4, rfl, rfl, hF⟩
def initj4M (xp : Int) : (Int × Int) := (if ((decide (xp < 0)) || (decide (xp ≥ 59))) = true then (0, 0) else (DInit.getD (Int.toNat xp) default))
set_option linter.unusedSimpArgs false in
set_option linter.unusedVariables false in
theorem initj4_A (xp : Int) (P : (Int × Int) → Prop) (h : P (initj4M xp)) : initj4 xp (fun k0 => P k0) := by
  unfold initj4M at h
  unfold initj4
  have hlen_DInit : DInit.length = 59 := by first | rfl | decide
  refine ⟨fun hc0 => ?_, fun hc0 => ?_⟩
  · rw [if_t hc0] at h
    have hd0 := hc0; try simp only [Bool.and_eq_true, Bool.or_eq_true, Bool.and_eq_false_iff, Bool.or_eq_false_iff, Bool.not_eq_true', Bool.not_eq_false', decide_eq_true_eq, decide_eq_false_iff_not, beq_iff_eq, beq_eq_false_iff_ne, ne_eq] at hd0
    exact h
  · rw [if_f hc0] at h
    have hd0 := hc0; try simp only [Bool.and_eq_true, Bool.or_eq_true, Bool.and_eq_false_iff, Bool.or_eq_false_iff, Bool.not_eq_true', Bool.not_eq_false', decide_eq_true_eq, decide_eq_false_iff_not, beq_iff_eq, beq_eq_false_iff_ne, ne_eq] at hd0
    refine ⟨?_, ?_, ?_⟩
    · first | omega | assumption | exact trivial | (simp; omega) | (simp at *; omega)
    · first | omega | assumption | exact trivial | (simp; omega) | (simp at *; omega)
    exact h
def initM (xp : Int) : (Int × Int) := (initj4M xp)
set_option linter.unusedSimpArgs false in
set_option linter.unusedVariables false in
theorem initF_A (xp : Int) (P : (Int × Int) → Prop) (h : P (initM xp)) : initF xp (fun k0 => P k0) := by
  unfold initM at h
  unfold initF
  refine ⟨fun hc0 => ?_, fun hc0 => ?_⟩
  · skip
    have hd0 := of_decide_eq_true hc0
    exact initj4_A xp _ h
  · skip
    have hd0 := of_decide_eq_false hc0
    exact initj4_A xp _ h
theorem init_F (xp : Int) : initF xp (fun k0 => k0 = initM xp) :=
  initF_A xp (fun z => z = initM xp) rfl
set_option linter.unusedVariables false in
theorem init_c {g : Ghost} (xp : Int) (hG0 : GlobL g 0 (.pair (.int .i64) (.int .i64)) DInit)  : CallsG Tryd.prog 6 #[.int .i64 xp] g (.agg #[.int .i64 (initM xp).1, .int .i64 (initM xp).2]) :=
  (init_ok xp hG0 _ (init_F xp)).gives (by rintro g' H' v _ ⟨r0, rfl, rfl, hK⟩; subst hK; rfl)
def inhj7 (xp : Int) (K : Bool → Prop) : Prop :=
  ((((xp == 33) || ((xp == 35) || ((xp == 37) || ((xp == 38) || ((xp == 39) || ((xp == 40) || ((xp == 41) || ((xp == 43) || ((xp == 44) || ((xp == 56) || ((xp == 57) || (xp == 58))))))))))))) = true → K true) ∧ ((((xp == 33) || ((xp == 35) || ((xp == 37) || ((xp == 38) || ((xp == 39) || ((xp == 40) || ((xp == 41) || ((xp == 43) || ((xp == 44) || ((xp == 56) || ((xp == 57) || (xp == 58))))))))))))) = false → K false)
def inhF (xp : Int) (K : Bool → Prop) : Prop :=
  (((xp == 33)) = true → inhj7 xp K) ∧ (((xp == 33)) = false → (((xp == 35)) = true → inhj7 xp K) ∧ (((xp == 35)) = false → (((xp == 37)) = true → inhj7 xp K) ∧ (((xp == 37)) = false → (((xp == 38)) = true → inhj7 xp K) ∧ (((xp == 38)) = false → (((xp == 39)) = true → inhj7 xp K) ∧ (((xp == 39)) = false → (((xp == 40)) = true → inhj7 xp K) ∧ (((xp == 40)) = false → (((xp == 41)) = true → inhj7 xp K) ∧ (((xp == 41)) = false → (((xp == 43)) = true → inhj7 xp K) ∧ (((xp == 43)) = false → (((xp == 44)) = true → inhj7 xp K) ∧ (((xp == 44)) = false → (((xp == 56)) = true → inhj7 xp K) ∧ (((xp == 56)) = false → (((xp == 57)) = true → inhj7 xp K) ∧ (((xp == 57)) = false → inhj7 xp K)))))))))))
set_option maxHeartbeats 4000000 in
set_option maxRecDepth 100000 in
set_option linter.unusedVariables false in
theorem inh_ok {g : Ghost} (xp : Int) (K : Bool → Prop)
    (hF : inhF xp K) : CallsH Tryd.prog 8 #[.int .i64 xp] g [] (fun g' H' v => ∃ (r0 : Bool), v = .bool r0 ∧ H' = [] ∧ K r0) := by
  refine CallsH.enter 17 [(0, .int .i64 xp)] Tryd.func8 rfl (by kernel_rfl) (by kernel_rfl) (by kernel_rfl) fun w0 => ?_
  refine Ok.seq ?_
  refine Ok.region ?_
  refine Ok.batch 1 [(0, .int .i64 xp)] (by kernel_rfl) ?_
  refine Ok.nil ?_
  refine Ok.thenN ?_
  refine Ok.seq ?_
  refine Ok.seq ?_
  refine Ok.region ?_
  refine Ok.batch 1 [(3, .int .i64 xp)] (by kernel_rfl) ?_
  refine Ok.nil ?_
  refine Ok.thenN ?_
  refine Ok.block ?_
  refine Ok.cut (fun a W => StA 17 [(4, .bool ((xp == 33) || ((xp == 35) || ((xp == 37) || ((xp == 38) || ((xp == 39) || ((xp == 40) || ((xp == 41) || ((xp == 43) || ((xp == 44) || ((xp == 56) || ((xp == 57) || (xp == 58)))))))))))))] a ∧ StW w0 [] g W ∧ inhj7 xp K) ?_ ?_
  ·
    refine Ok.seq ?_
    refine Ok.region ?_
    refine Ok.batch 2 [(3, .int .i64 xp), (4, .bool (xp == 33))] (by kernel_rfl) ?_
    refine Ok.nil ?_
    refine Ok.thenN ?_
    refine Ok.cond (b := (xp == 33)) rfl (fun hc2 => ?_) (fun hc2 => ?_)
    · replace hF := hF.1 hc2
      refine Ok.skip ?_
      refine Ok.thenN ?_
      refine Ok.reval 4 rfl (show (.bool (xp == 33) : Value) = .bool ((xp == 33) || ((xp == 35) || ((xp == 37) || ((xp == 38) || ((xp == 39) || ((xp == 40) || ((xp == 41) || ((xp == 43) || ((xp == 44) || ((xp == 56) || ((xp == 57) || (xp == 58)))))))))))) from congrArg (Value.bool) ((Eq.trans (hc2) (mor_t hc2)))) ?_
      exact fun a W hA hW => ⟨hA.sub (by kernel_rfl), hW, hF⟩
    · replace hF := hF.2 hc2
      refine Ok.seq ?_
      refine Ok.region ?_
      refine Ok.batch 2 [(3, .int .i64 xp), (4, .bool (xp == 35))] (by kernel_rfl) ?_
      refine Ok.nil ?_
      refine Ok.thenN ?_
      refine Ok.cond (b := (xp == 35)) rfl (fun hc3 => ?_) (fun hc3 => ?_)
      · replace hF := hF.1 hc3
        refine Ok.skip ?_
        refine Ok.thenN ?_
        refine Ok.reval 4 rfl (show (.bool (xp == 35) : Value) = .bool ((xp == 33) || ((xp == 35) || ((xp == 37) || ((xp == 38) || ((xp == 39) || ((xp == 40) || ((xp == 41) || ((xp == 43) || ((xp == 44) || ((xp == 56) || ((xp == 57) || (xp == 58)))))))))))) from congrArg (Value.bool) ((Eq.trans ((Eq.trans (hc3) (mor_t hc3))) (mor_f hc2)))) ?_
        exact fun a W hA hW => ⟨hA.sub (by kernel_rfl), hW, hF⟩
      · replace hF := hF.2 hc3
        refine Ok.seq ?_
        refine Ok.region ?_
        refine Ok.batch 2 [(3, .int .i64 xp), (4, .bool (xp == 37))] (by kernel_rfl) ?_
        refine Ok.nil ?_
        refine Ok.thenN ?_
        refine Ok.cond (b := (xp == 37)) rfl (fun hc4 => ?_) (fun hc4 => ?_)
        · replace hF := hF.1 hc4
          refine Ok.skip ?_
          refine Ok.thenN ?_
          refine Ok.reval 4 rfl (show (.bool (xp == 37) : Value) = .bool ((xp == 33) || ((xp == 35) || ((xp == 37) || ((xp == 38) || ((xp == 39) || ((xp == 40) || ((xp == 41) || ((xp == 43) || ((xp == 44) || ((xp == 56) || ((xp == 57) || (xp == 58)))))))))))) from congrArg (Value.bool) ((Eq.trans ((Eq.trans ((Eq.trans (hc4) (mor_t hc4))) (mor_f hc3))) (mor_f hc2)))) ?_
          exact fun a W hA hW => ⟨hA.sub (by kernel_rfl), hW, hF⟩
        · replace hF := hF.2 hc4
          refine Ok.seq ?_
          refine Ok.region ?_
          refine Ok.batch 2 [(3, .int .i64 xp), (4, .bool (xp == 38))] (by kernel_rfl) ?_
          refine Ok.nil ?_
          refine Ok.thenN ?_
          refine Ok.cond (b := (xp == 38)) rfl (fun hc5 => ?_) (fun hc5 => ?_)
          · replace hF := hF.1 hc5
            refine Ok.skip ?_
            refine Ok.thenN ?_
            refine Ok.reval 4 rfl (show (.bool (xp == 38) : Value) = .bool ((xp == 33) || ((xp == 35) || ((xp == 37) || ((xp == 38) || ((xp == 39) || ((xp == 40) || ((xp == 41) || ((xp == 43) || ((xp == 44) || ((xp == 56) || ((xp == 57) || (xp == 58)))))))))))) from congrArg (Value.bool) ((Eq.trans ((Eq.trans ((Eq.trans ((Eq.trans (hc5) (mor_t hc5))) (mor_f hc4))) (mor_f hc3))) (mor_f hc2)))) ?_
            exact fun a W hA hW => ⟨hA.sub (by kernel_rfl), hW, hF⟩
          · replace hF := hF.2 hc5
            refine Ok.seq ?_
            refine Ok.region ?_
            refine Ok.batch 2 [(3, .int .i64 xp), (4, .bool (xp == 39))] (by kernel_rfl) ?_
            refine Ok.nil ?_
            refine Ok.thenN ?_
            refine Ok.cond (b := (xp == 39)) rfl (fun hc6 => ?_) (fun hc6 => ?_)
            · replace hF := hF.1 hc6
              refine Ok.skip ?_
              refine Ok.thenN ?_
              refine Ok.reval 4 rfl (show (.bool (xp == 39) : Value) = .bool ((xp == 33) || ((xp == 35) || ((xp == 37) || ((xp == 38) || ((xp == 39) || ((xp == 40) || ((xp == 41) || ((xp == 43) || ((xp == 44) || ((xp == 56) || ((xp == 57) || (xp == 58)))))))))))) from congrArg (Value.bool) ((Eq.trans ((Eq.trans ((Eq.trans ((Eq.trans ((Eq.trans (hc6) (mor_t hc6))) (mor_f hc5))) (mor_f hc4))) (mor_f hc3))) (mor_f hc2)))) ?_
              exact fun a W hA hW => ⟨hA.sub (by kernel_rfl), hW, hF⟩
            · replace hF := hF.2 hc6
              refine Ok.seq ?_
              refine Ok.region ?_
              refine Ok.batch 2 [(3, .int .i64 xp), (4, .bool (xp == 40))] (by kernel_rfl) ?_
              refine Ok.nil ?_
              refine Ok.thenN ?_
              refine Ok.cond (b := (xp == 40)) rfl (fun hc7 => ?_) (fun hc7 => ?_)
              · replace hF := hF.1 hc7
                refine Ok.skip ?_
                refine Ok.thenN ?_
                refine Ok.reval 4 rfl (show (.bool (xp == 40) : Value) = .bool ((xp == 33) || ((xp == 35) || ((xp == 37) || ((xp == 38) || ((xp == 39) || ((xp == 40) || ((xp == 41) || ((xp == 43) || ((xp == 44) || ((xp == 56) || ((xp == 57) || (xp == 58)))))))))))) from congrArg (Value.bool) ((Eq.trans ((Eq.trans ((Eq.trans ((Eq.trans ((Eq.trans ((Eq.trans (hc7) (mor_t hc7))) (mor_f hc6))) (mor_f hc5))) (mor_f hc4))) (mor_f hc3))) (mor_f hc2)))) ?_
                exact fun a W hA hW => ⟨hA.sub (by kernel_rfl), hW, hF⟩
              · replace hF := hF.2 hc7
                refine Ok.seq ?_
                refine Ok.region ?_
                refine Ok.batch 2 [(3, .int .i64 xp), (4, .bool (xp == 41))] (by kernel_rfl) ?_
                refine Ok.nil ?_
                refine Ok.thenN ?_
                refine Ok.cond (b := (xp == 41)) rfl (fun hc8 => ?_) (fun hc8 => ?_)
                · replace hF := hF.1 hc8
                  refine Ok.skip ?_
                  refine Ok.thenN ?_
                  refine Ok.reval 4 rfl (show (.bool (xp == 41) : Value) = .bool ((xp == 33) || ((xp == 35) || ((xp == 37) || ((xp == 38) || ((xp == 39) || ((xp == 40) || ((xp == 41) || ((xp == 43) || ((xp == 44) || ((xp == 56) || ((xp == 57) || (xp == 58)))))))))))) from congrArg (Value.bool) ((Eq.trans ((Eq.trans ((Eq.trans ((Eq.trans ((Eq.trans ((Eq.trans ((Eq.trans (hc8) (mor_t hc8))) (mor_f hc7))) (mor_f hc6))) (mor_f hc5))) (mor_f hc4))) (mor_f hc3))) (mor_f hc2)))) ?_
                  exact fun a W hA hW => ⟨hA.sub (by kernel_rfl), hW, hF⟩
                · replace hF := hF.2 hc8
                  refine Ok.seq ?_
                  refine Ok.region ?_
                  refine Ok.batch 2 [(3, .int .i64 xp), (4, .bool (xp == 43))] (by kernel_rfl) ?_
                  refine Ok.nil ?_
                  refine Ok.thenN ?_
                  refine Ok.cond (b := (xp == 43)) rfl (fun hc9 => ?_) (fun hc9 => ?_)
                  · replace hF := hF.1 hc9
                    refine Ok.skip ?_
                    refine Ok.thenN ?_
                    refine Ok.reval 4 rfl (show (.bool (xp == 43) : Value) = .bool ((xp == 33) || ((xp == 35) || ((xp == 37) || ((xp == 38) || ((xp == 39) || ((xp == 40) || ((xp == 41) || ((xp == 43) || ((xp == 44) || ((xp == 56) || ((xp == 57) || (xp == 58)))))))))))) from congrArg (Value.bool) ((Eq.trans ((Eq.trans ((Eq.trans ((Eq.trans ((Eq.trans ((Eq.trans ((Eq.trans ((Eq.trans (hc9) (mor_t hc9))) (mor_f hc8))) (mor_f hc7))) (mor_f hc6))) (mor_f hc5))) (mor_f hc4))) (mor_f hc3))) (mor_f hc2)))) ?_
                    exact fun a W hA hW => ⟨hA.sub (by kernel_rfl), hW, hF⟩
                  · replace hF := hF.2 hc9
                    refine Ok.seq ?_
                    refine Ok.region ?_
                    refine Ok.batch 2 [(3, .int .i64 xp), (4, .bool (xp == 44))] (by kernel_rfl) ?_
                    refine Ok.nil ?_
                    refine Ok.thenN ?_
                    refine Ok.cond (b := (xp == 44)) rfl (fun hc10 => ?_) (fun hc10 => ?_)
                    · replace hF := hF.1 hc10
                      refine Ok.skip ?_
                      refine Ok.thenN ?_
                      refine Ok.reval 4 rfl (show (.bool (xp == 44) : Value) = .bool ((xp == 33) || ((xp == 35) || ((xp == 37) || ((xp == 38) || ((xp == 39) || ((xp == 40) || ((xp == 41) || ((xp == 43) || ((xp == 44) || ((xp == 56) || ((xp == 57) || (xp == 58)))))))))))) from congrArg (Value.bool) ((Eq.trans ((Eq.trans ((Eq.trans ((Eq.trans ((Eq.trans ((Eq.trans ((Eq.trans ((Eq.trans ((Eq.trans (hc10) (mor_t hc10))) (mor_f hc9))) (mor_f hc8))) (mor_f hc7))) (mor_f hc6))) (mor_f hc5))) (mor_f hc4))) (mor_f hc3))) (mor_f hc2)))) ?_
                      exact fun a W hA hW => ⟨hA.sub (by kernel_rfl), hW, hF⟩
                    · replace hF := hF.2 hc10
                      refine Ok.seq ?_
                      refine Ok.region ?_
                      refine Ok.batch 2 [(3, .int .i64 xp), (4, .bool (xp == 56))] (by kernel_rfl) ?_
                      refine Ok.nil ?_
                      refine Ok.thenN ?_
                      refine Ok.cond (b := (xp == 56)) rfl (fun hc11 => ?_) (fun hc11 => ?_)
                      · replace hF := hF.1 hc11
                        refine Ok.skip ?_
                        refine Ok.thenN ?_
                        refine Ok.reval 4 rfl (show (.bool (xp == 56) : Value) = .bool ((xp == 33) || ((xp == 35) || ((xp == 37) || ((xp == 38) || ((xp == 39) || ((xp == 40) || ((xp == 41) || ((xp == 43) || ((xp == 44) || ((xp == 56) || ((xp == 57) || (xp == 58)))))))))))) from congrArg (Value.bool) ((Eq.trans ((Eq.trans ((Eq.trans ((Eq.trans ((Eq.trans ((Eq.trans ((Eq.trans ((Eq.trans ((Eq.trans ((Eq.trans (hc11) (mor_t hc11))) (mor_f hc10))) (mor_f hc9))) (mor_f hc8))) (mor_f hc7))) (mor_f hc6))) (mor_f hc5))) (mor_f hc4))) (mor_f hc3))) (mor_f hc2)))) ?_
                        exact fun a W hA hW => ⟨hA.sub (by kernel_rfl), hW, hF⟩
                      · replace hF := hF.2 hc11
                        refine Ok.seq ?_
                        refine Ok.region ?_
                        refine Ok.batch 2 [(3, .int .i64 xp), (4, .bool (xp == 57))] (by kernel_rfl) ?_
                        refine Ok.nil ?_
                        refine Ok.thenN ?_
                        refine Ok.cond (b := (xp == 57)) rfl (fun hc12 => ?_) (fun hc12 => ?_)
                        · replace hF := hF.1 hc12
                          refine Ok.skip ?_
                          refine Ok.thenN ?_
                          refine Ok.reval 4 rfl (show (.bool (xp == 57) : Value) = .bool ((xp == 33) || ((xp == 35) || ((xp == 37) || ((xp == 38) || ((xp == 39) || ((xp == 40) || ((xp == 41) || ((xp == 43) || ((xp == 44) || ((xp == 56) || ((xp == 57) || (xp == 58)))))))))))) from congrArg (Value.bool) ((Eq.trans ((Eq.trans ((Eq.trans ((Eq.trans ((Eq.trans ((Eq.trans ((Eq.trans ((Eq.trans ((Eq.trans ((Eq.trans ((Eq.trans (hc12) (mor_t hc12))) (mor_f hc11))) (mor_f hc10))) (mor_f hc9))) (mor_f hc8))) (mor_f hc7))) (mor_f hc6))) (mor_f hc5))) (mor_f hc4))) (mor_f hc3))) (mor_f hc2)))) ?_
                          exact fun a W hA hW => ⟨hA.sub (by kernel_rfl), hW, hF⟩
                        · replace hF := hF.2 hc12
                          refine Ok.region ?_
                          refine Ok.batch 2 [(4, .bool (xp == 58))] (by kernel_rfl) ?_
                          refine Ok.nil ?_
                          refine Ok.thenN ?_
                          refine Ok.reval 4 rfl (show (.bool (xp == 58) : Value) = .bool ((xp == 33) || ((xp == 35) || ((xp == 37) || ((xp == 38) || ((xp == 39) || ((xp == 40) || ((xp == 41) || ((xp == 43) || ((xp == 44) || ((xp == 56) || ((xp == 57) || (xp == 58)))))))))))) from congrArg (Value.bool) ((Eq.trans ((Eq.trans ((Eq.trans ((Eq.trans ((Eq.trans ((Eq.trans ((Eq.trans ((Eq.trans ((Eq.trans ((Eq.trans (mor_f hc12) (mor_f hc11))) (mor_f hc10))) (mor_f hc9))) (mor_f hc8))) (mor_f hc7))) (mor_f hc6))) (mor_f hc5))) (mor_f hc4))) (mor_f hc3))) (mor_f hc2)))) ?_
                          exact fun a W hA hW => ⟨hA.sub (by kernel_rfl), hW, hF⟩
  ·
    rintro a W ⟨hA, hW, hF⟩
    refine (?_ : Ok _ _ _ _ _ _) a W hA hW
    clear hA hW
    refine Ok.cond (b := ((xp == 33) || ((xp == 35) || ((xp == 37) || ((xp == 38) || ((xp == 39) || ((xp == 40) || ((xp == 41) || ((xp == 43) || ((xp == 44) || ((xp == 56) || ((xp == 57) || (xp == 58))))))))))))) rfl (fun hc1 => ?_) (fun hc1 => ?_)
    · replace hF := hF.1 hc1
      refine Ok.seq ?_
      refine Ok.region ?_
      refine Ok.batch 1 [(2, .bool true)] (by kernel_rfl) ?_
      refine Ok.nil ?_
      refine Ok.thenN ?_
      refine Ok.ret ?_
      refine Ok.blockR ?_
      refine Ok.thenR ?_
      exact Ok.resH (vs := [.bool true]) (.inl rfl) rfl (.cons (.tmp rfl) .nil) (Gext.refl w0 g) ⟨true, rfl, rfl, hF⟩
    · replace hF := hF.2 hc1
      refine Ok.skip ?_
      refine Ok.blockN ?_
      refine Ok.thenN ?_
      refine Ok.seq ?_
      refine Ok.region ?_
      refine Ok.batch 1 [(2, .bool false)] (by kernel_rfl) ?_
      refine Ok.nil ?_
      refine Ok.thenN ?_
      refine Ok.ret ?_
      exact Ok.resH (vs := [.bool false]) (.inl rfl) rfl (.cons (.tmp rfl) .nil) (Gext.refl w0 g) ⟨false, rfl, rfl, hF⟩
def inhj7M (xp : Int) : Bool := (if ((xp == 33) || ((xp == 35) || ((xp == 37) || ((xp == 38) || ((xp == 39) || ((xp == 40) || ((xp == 41) || ((xp == 43) || ((xp == 44) || ((xp == 56) || ((xp == 57) || (xp == 58)))))))))))) = true then true else false)
set_option linter.unusedSimpArgs false in
set_option linter.unusedVariables false in
theorem inhj7_A (xp : Int) (P : Bool → Prop) (h : P (inhj7M xp)) : inhj7 xp (fun k0 => P k0) := by
  unfold inhj7M at h
  unfold inhj7
  refine ⟨fun hc0 => ?_, fun hc0 => ?_⟩
  · rw [if_t hc0] at h
    have hd0 := hc0; try simp only [Bool.and_eq_true, Bool.or_eq_true, Bool.and_eq_false_iff, Bool.or_eq_false_iff, Bool.not_eq_true', Bool.not_eq_false', decide_eq_true_eq, decide_eq_false_iff_not, beq_iff_eq, beq_eq_false_iff_ne, ne_eq] at hd0
    exact h
  · rw [if_f hc0] at h
    have hd0 := hc0; try simp only [Bool.and_eq_true, Bool.or_eq_true, Bool.and_eq_false_iff, Bool.or_eq_false_iff, Bool.not_eq_true', Bool.not_eq_false', decide_eq_true_eq, decide_eq_false_iff_not, beq_iff_eq, beq_eq_false_iff_ne, ne_eq] at hd0
    exact h
def inhM (xp : Int) : Bool := (inhj7M xp)
set_option linter.unusedSimpArgs false in
set_option linter.unusedVariables false in
theorem inhF_A (xp : Int) (P : Bool → Prop) (h : P (inhM xp)) : inhF xp (fun k0 => P k0) := by
  unfold inhM at h
  unfold inhF
  refine ⟨fun hc0 => ?_, fun hc0 => ?_⟩
  · skip
    have hd0 := hc0; try simp only [Bool.and_eq_true, Bool.or_eq_true, Bool.and_eq_false_iff, Bool.or_eq_false_iff, Bool.not_eq_true', Bool.not_eq_false', decide_eq_true_eq, decide_eq_false_iff_not, beq_iff_eq, beq_eq_false_iff_ne, ne_eq] at hd0
    exact inhj7_A xp _ h
  · skip
    have hd0 := hc0; try simp only [Bool.and_eq_true, Bool.or_eq_true, Bool.and_eq_false_iff, Bool.or_eq_false_iff, Bool.not_eq_true', Bool.not_eq_false', decide_eq_true_eq, decide_eq_false_iff_not, beq_iff_eq, beq_eq_false_iff_ne, ne_eq] at hd0
    refine ⟨fun hc1 => ?_, fun hc1 => ?_⟩
    · skip
      have hd1 := hc1; try simp only [Bool.and_eq_true, Bool.or_eq_true, Bool.and_eq_false_iff, Bool.or_eq_false_iff, Bool.not_eq_true', Bool.not_eq_false', decide_eq_true_eq, decide_eq_false_iff_not, beq_iff_eq, beq_eq_false_iff_ne, ne_eq] at hd1
      exact inhj7_A xp _ h
    · skip
      have hd1 := hc1; try simp only [Bool.and_eq_true, Bool.or_eq_true, Bool.and_eq_false_iff, Bool.or_eq_false_iff, Bool.not_eq_true', Bool.not_eq_false', decide_eq_true_eq, decide_eq_false_iff_not, beq_iff_eq, beq_eq_false_iff_ne, ne_eq] at hd1
      refine ⟨fun hc2 => ?_, fun hc2 => ?_⟩
      · skip
        have hd2 := hc2; try simp only [Bool.and_eq_true, Bool.or_eq_true, Bool.and_eq_false_iff, Bool.or_eq_false_iff, Bool.not_eq_true', Bool.not_eq_false', decide_eq_true_eq, decide_eq_false_iff_not, beq_iff_eq, beq_eq_false_iff_ne, ne_eq] at hd2
        exact inhj7_A xp _ h
      · skip
        have hd2 := hc2; try simp only [Bool.and_eq_true, Bool.or_eq_true, Bool.and_eq_false_iff, Bool.or_eq_false_iff, Bool.not_eq_true', Bool.not_eq_false', decide_eq_true_eq, decide_eq_false_iff_not, beq_iff_eq, beq_eq_false_iff_ne, ne_eq] at hd2
        refine ⟨fun hc3 => ?_, fun hc3 => ?_⟩
        · skip
          have hd3 := hc3; try simp only [Bool.and_eq_true, Bool.or_eq_true, Bool.and_eq_false_iff, Bool.or_eq_false_iff, Bool.not_eq_true', Bool.not_eq_false', decide_eq_true_eq, decide_eq_false_iff_not, beq_iff_eq, beq_eq_false_iff_ne, ne_eq] at hd3
          exact inhj7_A xp _ h
        · skip
          have hd3 := hc3; try simp only [Bool.and_eq_true, Bool.or_eq_true, Bool.and_eq_false_iff, Bool.or_eq_false_iff, Bool.not_eq_true', Bool.not_eq_false', decide_eq_true_eq, decide_eq_false_iff_not, beq_iff_eq, beq_eq_false_iff_ne, ne_eq] at hd3
          refine ⟨fun hc4 => ?_, fun hc4 => ?_⟩
          · skip
            have hd4 := hc4; try simp only [Bool.and_eq_true, Bool.or_eq_true, Bool.and_eq_false_iff, Bool.or_eq_false_iff, Bool.not_eq_true', Bool.not_eq_false', decide_eq_true_eq, decide_eq_false_iff_not, beq_iff_eq, beq_eq_false_iff_ne, ne_eq] at hd4
            exact inhj7_A xp _ h
          · skip
            have hd4 := hc4; try simp only [Bool.and_eq_true, Bool.or_eq_true, Bool.and_eq_false_iff, Bool.or_eq_false_iff, Bool.not_eq_true', Bool.not_eq_false', decide_eq_true_eq, decide_eq_false_iff_not, beq_iff_eq, beq_eq_false_iff_ne, ne_eq] at hd4
            refine ⟨fun hc5 => ?_, fun hc5 => ?_⟩
            · skip
              have hd5 := hc5; try simp only [Bool.and_eq_true, Bool.or_eq_true, Bool.and_eq_false_iff, Bool.or_eq_false_iff, Bool.not_eq_true', Bool.not_eq_false', decide_eq_true_eq, decide_eq_false_iff_not, beq_iff_eq, beq_eq_false_iff_ne, ne_eq] at hd5
              exact inhj7_A xp _ h
            · skip
              have hd5 := hc5; try simp only [Bool.and_eq_true, Bool.or_eq_true, Bool.and_eq_false_iff, Bool.or_eq_false_iff, Bool.not_eq_true', Bool.not_eq_false', decide_eq_true_eq, decide_eq_false_iff_not, beq_iff_eq, beq_eq_false_iff_ne, ne_eq] at hd5
              refine ⟨fun hc6 => ?_, fun hc6 => ?_⟩
              · skip
                have hd6 := hc6; try simp only [Bool.and_eq_true, Bool.or_eq_true, Bool.and_eq_false_iff, Bool.or_eq_false_iff, Bool.not_eq_true', Bool.not_eq_false', decide_eq_true_eq, decide_eq_false_iff_not, beq_iff_eq, beq_eq_false_iff_ne, ne_eq] at hd6
                exact inhj7_A xp _ h
              · skip
                have hd6 := hc6; try simp only [Bool.and_eq_true, Bool.or_eq_true, Bool.and_eq_false_iff, Bool.or_eq_false_iff, Bool.not_eq_true', Bool.not_eq_false', decide_eq_true_eq, decide_eq_false_iff_not, beq_iff_eq, beq_eq_false_iff_ne, ne_eq] at hd6
                refine ⟨fun hc7 => ?_, fun hc7 => ?_⟩
                · skip
                  have hd7 := hc7; try simp only [Bool.and_eq_true, Bool.or_eq_true, Bool.and_eq_false_iff, Bool.or_eq_false_iff, Bool.not_eq_true', Bool.not_eq_false', decide_eq_true_eq, decide_eq_false_iff_not, beq_iff_eq, beq_eq_false_iff_ne, ne_eq] at hd7
                  exact inhj7_A xp _ h
                · skip
                  have hd7 := hc7; try simp only [Bool.and_eq_true, Bool.or_eq_true, Bool.and_eq_false_iff, Bool.or_eq_false_iff, Bool.not_eq_true', Bool.not_eq_false', decide_eq_true_eq, decide_eq_false_iff_not, beq_iff_eq, beq_eq_false_iff_ne, ne_eq] at hd7
                  refine ⟨fun hc8 => ?_, fun hc8 => ?_⟩
                  · skip
                    have hd8 := hc8; try simp only [Bool.and_eq_true, Bool.or_eq_true, Bool.and_eq_false_iff, Bool.or_eq_false_iff, Bool.not_eq_true', Bool.not_eq_false', decide_eq_true_eq, decide_eq_false_iff_not, beq_iff_eq, beq_eq_false_iff_ne, ne_eq] at hd8
                    exact inhj7_A xp _ h
                  · skip
                    have hd8 := hc8; try simp only [Bool.and_eq_true, Bool.or_eq_true, Bool.and_eq_false_iff, Bool.or_eq_false_iff, Bool.not_eq_true', Bool.not_eq_false', decide_eq_true_eq, decide_eq_false_iff_not, beq_iff_eq, beq_eq_false_iff_ne, ne_eq] at hd8
                    refine ⟨fun hc9 => ?_, fun hc9 => ?_⟩
                    · skip
                      have hd9 := hc9; try simp only [Bool.and_eq_true, Bool.or_eq_true, Bool.and_eq_false_iff, Bool.or_eq_false_iff, Bool.not_eq_true', Bool.not_eq_false', decide_eq_true_eq, decide_eq_false_iff_not, beq_iff_eq, beq_eq_false_iff_ne, ne_eq] at hd9
                      exact inhj7_A xp _ h
                    · skip
                      have hd9 := hc9; try simp only [Bool.and_eq_true, Bool.or_eq_true, Bool.and_eq_false_iff, Bool.or_eq_false_iff, Bool.not_eq_true', Bool.not_eq_false', decide_eq_true_eq, decide_eq_false_iff_not, beq_iff_eq, beq_eq_false_iff_ne, ne_eq] at hd9
                      refine ⟨fun hc10 => ?_, fun hc10 => ?_⟩
                      · skip
                        have hd10 := hc10; try simp only [Bool.and_eq_true, Bool.or_eq_true, Bool.and_eq_false_iff, Bool.or_eq_false_iff, Bool.not_eq_true', Bool.not_eq_false', decide_eq_true_eq, decide_eq_false_iff_not, beq_iff_eq, beq_eq_false_iff_ne, ne_eq] at hd10
                        exact inhj7_A xp _ h
                      · skip
                        have hd10 := hc10; try simp only [Bool.and_eq_true, Bool.or_eq_true, Bool.and_eq_false_iff, Bool.or_eq_false_iff, Bool.not_eq_true', Bool.not_eq_false', decide_eq_true_eq, decide_eq_false_iff_not, beq_iff_eq, beq_eq_false_iff_ne, ne_eq] at hd10
                        exact inhj7_A xp _ h
theorem inh_F (xp : Int) : inhF xp (fun k0 => k0 = inhM xp) :=
  inhF_A xp (fun z => z = inhM xp) rfl
set_option linter.unusedVariables false in
theorem inh_c {g : Ghost} (xp : Int)  : CallsG Tryd.prog 8 #[.int .i64 xp] g (.bool (inhM xp)) :=
  (inh_ok xp _ (inh_F xp)).gives (by rintro g' H' v _ ⟨r0, rfl, rfl, hK⟩; subst hK; rfl)
def pkT0 : List (List UInt8) := ([([107] : List UInt8), ([107] : List UInt8), ([107] : List UInt8), ([107] : List UInt8), ([107] : List UInt8), ([108, 112, 97, 48] : List UInt8), ([108, 112, 97, 48] : List UInt8), ([108, 112, 97, 48] : List UInt8), ([108, 112, 97, 48] : List UInt8), ([108, 112, 97, 48] : List UInt8), ([108, 112, 97, 48] : List UInt8), ([108, 112, 97] : List UInt8), ([108, 112, 97] : List UInt8), ([108, 112, 97] : List UInt8), ([108, 112, 97] : List UInt8), ([108, 112, 48] : List UInt8), ([108, 112, 48] : List UInt8), ([108, 112, 48] : List UInt8), ([108, 112, 48] : List UInt8), ([108, 48] : List UInt8), ([108, 48] : List UInt8), ([108, 48] : List UInt8), ([108, 48] : List UInt8), ([99] : List UInt8), ([99] : List UInt8), ([99] : List UInt8), ([99] : List UInt8), ([108, 112, 97] : List UInt8), ([108, 112, 97] : List UInt8), ([108, 112, 97] : List UInt8), ([108, 112, 97] : List UInt8), ([110, 97] : List UInt8), ([107] : List UInt8), ([107] : List UInt8), ([110, 48] : List UInt8), ([99] : List UInt8), ([99] : List UInt8), ([108, 48] : List UInt8), ([108, 110, 97, 48] : List UInt8), ([107] : List UInt8), ([108, 112] : List UInt8), ([107] : List UInt8), ([107, 108] : List UInt8), ([107] : List UInt8), ([108, 97] : List UInt8), ([107] : List UInt8), ([107] : List UInt8), ([107] : List UInt8), ([107] : List UInt8), ([107, 97] : List UInt8), ([110, 48] : List UInt8), ([110, 48] : List UInt8), ([108, 112, 97, 48] : List UInt8), ([110] : List UInt8), ([108, 48] : List UInt8), ([107] : List UInt8), ([108, 48] : List UInt8), ([107] : List UInt8), ([107] : List UInt8)] : List (List UInt8))
def pkF (K : (List (List UInt8)) → Prop) : Prop :=
  K pkT0
set_option maxHeartbeats 4000000 in
set_option maxRecDepth 100000 in
set_option linter.unusedVariables false in
theorem pk_ok {g : Ghost}  (K : (List (List UInt8)) → Prop)
    (hF : pkF K) : CallsH Tryd.prog 21 #[] g [] (fun g' H' v => ∃ (r0 : List (List UInt8)), ∃ (ar0_0 : Option Addr) (cr0_0 : Nat), v = .slice ar0_0 r0.length cr0_0 ∧ Rep g' (.slice (.str)) [.slice ar0_0 r0.length cr0_0] r0 ∧ H' = [] ∧ K r0) := by
  refine CallsH.enter 2 [] Tryd.func21 rfl (by kernel_rfl) (by kernel_rfl) (by kernel_rfl) fun w0 => ?_
  refine Ok.seq ?_
  refine Ok.region ?_
  refine Ok.batch 1 [] (by kernel_rfl) ?_
  refine Ok.nil ?_
  refine Ok.thenN ?_
  refine Ok.seq ?_
  refine Ok.region ?_
  have hL1 : RepL g (.str) ([.string ⟨⟨([107] : List UInt8)⟩⟩, .string ⟨⟨([107] : List UInt8)⟩⟩, .string ⟨⟨([107] : List UInt8)⟩⟩, .string ⟨⟨([107] : List UInt8)⟩⟩, .string ⟨⟨([107] : List UInt8)⟩⟩, .string ⟨⟨([108, 112, 97, 48] : List UInt8)⟩⟩, .string ⟨⟨([108, 112, 97, 48] : List UInt8)⟩⟩, .string ⟨⟨([108, 112, 97, 48] : List UInt8)⟩⟩, .string ⟨⟨([108, 112, 97, 48] : List UInt8)⟩⟩, .string ⟨⟨([108, 112, 97, 48] : List UInt8)⟩⟩, .string ⟨⟨([108, 112, 97, 48] : List UInt8)⟩⟩, .string ⟨⟨([108, 112, 97] : List UInt8)⟩⟩, .string ⟨⟨([108, 112, 97] : List UInt8)⟩⟩, .string ⟨⟨([108, 112, 97] : List UInt8)⟩⟩, .string ⟨⟨([108, 112, 97] : List UInt8)⟩⟩, .string ⟨⟨([108, 112, 48] : List UInt8)⟩⟩, .string ⟨⟨([108, 112, 48] : List UInt8)⟩⟩, .string ⟨⟨([108, 112, 48] : List UInt8)⟩⟩, .string ⟨⟨([108, 112, 48] : List UInt8)⟩⟩, .string ⟨⟨([108, 48] : List UInt8)⟩⟩, .string ⟨⟨([108, 48] : List UInt8)⟩⟩, .string ⟨⟨([108, 48] : List UInt8)⟩⟩, .string ⟨⟨([108, 48] : List UInt8)⟩⟩, .string ⟨⟨([99] : List UInt8)⟩⟩, .string ⟨⟨([99] : List UInt8)⟩⟩, .string ⟨⟨([99] : List UInt8)⟩⟩, .string ⟨⟨([99] : List UInt8)⟩⟩, .string ⟨⟨([108, 112, 97] : List UInt8)⟩⟩, .string ⟨⟨([108, 112, 97] : List UInt8)⟩⟩, .string ⟨⟨([108, 112, 97] : List UInt8)⟩⟩, .string ⟨⟨([108, 112, 97] : List UInt8)⟩⟩, .string ⟨⟨([110, 97] : List UInt8)⟩⟩, .string ⟨⟨([107] : List UInt8)⟩⟩, .string ⟨⟨([107] : List UInt8)⟩⟩, .string ⟨⟨([110, 48] : List UInt8)⟩⟩, .string ⟨⟨([99] : List UInt8)⟩⟩, .string ⟨⟨([99] : List UInt8)⟩⟩, .string ⟨⟨([108, 48] : List UInt8)⟩⟩, .string ⟨⟨([108, 110, 97, 48] : List UInt8)⟩⟩, .string ⟨⟨([107] : List UInt8)⟩⟩, .string ⟨⟨([108, 112] : List UInt8)⟩⟩, .string ⟨⟨([107] : List UInt8)⟩⟩, .string ⟨⟨([107, 108] : List UInt8)⟩⟩, .string ⟨⟨([107] : List UInt8)⟩⟩, .string ⟨⟨([108, 97] : List UInt8)⟩⟩, .string ⟨⟨([107] : List UInt8)⟩⟩, .string ⟨⟨([107] : List UInt8)⟩⟩, .string ⟨⟨([107] : List UInt8)⟩⟩, .string ⟨⟨([107] : List UInt8)⟩⟩, .string ⟨⟨([107, 97] : List UInt8)⟩⟩, .string ⟨⟨([110, 48] : List UInt8)⟩⟩, .string ⟨⟨([110, 48] : List UInt8)⟩⟩, .string ⟨⟨([108, 112, 97, 48] : List UInt8)⟩⟩, .string ⟨⟨([110] : List UInt8)⟩⟩, .string ⟨⟨([108, 48] : List UInt8)⟩⟩, .string ⟨⟨([107] : List UInt8)⟩⟩, .string ⟨⟨([108, 48] : List UInt8)⟩⟩, .string ⟨⟨([107] : List UInt8)⟩⟩, .string ⟨⟨([107] : List UInt8)⟩⟩] : List Value) pkT0 := (RepL.consN (c := [.string ⟨⟨([107] : List UInt8)⟩⟩]) rfl (RepL.consN (c := [.string ⟨⟨([107] : List UInt8)⟩⟩]) rfl (RepL.consN (c := [.string ⟨⟨([107] : List UInt8)⟩⟩]) rfl (RepL.consN (c := [.string ⟨⟨([107] : List UInt8)⟩⟩]) rfl (RepL.consN (c := [.string ⟨⟨([107] : List UInt8)⟩⟩]) rfl (RepL.consN (c := [.string ⟨⟨([108, 112, 97, 48] : List UInt8)⟩⟩]) rfl (RepL.consN (c := [.string ⟨⟨([108, 112, 97, 48] : List UInt8)⟩⟩]) rfl (RepL.consN (c := [.string ⟨⟨([108, 112, 97, 48] : List UInt8)⟩⟩]) rfl (RepL.consN (c := [.string ⟨⟨([108, 112, 97, 48] : List UInt8)⟩⟩]) rfl (RepL.consN (c := [.string ⟨⟨([108, 112, 97, 48] : List UInt8)⟩⟩]) rfl (RepL.consN (c := [.string ⟨⟨([108, 112, 97, 48] : List UInt8)⟩⟩]) rfl (RepL.consN (c := [.string ⟨⟨([108, 112, 97] : List UInt8)⟩⟩]) rfl (RepL.consN (c := [.string ⟨⟨([108, 112, 97] : List UInt8)⟩⟩]) rfl (RepL.consN (c := [.string ⟨⟨([108, 112, 97] : List UInt8)⟩⟩]) rfl (RepL.consN (c := [.string ⟨⟨([108, 112, 97] : List UInt8)⟩⟩]) rfl (RepL.consN (c := [.string ⟨⟨([108, 112, 48] : List UInt8)⟩⟩]) rfl (RepL.consN (c := [.string ⟨⟨([108, 112, 48] : List UInt8)⟩⟩]) rfl (RepL.consN (c := [.string ⟨⟨([108, 112, 48] : List UInt8)⟩⟩]) rfl (RepL.consN (c := [.string ⟨⟨([108, 112, 48] : List UInt8)⟩⟩]) rfl (RepL.consN (c := [.string ⟨⟨([108, 48] : List UInt8)⟩⟩]) rfl (RepL.consN (c := [.string ⟨⟨([108, 48] : List UInt8)⟩⟩]) rfl (RepL.consN (c := [.string ⟨⟨([108, 48] : List UInt8)⟩⟩]) rfl (RepL.consN (c := [.string ⟨⟨([108, 48] : List UInt8)⟩⟩]) rfl (RepL.consN (c := [.string ⟨⟨([99] : List UInt8)⟩⟩]) rfl (RepL.consN (c := [.string ⟨⟨([99] : List UInt8)⟩⟩]) rfl (RepL.consN (c := [.string ⟨⟨([99] : List UInt8)⟩⟩]) rfl (RepL.consN (c := [.string ⟨⟨([99] : List UInt8)⟩⟩]) rfl (RepL.consN (c := [.string ⟨⟨([108, 112, 97] : List UInt8)⟩⟩]) rfl (RepL.consN (c := [.string ⟨⟨([108, 112, 97] : List UInt8)⟩⟩]) rfl (RepL.consN (c := [.string ⟨⟨([108, 112, 97] : List UInt8)⟩⟩]) rfl (RepL.consN (c := [.string ⟨⟨([108, 112, 97] : List UInt8)⟩⟩]) rfl (RepL.consN (c := [.string ⟨⟨([110, 97] : List UInt8)⟩⟩]) rfl (RepL.consN (c := [.string ⟨⟨([107] : List UInt8)⟩⟩]) rfl (RepL.consN (c := [.string ⟨⟨([107] : List UInt8)⟩⟩]) rfl (RepL.consN (c := [.string ⟨⟨([110, 48] : List UInt8)⟩⟩]) rfl (RepL.consN (c := [.string ⟨⟨([99] : List UInt8)⟩⟩]) rfl (RepL.consN (c := [.string ⟨⟨([99] : List UInt8)⟩⟩]) rfl (RepL.consN (c := [.string ⟨⟨([108, 48] : List UInt8)⟩⟩]) rfl (RepL.consN (c := [.string ⟨⟨([108, 110, 97, 48] : List UInt8)⟩⟩]) rfl (RepL.consN (c := [.string ⟨⟨([107] : List UInt8)⟩⟩]) rfl (RepL.consN (c := [.string ⟨⟨([108, 112] : List UInt8)⟩⟩]) rfl (RepL.consN (c := [.string ⟨⟨([107] : List UInt8)⟩⟩]) rfl (RepL.consN (c := [.string ⟨⟨([107, 108] : List UInt8)⟩⟩]) rfl (RepL.consN (c := [.string ⟨⟨([107] : List UInt8)⟩⟩]) rfl (RepL.consN (c := [.string ⟨⟨([108, 97] : List UInt8)⟩⟩]) rfl (RepL.consN (c := [.string ⟨⟨([107] : List UInt8)⟩⟩]) rfl (RepL.consN (c := [.string ⟨⟨([107] : List UInt8)⟩⟩]) rfl (RepL.consN (c := [.string ⟨⟨([107] : List UInt8)⟩⟩]) rfl (RepL.consN (c := [.string ⟨⟨([107] : List UInt8)⟩⟩]) rfl (RepL.consN (c := [.string ⟨⟨([107, 97] : List UInt8)⟩⟩]) rfl (RepL.consN (c := [.string ⟨⟨([110, 48] : List UInt8)⟩⟩]) rfl (RepL.consN (c := [.string ⟨⟨([110, 48] : List UInt8)⟩⟩]) rfl (RepL.consN (c := [.string ⟨⟨([108, 112, 97, 48] : List UInt8)⟩⟩]) rfl (RepL.consN (c := [.string ⟨⟨([110] : List UInt8)⟩⟩]) rfl (RepL.consN (c := [.string ⟨⟨([108, 48] : List UInt8)⟩⟩]) rfl (RepL.consN (c := [.string ⟨⟨([107] : List UInt8)⟩⟩]) rfl (RepL.consN (c := [.string ⟨⟨([108, 48] : List UInt8)⟩⟩]) rfl (RepL.consN (c := [.string ⟨⟨([107] : List UInt8)⟩⟩]) rfl (RepL.consN (c := [.string ⟨⟨([107] : List UInt8)⟩⟩]) rfl rfl)))))))))))))))))))))))))))))))))))))))))))))))))))))))))))
  refine Ok.op rfl (OpOk.lit (E := 9) (.str) pkT0 ([.string ⟨⟨([107] : List UInt8)⟩⟩, .string ⟨⟨([107] : List UInt8)⟩⟩, .string ⟨⟨([107] : List UInt8)⟩⟩, .string ⟨⟨([107] : List UInt8)⟩⟩, .string ⟨⟨([107] : List UInt8)⟩⟩, .string ⟨⟨([108, 112, 97, 48] : List UInt8)⟩⟩, .string ⟨⟨([108, 112, 97, 48] : List UInt8)⟩⟩, .string ⟨⟨([108, 112, 97, 48] : List UInt8)⟩⟩, .string ⟨⟨([108, 112, 97, 48] : List UInt8)⟩⟩, .string ⟨⟨([108, 112, 97, 48] : List UInt8)⟩⟩, .string ⟨⟨([108, 112, 97, 48] : List UInt8)⟩⟩, .string ⟨⟨([108, 112, 97] : List UInt8)⟩⟩, .string ⟨⟨([108, 112, 97] : List UInt8)⟩⟩, .string ⟨⟨([108, 112, 97] : List UInt8)⟩⟩, .string ⟨⟨([108, 112, 97] : List UInt8)⟩⟩, .string ⟨⟨([108, 112, 48] : List UInt8)⟩⟩, .string ⟨⟨([108, 112, 48] : List UInt8)⟩⟩, .string ⟨⟨([108, 112, 48] : List UInt8)⟩⟩, .string ⟨⟨([108, 112, 48] : List UInt8)⟩⟩, .string ⟨⟨([108, 48] : List UInt8)⟩⟩, .string ⟨⟨([108, 48] : List UInt8)⟩⟩, .string ⟨⟨([108, 48] : List UInt8)⟩⟩, .string ⟨⟨([108, 48] : List UInt8)⟩⟩, .string ⟨⟨([99] : List UInt8)⟩⟩, .string ⟨⟨([99] : List UInt8)⟩⟩, .string ⟨⟨([99] : List UInt8)⟩⟩, .string ⟨⟨([99] : List UInt8)⟩⟩, .string ⟨⟨([108, 112, 97] : List UInt8)⟩⟩, .string ⟨⟨([108, 112, 97] : List UInt8)⟩⟩, .string ⟨⟨([108, 112, 97] : List UInt8)⟩⟩, .string ⟨⟨([108, 112, 97] : List UInt8)⟩⟩, .string ⟨⟨([110, 97] : List UInt8)⟩⟩, .string ⟨⟨([107] : List UInt8)⟩⟩, .string ⟨⟨([107] : List UInt8)⟩⟩, .string ⟨⟨([110, 48] : List UInt8)⟩⟩, .string ⟨⟨([99] : List UInt8)⟩⟩, .string ⟨⟨([99] : List UInt8)⟩⟩, .string ⟨⟨([108, 48] : List UInt8)⟩⟩, .string ⟨⟨([108, 110, 97, 48] : List UInt8)⟩⟩, .string ⟨⟨([107] : List UInt8)⟩⟩, .string ⟨⟨([108, 112] : List UInt8)⟩⟩, .string ⟨⟨([107] : List UInt8)⟩⟩, .string ⟨⟨([107, 108] : List UInt8)⟩⟩, .string ⟨⟨([107] : List UInt8)⟩⟩, .string ⟨⟨([108, 97] : List UInt8)⟩⟩, .string ⟨⟨([107] : List UInt8)⟩⟩, .string ⟨⟨([107] : List UInt8)⟩⟩, .string ⟨⟨([107] : List UInt8)⟩⟩, .string ⟨⟨([107] : List UInt8)⟩⟩, .string ⟨⟨([107, 97] : List UInt8)⟩⟩, .string ⟨⟨([110, 48] : List UInt8)⟩⟩, .string ⟨⟨([110, 48] : List UInt8)⟩⟩, .string ⟨⟨([108, 112, 97, 48] : List UInt8)⟩⟩, .string ⟨⟨([110] : List UInt8)⟩⟩, .string ⟨⟨([108, 48] : List UInt8)⟩⟩, .string ⟨⟨([107] : List UInt8)⟩⟩, .string ⟨⟨([108, 48] : List UInt8)⟩⟩, .string ⟨⟨([107] : List UInt8)⟩⟩, .string ⟨⟨([107] : List UInt8)⟩⟩] : List Value) (by kernel_rfl) (by kernel_rfl) rfl (by kernel_rfl) hL1 rfl fun b1 => ?_)
  refine Ok.batch 1 [(0, .slice (some ⟨b1, 0, none⟩) pkT0.length 59)] (by kernel_rfl) ?_
  refine Ok.nil ?_
  refine Ok.thenN ?_
  refine Ok.ret ?_
  refine Ok.freeze (H' := []) 0 rfl hL1 rfl fun g2 hx2 hRf2 => ?_
  exact Ok.resH (vs := [.slice (some ⟨b1, 0, none⟩) pkT0.length 59]) (.inl rfl) rfl (.cons (.tmp rfl) .nil) hx2 ⟨pkT0, (some ⟨b1, 0, none⟩), 59, rfl, hRf2, rfl, hF⟩
def pkM : List (List UInt8) := pkT0
set_option linter.unusedSimpArgs false in
set_option linter.unusedVariables false in
theorem pkF_A (P : List (List UInt8) → Prop) (h : P (pkM)) : pkF (fun k0 => P k0) := by
  unfold pkM at h
  unfold pkF
  exact h
theorem pk_F : pkF (fun k0 => k0 = pkM) :=
  pkF_A (fun z => z = pkM) rfl
set_option linter.unusedVariables false in
theorem pk_c {g : Ghost}   : CallsH Tryd.prog 21 #[] g [] (fun g' H' v => ∃ (ar0_0 : Option Addr) (cr0_0 : Nat), v = .slice ar0_0 pkM.length cr0_0 ∧ Rep g' (.slice (.str)) [.slice ar0_0 pkM.length cr0_0] pkM ∧ H' = []) :=
  (pk_ok  _ (pk_F )).mono (by rintro g' H' v _ ⟨r0, ar0_0, cr0_0, rfl, hRr0_0, rfl, hK⟩; subst hK; exact ⟨ar0_0, cr0_0, rfl, hRr0_0, rfl⟩)
def pnT0 : List (List UInt8) := ([([100, 105, 115, 112, 108, 97, 121] : List UInt8), ([112, 111, 115, 105, 116, 105, 111, 110] : List UInt8), ([102, 108, 111, 97, 116] : List UInt8), ([99, 108, 101, 97, 114] : List UInt8), ([98, 111, 120, 45, 115, 105, 122, 105, 110, 103] : List UInt8), ([119, 105, 100, 116, 104] : List UInt8), ([104, 101, 105, 103, 104, 116] : List UInt8), ([109, 105, 110, 45, 119, 105, 100, 116, 104] : List UInt8), ([109, 105, 110, 45, 104, 101, 105, 103, 104, 116] : List UInt8), ([109, 97, 120, 45, 119, 105, 100, 116, 104] : List UInt8), ([109, 97, 120, 45, 104, 101, 105, 103, 104, 116] : List UInt8), ([109, 97, 114, 103, 105, 110, 45, 116, 111, 112] : List UInt8), ([109, 97, 114, 103, 105, 110, 45, 114, 105, 103, 104, 116] : List UInt8), ([109, 97, 114, 103, 105, 110, 45, 98, 111, 116, 116, 111, 109] : List UInt8), ([109, 97, 114, 103, 105, 110, 45, 108, 101, 102, 116] : List UInt8), ([112, 97, 100, 100, 105, 110, 103, 45, 116, 111, 112] : List UInt8), ([112, 97, 100, 100, 105, 110, 103, 45, 114, 105, 103, 104, 116] : List UInt8), ([112, 97, 100, 100, 105, 110, 103, 45, 98, 111, 116, 116, 111, 109] : List UInt8), ([112, 97, 100, 100, 105, 110, 103, 45, 108, 101, 102, 116] : List UInt8), ([98, 111, 114, 100, 101, 114, 45, 116, 111, 112, 45, 119, 105, 100, 116, 104] : List UInt8), ([98, 111, 114, 100, 101, 114, 45, 114, 105, 103, 104, 116, 45, 119, 105, 100, 116, 104] : List UInt8), ([98, 111, 114, 100, 101, 114, 45, 98, 111, 116, 116, 111, 109, 45, 119, 105, 100, 116, 104] : List UInt8), ([98, 111, 114, 100, 101, 114, 45, 108, 101, 102, 116, 45, 119, 105, 100, 116, 104] : List UInt8), ([98, 111, 114, 100, 101, 114, 45, 116, 111, 112, 45, 99, 111, 108, 111, 114] : List UInt8), ([98, 111, 114, 100, 101, 114, 45, 114, 105, 103, 104, 116, 45, 99, 111, 108, 111, 114] : List UInt8), ([98, 111, 114, 100, 101, 114, 45, 98, 111, 116, 116, 111, 109, 45, 99, 111, 108, 111, 114] : List UInt8), ([98, 111, 114, 100, 101, 114, 45, 108, 101, 102, 116, 45, 99, 111, 108, 111, 114] : List UInt8), ([116, 111, 112] : List UInt8), ([114, 105, 103, 104, 116] : List UInt8), ([98, 111, 116, 116, 111, 109] : List UInt8), ([108, 101, 102, 116] : List UInt8), ([122, 45, 105, 110, 100, 101, 120] : List UInt8), ([111, 118, 101, 114, 102, 108, 111, 119] : List UInt8), ([118, 105, 115, 105, 98, 105, 108, 105, 116, 121] : List UInt8), ([111, 112, 97, 99, 105, 116, 121] : List UInt8), ([99, 111, 108, 111, 114] : List UInt8), ([98, 97, 99, 107, 103, 114, 111, 117, 110, 100, 45, 99, 111, 108, 111, 114] : List UInt8), ([102, 111, 110, 116, 45, 115, 105, 122, 101] : List UInt8), ([108, 105, 110, 101, 45, 104, 101, 105, 103, 104, 116] : List UInt8), ([116, 101, 120, 116, 45, 97, 108, 105, 103, 110] : List UInt8), ([116, 101, 120, 116, 45, 105, 110, 100, 101, 110, 116] : List UInt8), ([119, 104, 105, 116, 101, 45, 115, 112, 97, 99, 101] : List UInt8), ([118, 101, 114, 116, 105, 99, 97, 108, 45, 97, 108, 105, 103, 110] : List UInt8), ([116, 101, 120, 116, 45, 116, 114, 97, 110, 115, 102, 111, 114, 109] : List UInt8), ([108, 101, 116, 116, 101, 114, 45, 115, 112, 97, 99, 105, 110, 103] : List UInt8), ([102, 108, 101, 120, 45, 100, 105, 114, 101, 99, 116, 105, 111, 110] : List UInt8), ([102, 108, 101, 120, 45, 119, 114, 97, 112] : List UInt8), ([106, 117, 115, 116, 105, 102, 121, 45, 99, 111, 110, 116, 101, 110, 116] : List UInt8), ([97, 108, 105, 103, 110, 45, 105, 116, 101, 109, 115] : List UInt8), ([97, 108, 105, 103, 110, 45, 115, 101, 108, 102] : List UInt8), ([102, 108, 101, 120, 45, 103, 114, 111, 119] : List UInt8), ([102, 108, 101, 120, 45, 115, 104, 114, 105, 110, 107] : List UInt8), ([102, 108, 101, 120, 45, 98, 97, 115, 105, 115] : List UInt8), ([111, 114, 100, 101, 114] : List UInt8), ([103, 97, 112] : List UInt8), ([116, 97, 98, 108, 101, 45, 108, 97, 121, 111, 117, 116] : List UInt8), ([98, 111, 114, 100, 101, 114, 45, 115, 112, 97, 99, 105, 110, 103] : List UInt8), ([108, 105, 115, 116, 45, 115, 116, 121, 108, 101, 45, 116, 121, 112, 101] : List UInt8), ([112, 111, 105, 110, 116, 101, 114, 45, 101, 118, 101, 110, 116, 115] : List UInt8)] : List (List UInt8))
def pnF (K : (List (List UInt8)) → Prop) : Prop :=
  K pnT0
set_option maxHeartbeats 4000000 in
set_option maxRecDepth 100000 in
set_option linter.unusedVariables false in
theorem pn_ok {g : Ghost}  (K : (List (List UInt8)) → Prop)
    (hF : pnF K) : CallsH Tryd.prog 24 #[] g [] (fun g' H' v => ∃ (r0 : List (List UInt8)), ∃ (ar0_0 : Option Addr) (cr0_0 : Nat), v = .slice ar0_0 r0.length cr0_0 ∧ Rep g' (.slice (.str)) [.slice ar0_0 r0.length cr0_0] r0 ∧ H' = [] ∧ K r0) := by
  refine CallsH.enter 2 [] Tryd.func24 rfl (by kernel_rfl) (by kernel_rfl) (by kernel_rfl) fun w0 => ?_
  refine Ok.seq ?_
  refine Ok.region ?_
  refine Ok.batch 1 [] (by kernel_rfl) ?_
  refine Ok.nil ?_
  refine Ok.thenN ?_
  refine Ok.seq ?_
  refine Ok.region ?_
  have hL1 : RepL g (.str) ([.string ⟨⟨([100, 105, 115, 112, 108, 97, 121] : List UInt8)⟩⟩, .string ⟨⟨([112, 111, 115, 105, 116, 105, 111, 110] : List UInt8)⟩⟩, .string ⟨⟨([102, 108, 111, 97, 116] : List UInt8)⟩⟩, .string ⟨⟨([99, 108, 101, 97, 114] : List UInt8)⟩⟩, .string ⟨⟨([98, 111, 120, 45, 115, 105, 122, 105, 110, 103] : List UInt8)⟩⟩, .string ⟨⟨([119, 105, 100, 116, 104] : List UInt8)⟩⟩, .string ⟨⟨([104, 101, 105, 103, 104, 116] : List UInt8)⟩⟩, .string ⟨⟨([109, 105, 110, 45, 119, 105, 100, 116, 104] : List UInt8)⟩⟩, .string ⟨⟨([109, 105, 110, 45, 104, 101, 105, 103, 104, 116] : List UInt8)⟩⟩, .string ⟨⟨([109, 97, 120, 45, 119, 105, 100, 116, 104] : List UInt8)⟩⟩, .string ⟨⟨([109, 97, 120, 45, 104, 101, 105, 103, 104, 116] : List UInt8)⟩⟩, .string ⟨⟨([109, 97, 114, 103, 105, 110, 45, 116, 111, 112] : List UInt8)⟩⟩, .string ⟨⟨([109, 97, 114, 103, 105, 110, 45, 114, 105, 103, 104, 116] : List UInt8)⟩⟩, .string ⟨⟨([109, 97, 114, 103, 105, 110, 45, 98, 111, 116, 116, 111, 109] : List UInt8)⟩⟩, .string ⟨⟨([109, 97, 114, 103, 105, 110, 45, 108, 101, 102, 116] : List UInt8)⟩⟩, .string ⟨⟨([112, 97, 100, 100, 105, 110, 103, 45, 116, 111, 112] : List UInt8)⟩⟩, .string ⟨⟨([112, 97, 100, 100, 105, 110, 103, 45, 114, 105, 103, 104, 116] : List UInt8)⟩⟩, .string ⟨⟨([112, 97, 100, 100, 105, 110, 103, 45, 98, 111, 116, 116, 111, 109] : List UInt8)⟩⟩, .string ⟨⟨([112, 97, 100, 100, 105, 110, 103, 45, 108, 101, 102, 116] : List UInt8)⟩⟩, .string ⟨⟨([98, 111, 114, 100, 101, 114, 45, 116, 111, 112, 45, 119, 105, 100, 116, 104] : List UInt8)⟩⟩, .string ⟨⟨([98, 111, 114, 100, 101, 114, 45, 114, 105, 103, 104, 116, 45, 119, 105, 100, 116, 104] : List UInt8)⟩⟩, .string ⟨⟨([98, 111, 114, 100, 101, 114, 45, 98, 111, 116, 116, 111, 109, 45, 119, 105, 100, 116, 104] : List UInt8)⟩⟩, .string ⟨⟨([98, 111, 114, 100, 101, 114, 45, 108, 101, 102, 116, 45, 119, 105, 100, 116, 104] : List UInt8)⟩⟩, .string ⟨⟨([98, 111, 114, 100, 101, 114, 45, 116, 111, 112, 45, 99, 111, 108, 111, 114] : List UInt8)⟩⟩, .string ⟨⟨([98, 111, 114, 100, 101, 114, 45, 114, 105, 103, 104, 116, 45, 99, 111, 108, 111, 114] : List UInt8)⟩⟩, .string ⟨⟨([98, 111, 114, 100, 101, 114, 45, 98, 111, 116, 116, 111, 109, 45, 99, 111, 108, 111, 114] : List UInt8)⟩⟩, .string ⟨⟨([98, 111, 114, 100, 101, 114, 45, 108, 101, 102, 116, 45, 99, 111, 108, 111, 114] : List UInt8)⟩⟩, .string ⟨⟨([116, 111, 112] : List UInt8)⟩⟩, .string ⟨⟨([114, 105, 103, 104, 116] : List UInt8)⟩⟩, .string ⟨⟨([98, 111, 116, 116, 111, 109] : List UInt8)⟩⟩, .string ⟨⟨([108, 101, 102, 116] : List UInt8)⟩⟩, .string ⟨⟨([122, 45, 105, 110, 100, 101, 120] : List UInt8)⟩⟩, .string ⟨⟨([111, 118, 101, 114, 102, 108, 111, 119] : List UInt8)⟩⟩, .string ⟨⟨([118, 105, 115, 105, 98, 105, 108, 105, 116, 121] : List UInt8)⟩⟩, .string ⟨⟨([111, 112, 97, 99, 105, 116, 121] : List UInt8)⟩⟩, .string ⟨⟨([99, 111, 108, 111, 114] : List UInt8)⟩⟩, .string ⟨⟨([98, 97, 99, 107, 103, 114, 111, 117, 110, 100, 45, 99, 111, 108, 111, 114] : List UInt8)⟩⟩, .string ⟨⟨([102, 111, 110, 116, 45, 115, 105, 122, 101] : List UInt8)⟩⟩, .string ⟨⟨([108, 105, 110, 101, 45, 104, 101, 105, 103, 104, 116] : List UInt8)⟩⟩, .string ⟨⟨([116, 101, 120, 116, 45, 97, 108, 105, 103, 110] : List UInt8)⟩⟩, .string ⟨⟨([116, 101, 120, 116, 45, 105, 110, 100, 101, 110, 116] : List UInt8)⟩⟩, .string ⟨⟨([119, 104, 105, 116, 101, 45, 115, 112, 97, 99, 101] : List UInt8)⟩⟩, .string ⟨⟨([118, 101, 114, 116, 105, 99, 97, 108, 45, 97, 108, 105, 103, 110] : List UInt8)⟩⟩, .string ⟨⟨([116, 101, 120, 116, 45, 116, 114, 97, 110, 115, 102, 111, 114, 109] : List UInt8)⟩⟩, .string ⟨⟨([108, 101, 116, 116, 101, 114, 45, 115, 112, 97, 99, 105, 110, 103] : List UInt8)⟩⟩, .string ⟨⟨([102, 108, 101, 120, 45, 100, 105, 114, 101, 99, 116, 105, 111, 110] : List UInt8)⟩⟩, .string ⟨⟨([102, 108, 101, 120, 45, 119, 114, 97, 112] : List UInt8)⟩⟩, .string ⟨⟨([106, 117, 115, 116, 105, 102, 121, 45, 99, 111, 110, 116, 101, 110, 116] : List UInt8)⟩⟩, .string ⟨⟨([97, 108, 105, 103, 110, 45, 105, 116, 101, 109, 115] : List UInt8)⟩⟩, .string ⟨⟨([97, 108, 105, 103, 110, 45, 115, 101, 108, 102] : List UInt8)⟩⟩, .string ⟨⟨([102, 108, 101, 120, 45, 103, 114, 111, 119] : List UInt8)⟩⟩, .string ⟨⟨([102, 108, 101, 120, 45, 115, 104, 114, 105, 110, 107] : List UInt8)⟩⟩, .string ⟨⟨([102, 108, 101, 120, 45, 98, 97, 115, 105, 115] : List UInt8)⟩⟩, .string ⟨⟨([111, 114, 100, 101, 114] : List UInt8)⟩⟩, .string ⟨⟨([103, 97, 112] : List UInt8)⟩⟩, .string ⟨⟨([116, 97, 98, 108, 101, 45, 108, 97, 121, 111, 117, 116] : List UInt8)⟩⟩, .string ⟨⟨([98, 111, 114, 100, 101, 114, 45, 115, 112, 97, 99, 105, 110, 103] : List UInt8)⟩⟩, .string ⟨⟨([108, 105, 115, 116, 45, 115, 116, 121, 108, 101, 45, 116, 121, 112, 101] : List UInt8)⟩⟩, .string ⟨⟨([112, 111, 105, 110, 116, 101, 114, 45, 101, 118, 101, 110, 116, 115] : List UInt8)⟩⟩] : List Value) pnT0 := (RepL.consN (c := [.string ⟨⟨([100, 105, 115, 112, 108, 97, 121] : List UInt8)⟩⟩]) rfl (RepL.consN (c := [.string ⟨⟨([112, 111, 115, 105, 116, 105, 111, 110] : List UInt8)⟩⟩]) rfl (RepL.consN (c := [.string ⟨⟨([102, 108, 111, 97, 116] : List UInt8)⟩⟩]) rfl (RepL.consN (c := [.string ⟨⟨([99, 108, 101, 97, 114] : List UInt8)⟩⟩]) rfl (RepL.consN (c := [.string ⟨⟨([98, 111, 120, 45, 115, 105, 122, 105, 110, 103] : List UInt8)⟩⟩]) rfl (RepL.consN (c := [.string ⟨⟨([119, 105, 100, 116, 104] : List UInt8)⟩⟩]) rfl (RepL.consN (c := [.string ⟨⟨([104, 101, 105, 103, 104, 116] : List UInt8)⟩⟩]) rfl (RepL.consN (c := [.string ⟨⟨([109, 105, 110, 45, 119, 105, 100, 116, 104] : List UInt8)⟩⟩]) rfl (RepL.consN (c := [.string ⟨⟨([109, 105, 110, 45, 104, 101, 105, 103, 104, 116] : List UInt8)⟩⟩]) rfl (RepL.consN (c := [.string ⟨⟨([109, 97, 120, 45, 119, 105, 100, 116, 104] : List UInt8)⟩⟩]) rfl (RepL.consN (c := [.string ⟨⟨([109, 97, 120, 45, 104, 101, 105, 103, 104, 116] : List UInt8)⟩⟩]) rfl (RepL.consN (c := [.string ⟨⟨([109, 97, 114, 103, 105, 110, 45, 116, 111, 112] : List UInt8)⟩⟩]) rfl (RepL.consN (c := [.string ⟨⟨([109, 97, 114, 103, 105, 110, 45, 114, 105, 103, 104, 116] : List UInt8)⟩⟩]) rfl (RepL.consN (c := [.string ⟨⟨([109, 97, 114, 103, 105, 110, 45, 98, 111, 116, 116, 111, 109] : List UInt8)⟩⟩]) rfl (RepL.consN (c := [.string ⟨⟨([109, 97, 114, 103, 105, 110, 45, 108, 101, 102, 116] : List UInt8)⟩⟩]) rfl (RepL.consN (c := [.string ⟨⟨([112, 97, 100, 100, 105, 110, 103, 45, 116, 111, 112] : List UInt8)⟩⟩]) rfl (RepL.consN (c := [.string ⟨⟨([112, 97, 100, 100, 105, 110, 103, 45, 114, 105, 103, 104, 116] : List UInt8)⟩⟩]) rfl (RepL.consN (c := [.string ⟨⟨([112, 97, 100, 100, 105, 110, 103, 45, 98, 111, 116, 116, 111, 109] : List UInt8)⟩⟩]) rfl (RepL.consN (c := [.string ⟨⟨([112, 97, 100, 100, 105, 110, 103, 45, 108, 101, 102, 116] : List UInt8)⟩⟩]) rfl (RepL.consN (c := [.string ⟨⟨([98, 111, 114, 100, 101, 114, 45, 116, 111, 112, 45, 119, 105, 100, 116, 104] : List UInt8)⟩⟩]) rfl (RepL.consN (c := [.string ⟨⟨([98, 111, 114, 100, 101, 114, 45, 114, 105, 103, 104, 116, 45, 119, 105, 100, 116, 104] : List UInt8)⟩⟩]) rfl (RepL.consN (c := [.string ⟨⟨([98, 111, 114, 100, 101, 114, 45, 98, 111, 116, 116, 111, 109, 45, 119, 105, 100, 116, 104] : List UInt8)⟩⟩]) rfl (RepL.consN (c := [.string ⟨⟨([98, 111, 114, 100, 101, 114, 45, 108, 101, 102, 116, 45, 119, 105, 100, 116, 104] : List UInt8)⟩⟩]) rfl (RepL.consN (c := [.string ⟨⟨([98, 111, 114, 100, 101, 114, 45, 116, 111, 112, 45, 99, 111, 108, 111, 114] : List UInt8)⟩⟩]) rfl (RepL.consN (c := [.string ⟨⟨([98, 111, 114, 100, 101, 114, 45, 114, 105, 103, 104, 116, 45, 99, 111, 108, 111, 114] : List UInt8)⟩⟩]) rfl (RepL.consN (c := [.string ⟨⟨([98, 111, 114, 100, 101, 114, 45, 98, 111, 116, 116, 111, 109, 45, 99, 111, 108, 111, 114] : List UInt8)⟩⟩]) rfl (RepL.consN (c := [.string ⟨⟨([98, 111, 114, 100, 101, 114, 45, 108, 101, 102, 116, 45, 99, 111, 108, 111, 114] : List UInt8)⟩⟩]) rfl (RepL.consN (c := [.string ⟨⟨([116, 111, 112] : List UInt8)⟩⟩]) rfl (RepL.consN (c := [.string ⟨⟨([114, 105, 103, 104, 116] : List UInt8)⟩⟩]) rfl (RepL.consN (c := [.string ⟨⟨([98, 111, 116, 116, 111, 109] : List UInt8)⟩⟩]) rfl (RepL.consN (c := [.string ⟨⟨([108, 101, 102, 116] : List UInt8)⟩⟩]) rfl (RepL.consN (c := [.string ⟨⟨([122, 45, 105, 110, 100, 101, 120] : List UInt8)⟩⟩]) rfl (RepL.consN (c := [.string ⟨⟨([111, 118, 101, 114, 102, 108, 111, 119] : List UInt8)⟩⟩]) rfl (RepL.consN (c := [.string ⟨⟨([118, 105, 115, 105, 98, 105, 108, 105, 116, 121] : List UInt8)⟩⟩]) rfl (RepL.consN (c := [.string ⟨⟨([111, 112, 97, 99, 105, 116, 121] : List UInt8)⟩⟩]) rfl (RepL.consN (c := [.string ⟨⟨([99, 111, 108, 111, 114] : List UInt8)⟩⟩]) rfl (RepL.consN (c := [.string ⟨⟨([98, 97, 99, 107, 103, 114, 111, 117, 110, 100, 45, 99, 111, 108, 111, 114] : List UInt8)⟩⟩]) rfl (RepL.consN (c := [.string ⟨⟨([102, 111, 110, 116, 45, 115, 105, 122, 101] : List UInt8)⟩⟩]) rfl (RepL.consN (c := [.string ⟨⟨([108, 105, 110, 101, 45, 104, 101, 105, 103, 104, 116] : List UInt8)⟩⟩]) rfl (RepL.consN (c := [.string ⟨⟨([116, 101, 120, 116, 45, 97, 108, 105, 103, 110] : List UInt8)⟩⟩]) rfl (RepL.consN (c := [.string ⟨⟨([116, 101, 120, 116, 45, 105, 110, 100, 101, 110, 116] : List UInt8)⟩⟩]) rfl (RepL.consN (c := [.string ⟨⟨([119, 104, 105, 116, 101, 45, 115, 112, 97, 99, 101] : List UInt8)⟩⟩]) rfl (RepL.consN (c := [.string ⟨⟨([118, 101, 114, 116, 105, 99, 97, 108, 45, 97, 108, 105, 103, 110] : List UInt8)⟩⟩]) rfl (RepL.consN (c := [.string ⟨⟨([116, 101, 120, 116, 45, 116, 114, 97, 110, 115, 102, 111, 114, 109] : List UInt8)⟩⟩]) rfl (RepL.consN (c := [.string ⟨⟨([108, 101, 116, 116, 101, 114, 45, 115, 112, 97, 99, 105, 110, 103] : List UInt8)⟩⟩]) rfl (RepL.consN (c := [.string ⟨⟨([102, 108, 101, 120, 45, 100, 105, 114, 101, 99, 116, 105, 111, 110] : List UInt8)⟩⟩]) rfl (RepL.consN (c := [.string ⟨⟨([102, 108, 101, 120, 45, 119, 114, 97, 112] : List UInt8)⟩⟩]) rfl (RepL.consN (c := [.string ⟨⟨([106, 117, 115, 116, 105, 102, 121, 45, 99, 111, 110, 116, 101, 110, 116] : List UInt8)⟩⟩]) rfl (RepL.consN (c := [.string ⟨⟨([97, 108, 105, 103, 110, 45, 105, 116, 101, 109, 115] : List UInt8)⟩⟩]) rfl (RepL.consN (c := [.string ⟨⟨([97, 108, 105, 103, 110, 45, 115, 101, 108, 102] : List UInt8)⟩⟩]) rfl (RepL.consN (c := [.string ⟨⟨([102, 108, 101, 120, 45, 103, 114, 111, 119] : List UInt8)⟩⟩]) rfl (RepL.consN (c := [.string ⟨⟨([102, 108, 101, 120, 45, 115, 104, 114, 105, 110, 107] : List UInt8)⟩⟩]) rfl (RepL.consN (c := [.string ⟨⟨([102, 108, 101, 120, 45, 98, 97, 115, 105, 115] : List UInt8)⟩⟩]) rfl (RepL.consN (c := [.string ⟨⟨([111, 114, 100, 101, 114] : List UInt8)⟩⟩]) rfl (RepL.consN (c := [.string ⟨⟨([103, 97, 112] : List UInt8)⟩⟩]) rfl (RepL.consN (c := [.string ⟨⟨([116, 97, 98, 108, 101, 45, 108, 97, 121, 111, 117, 116] : List UInt8)⟩⟩]) rfl (RepL.consN (c := [.string ⟨⟨([98, 111, 114, 100, 101, 114, 45, 115, 112, 97, 99, 105, 110, 103] : List UInt8)⟩⟩]) rfl (RepL.consN (c := [.string ⟨⟨([108, 105, 115, 116, 45, 115, 116, 121, 108, 101, 45, 116, 121, 112, 101] : List UInt8)⟩⟩]) rfl (RepL.consN (c := [.string ⟨⟨([112, 111, 105, 110, 116, 101, 114, 45, 101, 118, 101, 110, 116, 115] : List UInt8)⟩⟩]) rfl rfl)))))))))))))))))))))))))))))))))))))))))))))))))))))))))))
  refine Ok.op rfl (OpOk.lit (E := 9) (.str) pnT0 ([.string ⟨⟨([100, 105, 115, 112, 108, 97, 121] : List UInt8)⟩⟩, .string ⟨⟨([112, 111, 115, 105, 116, 105, 111, 110] : List UInt8)⟩⟩, .string ⟨⟨([102, 108, 111, 97, 116] : List UInt8)⟩⟩, .string ⟨⟨([99, 108, 101, 97, 114] : List UInt8)⟩⟩, .string ⟨⟨([98, 111, 120, 45, 115, 105, 122, 105, 110, 103] : List UInt8)⟩⟩, .string ⟨⟨([119, 105, 100, 116, 104] : List UInt8)⟩⟩, .string ⟨⟨([104, 101, 105, 103, 104, 116] : List UInt8)⟩⟩, .string ⟨⟨([109, 105, 110, 45, 119, 105, 100, 116, 104] : List UInt8)⟩⟩, .string ⟨⟨([109, 105, 110, 45, 104, 101, 105, 103, 104, 116] : List UInt8)⟩⟩, .string ⟨⟨([109, 97, 120, 45, 119, 105, 100, 116, 104] : List UInt8)⟩⟩, .string ⟨⟨([109, 97, 120, 45, 104, 101, 105, 103, 104, 116] : List UInt8)⟩⟩, .string ⟨⟨([109, 97, 114, 103, 105, 110, 45, 116, 111, 112] : List UInt8)⟩⟩, .string ⟨⟨([109, 97, 114, 103, 105, 110, 45, 114, 105, 103, 104, 116] : List UInt8)⟩⟩, .string ⟨⟨([109, 97, 114, 103, 105, 110, 45, 98, 111, 116, 116, 111, 109] : List UInt8)⟩⟩, .string ⟨⟨([109, 97, 114, 103, 105, 110, 45, 108, 101, 102, 116] : List UInt8)⟩⟩, .string ⟨⟨([112, 97, 100, 100, 105, 110, 103, 45, 116, 111, 112] : List UInt8)⟩⟩, .string ⟨⟨([112, 97, 100, 100, 105, 110, 103, 45, 114, 105, 103, 104, 116] : List UInt8)⟩⟩, .string ⟨⟨([112, 97, 100, 100, 105, 110, 103, 45, 98, 111, 116, 116, 111, 109] : List UInt8)⟩⟩, .string ⟨⟨([112, 97, 100, 100, 105, 110, 103, 45, 108, 101, 102, 116] : List UInt8)⟩⟩, .string ⟨⟨([98, 111, 114, 100, 101, 114, 45, 116, 111, 112, 45, 119, 105, 100, 116, 104] : List UInt8)⟩⟩, .string ⟨⟨([98, 111, 114, 100, 101, 114, 45, 114, 105, 103, 104, 116, 45, 119, 105, 100, 116, 104] : List UInt8)⟩⟩, .string ⟨⟨([98, 111, 114, 100, 101, 114, 45, 98, 111, 116, 116, 111, 109, 45, 119, 105, 100, 116, 104] : List UInt8)⟩⟩, .string ⟨⟨([98, 111, 114, 100, 101, 114, 45, 108, 101, 102, 116, 45, 119, 105, 100, 116, 104] : List UInt8)⟩⟩, .string ⟨⟨([98, 111, 114, 100, 101, 114, 45, 116, 111, 112, 45, 99, 111, 108, 111, 114] : List UInt8)⟩⟩, .string ⟨⟨([98, 111, 114, 100, 101, 114, 45, 114, 105, 103, 104, 116, 45, 99, 111, 108, 111, 114] : List UInt8)⟩⟩, .string ⟨⟨([98, 111, 114, 100, 101, 114, 45, 98, 111, 116, 116, 111, 109, 45, 99, 111, 108, 111, 114] : List UInt8)⟩⟩, .string ⟨⟨([98, 111, 114, 100, 101, 114, 45, 108, 101, 102, 116, 45, 99, 111, 108, 111, 114] : List UInt8)⟩⟩, .string ⟨⟨([116, 111, 112] : List UInt8)⟩⟩, .string ⟨⟨([114, 105, 103, 104, 116] : List UInt8)⟩⟩, .string ⟨⟨([98, 111, 116, 116, 111, 109] : List UInt8)⟩⟩, .string ⟨⟨([108, 101, 102, 116] : List UInt8)⟩⟩, .string ⟨⟨([122, 45, 105, 110, 100, 101, 120] : List UInt8)⟩⟩, .string ⟨⟨([111, 118, 101, 114, 102, 108, 111, 119] : List UInt8)⟩⟩, .string ⟨⟨([118, 105, 115, 105, 98, 105, 108, 105, 116, 121] : List UInt8)⟩⟩, .string ⟨⟨([111, 112, 97, 99, 105, 116, 121] : List UInt8)⟩⟩, .string ⟨⟨([99, 111, 108, 111, 114] : List UInt8)⟩⟩, .string ⟨⟨([98, 97, 99, 107, 103, 114, 111, 117, 110, 100, 45, 99, 111, 108, 111, 114] : List UInt8)⟩⟩, .string ⟨⟨([102, 111, 110, 116, 45, 115, 105, 122, 101] : List UInt8)⟩⟩, .string ⟨⟨([108, 105, 110, 101, 45, 104, 101, 105, 103, 104, 116] : List UInt8)⟩⟩, .string ⟨⟨([116, 101, 120, 116, 45, 97, 108, 105, 103, 110] : List UInt8)⟩⟩, .string ⟨⟨([116, 101, 120, 116, 45, 105, 110, 100, 101, 110, 116] : List UInt8)⟩⟩, .string ⟨⟨([119, 104, 105, 116, 101, 45, 115, 112, 97, 99, 101] : List UInt8)⟩⟩, .string ⟨⟨([118, 101, 114, 116, 105, 99, 97, 108, 45, 97, 108, 105, 103, 110] : List UInt8)⟩⟩, .string ⟨⟨([116, 101, 120, 116, 45, 116, 114, 97, 110, 115, 102, 111, 114, 109] : List UInt8)⟩⟩, .string ⟨⟨([108, 101, 116, 116, 101, 114, 45, 115, 112, 97, 99, 105, 110, 103] : List UInt8)⟩⟩, .string ⟨⟨([102, 108, 101, 120, 45, 100, 105, 114, 101, 99, 116, 105, 111, 110] : List UInt8)⟩⟩, .string ⟨⟨([102, 108, 101, 120, 45, 119, 114, 97, 112] : List UInt8)⟩⟩, .string ⟨⟨([106, 117, 115, 116, 105, 102, 121, 45, 99, 111, 110, 116, 101, 110, 116] : List UInt8)⟩⟩, .string ⟨⟨([97, 108, 105, 103, 110, 45, 105, 116, 101, 109, 115] : List UInt8)⟩⟩, .string ⟨⟨([97, 108, 105, 103, 110, 45, 115, 101, 108, 102] : List UInt8)⟩⟩, .string ⟨⟨([102, 108, 101, 120, 45, 103, 114, 111, 119] : List UInt8)⟩⟩, .string ⟨⟨([102, 108, 101, 120, 45, 115, 104, 114, 105, 110, 107] : List UInt8)⟩⟩, .string ⟨⟨([102, 108, 101, 120, 45, 98, 97, 115, 105, 115] : List UInt8)⟩⟩, .string ⟨⟨([111, 114, 100, 101, 114] : List UInt8)⟩⟩, .string ⟨⟨([103, 97, 112] : List UInt8)⟩⟩, .string ⟨⟨([116, 97, 98, 108, 101, 45, 108, 97, 121, 111, 117, 116] : List UInt8)⟩⟩, .string ⟨⟨([98, 111, 114, 100, 101, 114, 45, 115, 112, 97, 99, 105, 110, 103] : List UInt8)⟩⟩, .string ⟨⟨([108, 105, 115, 116, 45, 115, 116, 121, 108, 101, 45, 116, 121, 112, 101] : List UInt8)⟩⟩, .string ⟨⟨([112, 111, 105, 110, 116, 101, 114, 45, 101, 118, 101, 110, 116, 115] : List UInt8)⟩⟩] : List Value) (by kernel_rfl) (by kernel_rfl) rfl (by kernel_rfl) hL1 rfl fun b1 => ?_)
  refine Ok.batch 1 [(0, .slice (some ⟨b1, 0, none⟩) pnT0.length 59)] (by kernel_rfl) ?_
  refine Ok.nil ?_
  refine Ok.thenN ?_
  refine Ok.ret ?_
  refine Ok.freeze (H' := []) 0 rfl hL1 rfl fun g2 hx2 hRf2 => ?_
  exact Ok.resH (vs := [.slice (some ⟨b1, 0, none⟩) pnT0.length 59]) (.inl rfl) rfl (.cons (.tmp rfl) .nil) hx2 ⟨pnT0, (some ⟨b1, 0, none⟩), 59, rfl, hRf2, rfl, hF⟩
def pnM : List (List UInt8) := pnT0
set_option linter.unusedSimpArgs false in
set_option linter.unusedVariables false in
theorem pnF_A (P : List (List UInt8) → Prop) (h : P (pnM)) : pnF (fun k0 => P k0) := by
  unfold pnM at h
  unfold pnF
  exact h
theorem pn_F : pnF (fun k0 => k0 = pnM) :=
  pnF_A (fun z => z = pnM) rfl
set_option linter.unusedVariables false in
theorem pn_c {g : Ghost}   : CallsH Tryd.prog 24 #[] g [] (fun g' H' v => ∃ (ar0_0 : Option Addr) (cr0_0 : Nat), v = .slice ar0_0 pnM.length cr0_0 ∧ Rep g' (.slice (.str)) [.slice ar0_0 pnM.length cr0_0] pnM ∧ H' = []) :=
  (pn_ok  _ (pn_F )).mono (by rintro g' H' v _ ⟨r0, ar0_0, cr0_0, rfl, hRr0_0, rfl, hK⟩; subst hK; exact ⟨ar0_0, cr0_0, rfl, hRr0_0, rfl⟩)
def hbl7b (xs : List UInt8) (xc : Int) (K : Bool → Prop) (x5l7 : Int) (C7 : Int → Prop) : Prop :=
  ((decide (x5l7 < (xs.length : Int))) = true → (0 : Int) ≤ x5l7 ∧ Int.toNat x5l7 < xs.length ∧ (((((xs.getD (Int.toNat x5l7) 0).toNat : Int) == xc)) = true → K true) ∧ (((((xs.getD (Int.toNat x5l7) 0).toNat : Int) == xc)) = false → C7 (IntKind.wrap .i64 (x5l7 + 1)))) ∧ ((decide (x5l7 < (xs.length : Int))) = false → K false)
def hbl7 (xs : List UInt8) (xc : Int) (K : Bool → Prop) : Nat → Int → Prop
  | 0, _ => False
  | k + 1, x5l7 => hbl7b xs xc K x5l7 (hbl7 xs xc K k)
def hbF (xs : List UInt8) (xc : Int) (K : Bool → Prop) : Prop :=
  ∃ k, hbl7 xs xc K k 0
set_option maxHeartbeats 4000000 in
set_option maxRecDepth 100000 in
set_option linter.unusedVariables false in
theorem hb_ok {g : Ghost} (xs : List UInt8) (xc : Int) (K : Bool → Prop)
    (hF : hbF xs xc K) : CallsH Tryd.prog 22 #[.string ⟨⟨xs⟩⟩, .int .u8 xc] g [] (fun g' H' v => ∃ (r0 : Bool), v = .bool r0 ∧ H' = [] ∧ K r0) := by
  refine CallsH.enter 17 [(0, .string ⟨⟨xs⟩⟩), (1, .int .u8 xc)] Tryd.func22 rfl (by kernel_rfl) (by kernel_rfl) (by kernel_rfl) fun w0 => ?_
  refine Ok.seq ?_
  refine Ok.region ?_
  refine Ok.batch 1 [(0, .string ⟨⟨xs⟩⟩), (1, .int .u8 xc)] (by kernel_rfl) ?_
  refine Ok.nil ?_
  refine Ok.thenN ?_
  refine Ok.seq ?_
  refine Ok.seq ?_
  refine Ok.region ?_
  refine Ok.batch 1 [(0, .string ⟨⟨xs⟩⟩), (1, .int .u8 xc), (5, .int .i64 0)] (by kernel_rfl) ?_
  refine Ok.nil ?_
  refine Ok.thenN ?_
  refine Ok.block ?_
  obtain ⟨k, hF⟩ := hF
  refine Ok.loop (fun k a W => ∃ (x5l7 : Int), StA 17 [(0, .string ⟨⟨xs⟩⟩), (1, .int .u8 xc), (5, .int .i64 x5l7)] a ∧ StW w0 [] g W ∧ hbl7 xs xc K k x5l7) k ?_ ?_
  ·
    exact fun a W hA hW => ⟨0, hA.sub (by kernel_rfl), hW, hF⟩
  ·
    rintro k7 a W ⟨x5l7, hA, hW, hF⟩
    cases k7 with
    | zero => exact (hF : False).elim
    | succ k7 =>
      refine (?_ : Ok _ _ _ _ _ _) a W hA hW
      clear hA hW
      refine Ok.seq ?_
      refine Ok.seq ?_
      refine Ok.region ?_
      refine Ok.batch 4 [(0, .string ⟨⟨xs⟩⟩), (1, .int .u8 xc), (5, .int .i64 x5l7), (9, .bool (decide (x5l7 < (xs.length : Int))))] (by kernel_rfl) ?_
      refine Ok.nil ?_
      refine Ok.thenN ?_
      refine Ok.cond (b := decide (x5l7 < (xs.length : Int))) rfl (fun hc1 => ?_) (fun hc1 => ?_)
      · replace hF := hF.1 hc1
        refine Ok.skip ?_
        refine Ok.thenN ?_
        refine Ok.seq ?_
        refine Ok.block ?_
        refine Ok.seq ?_
        refine Ok.region ?_
        refine Ok.batch 2 [(0, .string ⟨⟨xs⟩⟩), (1, .int .u8 xc), (5, .int .i64 x5l7), (12, .string ⟨⟨xs⟩⟩), (13, .int .i64 x5l7)] (by kernel_rfl) ?_
        obtain ⟨h02, h12, hF⟩ := hF
        have he2 := get_of (l := xs) (0 : UInt8) h12
        generalize hg2 : (xs.getD (Int.toNat x5l7) 0) = e2 at he2 hF ⊢
        refine Ok.op rfl (OpOk.step (v := .int .u8 (e2.toNat : Int)) (Yields.indexStr (k := .i64) (i := x5l7) (s := xs) (b := e2) (by kernel_rfl) (by kernel_rfl) Tryd.underlying9 h02 he2) rfl rfl ?_)
        refine Ok.batch 2 [(0, .string ⟨⟨xs⟩⟩), (1, .int .u8 xc), (5, .int .i64 x5l7), (16, .bool ((e2.toNat : Int) == xc))] (by kernel_rfl) ?_
        refine Ok.nil ?_
        refine Ok.thenN ?_
        refine Ok.cond (b := ((e2.toNat : Int) == xc)) rfl (fun hc3 => ?_) (fun hc3 => ?_)
        · replace hF := hF.1 hc3
          refine Ok.seq ?_
          refine Ok.region ?_
          refine Ok.batch 1 [(4, .bool true)] (by kernel_rfl) ?_
          refine Ok.nil ?_
          refine Ok.thenN ?_
          refine Ok.ret ?_
          refine Ok.blockR ?_
          refine Ok.thenR ?_
          refine Ok.thenR ?_
          refine Ok.blockR ?_
          refine Ok.thenR ?_
          exact Ok.resH (vs := [.bool true]) (.inl rfl) rfl (.cons (.tmp rfl) .nil) (Gext.refl w0 g) ⟨true, rfl, rfl, hF⟩
        · replace hF := hF.2 hc3
          refine Ok.skip ?_
          refine Ok.blockN ?_
          refine Ok.thenN ?_
          refine Ok.region ?_
          refine Ok.batch 3 [(0, .string ⟨⟨xs⟩⟩), (1, .int .u8 xc), (5, .int .i64 (IntKind.wrap .i64 (x5l7 + 1)))] (by kernel_rfl) ?_
          refine Ok.nil ?_
          refine Ok.thenN ?_
          subst hg2
          exact fun a W hA hW => ⟨k7, Nat.lt_succ_self _, IntKind.wrap .i64 (x5l7 + 1), hA.sub (by kernel_rfl), hW, hF⟩
      · replace hF := hF.2 hc1
        refine Ok.exit ?_
        refine Ok.thenE ?_
        refine Ok.thenE ?_
        refine Ok.blockHit ?_
        refine Ok.thenN ?_
        refine Ok.seq ?_
        refine Ok.region ?_
        refine Ok.batch 1 [(4, .bool false)] (by kernel_rfl) ?_
        refine Ok.nil ?_
        refine Ok.thenN ?_
        refine Ok.ret ?_
        exact Ok.resH (vs := [.bool false]) (.inl rfl) rfl (.cons (.tmp rfl) .nil) (Gext.refl w0 g) ⟨false, rfl, rfl, hF⟩
def hasB (s : List UInt8) (c : Int) : Bool := s.any fun b => (b.toNat : Int) == c
def lenP (s : List UInt8) (c : Int) : Prop := s.length ≤ maxLen
theorem hb_loop {s : List UInt8} {c : Int} {K : Bool → Prop} (hl : s.length ≤ maxLen) : ∀ (n k : Nat), s.length < n + k → k ≤ s.length → K (hasB (s.drop k) c) → hbl7 s c K n k := by
  intro n
  induction n with
  | zero => intro k h1 h2; omega
  | succ n ih =>
    intro k h1 h2 hK
    show hbl7b s c K k _
    unfold hbl7b
    rw [maxLen_eq] at hl
    refine ⟨fun h => ?_, fun h => ?_⟩
    · have h := of_decide_eq_true h
      rw [drop_get 0 (by omega : k < s.length)] at hK
      simp only [hasB, List.any_cons] at hK
      rw [show (k : Int).toNat = k by omega]
      refine ⟨by omega, by omega, fun h3 => ?_, fun h3 => ?_⟩
      · rw [h3] at hK; exact hK
      · rw [h3, Bool.false_or] at hK
        rw [w64 (by omega), show (k : Int) + 1 = ((k + 1 : Nat) : Int) by omega]
        exact ih (k + 1) (by omega) (by omega) hK
    · have h := of_decide_eq_false h
      rw [List.drop_eq_nil_of_le (by omega)] at hK
      exact hK
theorem hb_F (s : List UInt8) (c : Int) (h : lenP s c) : hbF s c (fun r => r = hasB s c) :=
  ⟨s.length + 1, hb_loop h (s.length + 1) 0 (by omega) (by omega) rfl⟩
set_option linter.unusedVariables false in
theorem hb_c {g : Ghost} (xs : List UInt8) (xc : Int)  (hp : lenP xs xc) : CallsG Tryd.prog 22 #[.string ⟨⟨xs⟩⟩, .int .u8 xc] g (.bool (hasB xs xc)) :=
  (hb_ok xs xc _ (hb_F xs xc hp)).gives (by rintro g' H' v _ ⟨r0, rfl, rfl, hK⟩; subst hK; rfl)
def rinl7b (xl : List (List UInt8)) (xs : List UInt8) (K : Bool → Prop) (x5l7 : Int) (C7 : Int → Prop) : Prop :=
  ((decide (x5l7 < (xl.length : Int))) = true → (0 : Int) ≤ x5l7 ∧ Int.toNat x5l7 < xl.length ∧ ((((xl.getD (Int.toNat x5l7) default) == xs)) = true → K true) ∧ ((((xl.getD (Int.toNat x5l7) default) == xs)) = false → C7 (IntKind.wrap .i64 (x5l7 + 1)))) ∧ ((decide (x5l7 < (xl.length : Int))) = false → K false)
def rinl7 (xl : List (List UInt8)) (xs : List UInt8) (K : Bool → Prop) : Nat → Int → Prop
  | 0, _ => False
  | k + 1, x5l7 => rinl7b xl xs K x5l7 (rinl7 xl xs K k)
def rinF (xl : List (List UInt8)) (xs : List UInt8) (K : Bool → Prop) : Prop :=
  ∃ k, rinl7 xl xs K k 0
set_option maxHeartbeats 4000000 in
set_option maxRecDepth 100000 in
set_option linter.unusedVariables false in
theorem rin_ok {g : Ghost} {axl_0 : Option Addr} {cxl_0 : Nat} (xl : List (List UInt8)) (xs : List UInt8) (hRxl_0 : Rep g (.slice (.str)) [.slice axl_0 xl.length cxl_0] xl) (K : Bool → Prop)
    (hF : rinF xl xs K) : CallsH Tryd.prog 23 #[.slice axl_0 xl.length cxl_0, .string ⟨⟨xs⟩⟩] g [] (fun g' H' v => ∃ (r0 : Bool), v = .bool r0 ∧ H' = [] ∧ K r0) := by
  refine CallsH.enter 18 [(0, .slice axl_0 xl.length cxl_0), (1, .string ⟨⟨xs⟩⟩)] Tryd.func23 rfl (by kernel_rfl) (by kernel_rfl) (by kernel_rfl) fun w0 => ?_
  refine Ok.seq ?_
  refine Ok.region ?_
  refine Ok.batch 1 [(0, .slice axl_0 xl.length cxl_0), (1, .string ⟨⟨xs⟩⟩)] (by kernel_rfl) ?_
  refine Ok.nil ?_
  refine Ok.thenN ?_
  refine Ok.seq ?_
  refine Ok.seq ?_
  refine Ok.region ?_
  refine Ok.batch 1 [(0, .slice axl_0 xl.length cxl_0), (1, .string ⟨⟨xs⟩⟩), (5, .int .i64 0)] (by kernel_rfl) ?_
  refine Ok.nil ?_
  refine Ok.thenN ?_
  refine Ok.block ?_
  obtain ⟨k, hF⟩ := hF
  refine Ok.loop (fun k a W => ∃ (x5l7 : Int), StA 18 [(0, .slice axl_0 xl.length cxl_0), (1, .string ⟨⟨xs⟩⟩), (5, .int .i64 x5l7)] a ∧ StW w0 [] g W ∧ rinl7 xl xs K k x5l7) k ?_ ?_
  ·
    exact fun a W hA hW => ⟨0, hA.sub (by kernel_rfl), hW, hF⟩
  ·
    rintro k7 a W ⟨x5l7, hA, hW, hF⟩
    cases k7 with
    | zero => exact (hF : False).elim
    | succ k7 =>
      refine (?_ : Ok _ _ _ _ _ _) a W hA hW
      clear hA hW
      refine Ok.seq ?_
      refine Ok.seq ?_
      refine Ok.region ?_
      refine Ok.batch 4 [(0, .slice axl_0 xl.length cxl_0), (1, .string ⟨⟨xs⟩⟩), (5, .int .i64 x5l7), (9, .bool (decide (x5l7 < (xl.length : Int))))] (by kernel_rfl) ?_
      refine Ok.nil ?_
      refine Ok.thenN ?_
      refine Ok.cond (b := decide (x5l7 < (xl.length : Int))) rfl (fun hc1 => ?_) (fun hc1 => ?_)
      · replace hF := hF.1 hc1
        refine Ok.skip ?_
        refine Ok.thenN ?_
        refine Ok.seq ?_
        refine Ok.block ?_
        refine Ok.seq ?_
        refine Ok.region ?_
        refine Ok.batch 2 [(0, .slice axl_0 xl.length cxl_0), (1, .string ⟨⟨xs⟩⟩), (5, .int .i64 x5l7), (12, .slice axl_0 xl.length cxl_0), (13, .int .i64 x5l7)] (by kernel_rfl) ?_
        obtain ⟨h03, h13, hF⟩ := hF
        have he3 := get_of (l := xl) (default : List UInt8) h13
        generalize hg3 : (xl.getD (Int.toNat x5l7) default) = e3 at he3 hF ⊢
        refine Ok.op rfl (OpOk.indexRo (e := .str) (i := x5l7) (el := e3) rfl rfl Tryd.underlying29 (by kernel_rfl) hRxl_0 h03 he3 rfl fun q2 o2 cs2 _ hat2 hr2 => ?_)
        obtain rfl := hr2
        replace hat2 : At g q2 o2 [.string ⟨⟨e3⟩⟩] := hat2
        refine Ok.op rfl (OpOk.step (v := .string ⟨⟨e3⟩⟩) (Yields.loadRo 0 hat2 (by kernel_rfl) Tryd.underlying9 rfl (by kernel_rfl)) rfl rfl ?_)
        refine Ok.batch 1 [(0, .slice axl_0 xl.length cxl_0), (1, .string ⟨⟨xs⟩⟩), (5, .int .i64 x5l7), (15, .string ⟨⟨e3⟩⟩), (16, .string ⟨⟨xs⟩⟩)] (by kernel_rfl) ?_
        refine Ok.op rfl (OpOk.step (v := .bool (e3 == xs)) (Yields.strCmp (f := .eql) (a := e3) (b := xs) (by kernel_rfl) (by kernel_rfl) rfl) rfl rfl ?_)
        refine Ok.nil ?_
        refine Ok.thenN ?_
        refine Ok.cond (b := (e3 == xs)) rfl (fun hc4 => ?_) (fun hc4 => ?_)
        · replace hF := hF.1 hc4
          refine Ok.seq ?_
          refine Ok.region ?_
          refine Ok.batch 1 [(4, .bool true)] (by kernel_rfl) ?_
          refine Ok.nil ?_
          refine Ok.thenN ?_
          refine Ok.ret ?_
          refine Ok.blockR ?_
          refine Ok.thenR ?_
          refine Ok.thenR ?_
          refine Ok.blockR ?_
          refine Ok.thenR ?_
          exact Ok.resH (vs := [.bool true]) (.inl rfl) rfl (.cons (.tmp rfl) .nil) (Gext.refl w0 g) ⟨true, rfl, rfl, hF⟩
        · replace hF := hF.2 hc4
          refine Ok.skip ?_
          refine Ok.blockN ?_
          refine Ok.thenN ?_
          refine Ok.region ?_
          refine Ok.batch 3 [(0, .slice axl_0 xl.length cxl_0), (1, .string ⟨⟨xs⟩⟩), (5, .int .i64 (IntKind.wrap .i64 (x5l7 + 1)))] (by kernel_rfl) ?_
          refine Ok.nil ?_
          refine Ok.thenN ?_
          subst hg3
          exact fun a W hA hW => ⟨k7, Nat.lt_succ_self _, IntKind.wrap .i64 (x5l7 + 1), hA.sub (by kernel_rfl), hW, hF⟩
      · replace hF := hF.2 hc1
        refine Ok.exit ?_
        refine Ok.thenE ?_
        refine Ok.thenE ?_
        refine Ok.blockHit ?_
        refine Ok.thenN ?_
        refine Ok.seq ?_
        refine Ok.region ?_
        refine Ok.batch 1 [(4, .bool false)] (by kernel_rfl) ?_
        refine Ok.nil ?_
        refine Ok.thenN ?_
        refine Ok.ret ?_
        exact Ok.resH (vs := [.bool false]) (.inl rfl) rfl (.cons (.tmp rfl) .nil) (Gext.refl w0 g) ⟨false, rfl, rfl, hF⟩
theorem rin_loop {l : List (List UInt8)} {s : List UInt8} {K : Bool → Prop} (hl : l.length ≤ maxLen) : ∀ (n k : Nat), l.length < n + k → k ≤ l.length → K ((l.drop k).any fun x => x == s) → rinl7 l s K n k := by
  intro n
  induction n with
  | zero => intro k h1 h2; omega
  | succ n ih =>
    intro k h1 h2 hK
    show rinl7b l s K k _
    unfold rinl7b
    rw [maxLen_eq] at hl
    refine ⟨fun h => ?_, fun h => ?_⟩
    · have h := of_decide_eq_true h
      rw [drop_get default (by omega : k < l.length)] at hK
      simp only [List.any_cons] at hK
      rw [show (k : Int).toNat = k by omega]
      refine ⟨by omega, by omega, fun h3 => ?_, fun h3 => ?_⟩
      · rw [h3] at hK; exact hK
      · rw [h3, Bool.false_or] at hK
        rw [w64 (by omega), show (k : Int) + 1 = ((k + 1 : Nat) : Int) by omega]
        exact ih (k + 1) (by omega) (by omega) hK
    · have h := of_decide_eq_false h
      rw [List.drop_eq_nil_of_le (by omega)] at hK
      exact hK
def isIn (l : List (List UInt8)) (s : List UInt8) : Bool := l.any fun x => x == s
def inP (l : List (List UInt8)) (s : List UInt8) : Prop := l.length ≤ maxLen
theorem rin_F (l : List (List UInt8)) (s : List UInt8) (h : inP l s) : rinF l s (fun r => r = isIn l s) :=
  ⟨l.length + 1, rin_loop h (l.length + 1) 0 (by omega) (by omega) rfl⟩
set_option linter.unusedVariables false in
theorem rin_c {g : Ghost} {axl_0 : Option Addr} {cxl_0 : Nat} (xl : List (List UInt8)) (xs : List UInt8) (hRxl_0 : Rep g (.slice (.str)) [.slice axl_0 xl.length cxl_0] xl)  (hp : inP xl xs) : CallsG Tryd.prog 23 #[.slice axl_0 xl.length cxl_0, .string ⟨⟨xs⟩⟩] g (.bool (isIn xl xs)) :=
  (rin_ok xl xs hRxl_0 _ (rin_F xl xs hp)).gives (by rintro g' H' v _ ⟨r0, rfl, rfl, hK⟩; subst hK; rfl)
theorem pk_small : ∀ s ∈ pkM, s.length ≤ 100 := by decide
theorem pk_len (i : Nat) : (pkM.getD i default).length ≤ maxLen := by
  rw [List.getD_eq_getElem?_getD]
  cases h : pkM[i]? with
  | none => simp [maxLen_eq]; decide
  | some s => have := pk_small s (List.mem_of_getElem? h); rw [Option.getD_some, maxLen_eq]; omega
def inij78 (xp : Int) (K : (Int × Int) → Prop) (e5 : List UInt8) : Prop :=
  ((((xp == 34) || (xp == 51))) = true → K (4, 1000)) ∧ ((((xp == 34) || (xp == 51))) = false → lenP e5 110 ∧ (((hasB e5 110)) = true → K (4, 0)) ∧ (((hasB e5 110)) = false → K (2, 0)))
def inij38 (xp : Int) (K : (Int × Int) → Prop) (e5 : List UInt8) : Prop :=
  ((((xp == 0) || (xp == 57))) = true → K (1, 1)) ∧ ((((xp == 0) || (xp == 57))) = false → (((xp == 48)) = true → K (1, 6)) ∧ (((xp == 48)) = false → lenP e5 107 ∧ (((hasB e5 107)) = true → K (1, 0)) ∧ (((hasB e5 107)) = false → (((xp == 36)) = true → K (5, 0)) ∧ (((xp == 36)) = false → lenP e5 99 ∧ (((hasB e5 99)) = true → K (5, 255)) ∧ (((hasB e5 99)) = false → (((xp == 34)) = true → inij78 xp K e5) ∧ (((xp == 34)) = false → inij78 xp K e5))))))
def inij22 (xp : Int) (K : (Int × Int) → Prop) (e5 : List UInt8) : Prop :=
  ((((decide (xp ≥ 11)) && (decide (xp ≤ 14)))) = true → K (2, 0)) ∧ ((((decide (xp ≥ 11)) && (decide (xp ≤ 14)))) = false → lenP e5 97 ∧ (((hasB e5 97)) = true → K (6, 0)) ∧ (((hasB e5 97)) = false → (((xp == 0)) = true → inij38 xp K e5) ∧ (((xp == 0)) = false → inij38 xp K e5)))
def inij4 (xp : Int) (K : (Int × Int) → Prop) : Prop :=
  ((((decide (xp < 0)) || (decide (xp ≥ 59)))) = true → K (0, 0)) ∧ ((((decide (xp < 0)) || (decide (xp ≥ 59)))) = false → (0 : Int) ≤ xp ∧ Int.toNat xp < pkM.length ∧ (((xp == 37)) = true → K (2, 1024)) ∧ (((xp == 37)) = false → ((decide (xp ≥ 11)) = true → inij22 xp K (pkM.getD (Int.toNat xp) default)) ∧ ((decide (xp ≥ 11)) = false → inij22 xp K (pkM.getD (Int.toNat xp) default))))
def iniF (xp : Int) (K : (Int × Int) → Prop) : Prop :=
  ((decide (xp < 0)) = true → inij4 xp K) ∧ ((decide (xp < 0)) = false → inij4 xp K)
set_option maxHeartbeats 4000000 in
set_option maxRecDepth 100000 in
set_option linter.unusedVariables false in
theorem ini_ok {g : Ghost} (xp : Int) (K : (Int × Int) → Prop)
    (hF : iniF xp K) : CallsH Tryd.prog 7 #[.int .i64 xp] g [] (fun g' H' v => ∃ (r0 : Int × Int), v = .agg #[.int .i64 r0.1, .int .i64 r0.2] ∧ H' = [] ∧ K r0) := by
  refine CallsH.enter 58 [(0, .int .i64 xp)] Tryd.func7 rfl (by kernel_rfl) (by kernel_rfl) (by kernel_rfl) fun w0 => ?_
  refine Ok.seq ?_
  refine Ok.region ?_
  refine Ok.op rfl (OpOk.alloc (z := .agg #[.int .i64 0, .int .i64 0]) (cs := #[.int .i64 0, .int .i64 0]) (by kernel_rfl) (by kernel_rfl) rfl fun b1 => ?_)
  refine Ok.nil ?_
  refine Ok.thenN ?_
  refine Ok.seq ?_
  refine Ok.cut (fun a W => ∃ gj4 : Ghost, Gext w0 g gj4 ∧ StA 58 [(0, .int .i64 xp), (2, .pointer (some ⟨b1, 0, none⟩)), (9, .bool ((decide (xp < 0)) || (decide (xp ≥ 59))))] a ∧ StW w0 [.blk b1 (.cells #[.int .i64 0, .int .i64 0] 23)] gj4 W ∧ inij4 xp K) ?_ ?_
  ·
    refine Ok.region ?_
    refine Ok.batch 3 [(0, .int .i64 xp), (2, .pointer (some ⟨b1, 0, none⟩)), (6, .bool (decide (xp < 0)))] (by kernel_rfl) ?_
    refine Ok.boolAt 6 (decide (xp < 0)) rfl (fun hc23 => ?_) (fun hc23 => ?_)
    · replace hF := hF.1 hc23
      refine Ok.batch 3 [(0, .int .i64 xp), (2, .pointer (some ⟨b1, 0, none⟩)), (9, .bool true)] (by kernel_rfl) ?_
      refine Ok.nil ?_
      refine Ok.thenN ?_
      refine Ok.reval 9 rfl (show (.bool true : Value) = .bool ((decide (xp < 0)) || (decide (xp ≥ 59))) from congrArg (Value.bool) (mor_t hc23)) ?_
      exact fun a W hA hW => ⟨g, (Gext.refl w0 g), hA.sub (by kernel_rfl), hW, hF⟩
    · replace hF := hF.2 hc23
      refine Ok.batch 3 [(0, .int .i64 xp), (2, .pointer (some ⟨b1, 0, none⟩)), (9, .bool (decide (xp ≥ 59)))] (by kernel_rfl) ?_
      refine Ok.nil ?_
      refine Ok.thenN ?_
      refine Ok.reval 9 rfl (show (.bool (decide (xp ≥ 59)) : Value) = .bool ((decide (xp < 0)) || (decide (xp ≥ 59))) from congrArg (Value.bool) (mor_f hc23)) ?_
      exact fun a W hA hW => ⟨g, (Gext.refl w0 g), hA.sub (by kernel_rfl), hW, hF⟩
  ·
    rintro a W ⟨gj4, hxj4, hA, hW, hF⟩
    refine (?_ : Ok _ _ _ _ _ _) a W hA hW
    clear hA hW
    refine Ok.cond (b := ((decide (xp < 0)) || (decide (xp ≥ 59)))) rfl (fun hc2 => ?_) (fun hc2 => ?_)
    · replace hF := hF.1 hc2
      refine Ok.seq ?_
      refine Ok.region ?_
      refine Ok.batch 1 [(2, .pointer (some ⟨b1, 0, none⟩)), (10, .agg #[.int .i64 0, .int .i64 0])] (by kernel_rfl) ?_
      refine Ok.op rfl (OpOk.store (k := 2) (v := .agg #[.int .i64 0, .int .i64 0]) (H' := [.blk b1 (.cells #[.int .i64 0, .int .i64 0] 23)]) 0 rfl rfl rfl (by kernel_rfl) (by kernel_rfl) (by kernel_rfl) (by kernel_rfl) (by kernel_rfl) ?_)
      refine Ok.nil ?_
      refine Ok.thenN ?_
      refine Ok.ret ?_
      refine Ok.thenR ?_
      exact Ok.resP (vs := [.agg #[.int .i64 0, .int .i64 0]]) [] [] (by decide) rfl (.inl rfl) rfl (.cons (.cellAgg 0 2 #[.int .i64 0, .int .i64 0] rfl rfl Tryd.underlying23 rfl (by kernel_rfl) (by kernel_rfl) (by kernel_rfl)) .nil) hxj4 ⟨(0, 0), rfl, rfl, hF⟩
    · replace hF := hF.2 hc2
      refine Ok.skip ?_
      refine Ok.thenN ?_
      refine Ok.seq ?_
      refine Ok.region ?_
      refine Ok.op rfl (OpOk.callH [] [.blk b1 (.cells #[.int .i64 0, .int .i64 0] 23)] (enters (by kernel_rfl) (fun _ => by kernel_rfl)) rfl (pk_c ) rfl fun g3 _ _ hx3 hV3 => ?_)
      obtain ⟨a3_0, c3_0, rfl, hR3_0, rfl⟩ := hV3
      refine Ok.batch 1 [(0, .int .i64 xp), (2, .pointer (some ⟨b1, 0, none⟩)), (11, .slice a3_0 pkM.length c3_0), (12, .int .i64 xp)] (by kernel_rfl) ?_
      obtain ⟨h05, h15, hF⟩ := hF
      have he5 := get_of (l := pkM) (default : List UInt8) h15
      generalize hg5 : (pkM.getD (Int.toNat xp) default) = e5 at he5 hF ⊢
      refine Ok.op rfl (OpOk.indexRo (e := .str) (i := xp) (el := e5) rfl rfl Tryd.underlying29 (by kernel_rfl) hR3_0 h05 he5 rfl fun q4 o4 cs4 _ hat4 hr4 => ?_)
      obtain rfl := hr4
      replace hat4 : At g3 q4 o4 [.string ⟨⟨e5⟩⟩] := hat4
      refine Ok.op rfl (OpOk.step (v := .string ⟨⟨e5⟩⟩) (Yields.loadRo 0 hat4 (by kernel_rfl) Tryd.underlying9 rfl (by kernel_rfl)) rfl rfl ?_)
      refine Ok.batch 1 [(0, .int .i64 xp), (2, .pointer (some ⟨b1, 0, none⟩)), (3, .string ⟨⟨e5⟩⟩)] (by kernel_rfl) ?_
      refine Ok.nil ?_
      refine Ok.thenN ?_
      refine Ok.seq ?_
      refine Ok.seq ?_
      refine Ok.region ?_
      refine Ok.batch 2 [(0, .int .i64 xp), (2, .pointer (some ⟨b1, 0, none⟩)), (3, .string ⟨⟨e5⟩⟩), (16, .bool (xp == 37))] (by kernel_rfl) ?_
      refine Ok.nil ?_
      refine Ok.thenN ?_
      refine Ok.cond (b := (xp == 37)) rfl (fun hc6 => ?_) (fun hc6 => ?_)
      · replace hF := hF.1 hc6
        refine Ok.seq ?_
        refine Ok.region ?_
        refine Ok.batch 1 [(2, .pointer (some ⟨b1, 0, none⟩)), (17, .agg #[.int .i64 2, .int .i64 1024])] (by kernel_rfl) ?_
        refine Ok.op rfl (OpOk.store (k := 2) (v := .agg #[.int .i64 2, .int .i64 1024]) (H' := [.blk b1 (.cells #[.int .i64 2, .int .i64 1024] 23)]) 0 rfl rfl rfl (by kernel_rfl) (by kernel_rfl) (by kernel_rfl) (by kernel_rfl) (by kernel_rfl) ?_)
        refine Ok.nil ?_
        refine Ok.thenN ?_
        refine Ok.ret ?_
        refine Ok.thenR ?_
        exact Ok.resP (vs := [.agg #[.int .i64 2, .int .i64 1024]]) [] [] (by decide) rfl (.inl rfl) rfl (.cons (.cellAgg 0 2 #[.int .i64 2, .int .i64 1024] rfl rfl Tryd.underlying23 rfl (by kernel_rfl) (by kernel_rfl) (by kernel_rfl)) .nil) (hxj4.trans hx3) ⟨(2, 1024), rfl, rfl, hF⟩
      · replace hF := hF.2 hc6
        refine Ok.skip ?_
        refine Ok.thenN ?_
        refine Ok.seq ?_
        refine Ok.cut (fun a W => ∃ gj22 : Ghost, Gext w0 g3 gj22 ∧ StA 58 [(0, .int .i64 xp), (2, .pointer (some ⟨b1, 0, none⟩)), (3, .string ⟨⟨e5⟩⟩), (23, .bool ((decide (xp ≥ 11)) && (decide (xp ≤ 14))))] a ∧ StW w0 [.blk b1 (.cells #[.int .i64 0, .int .i64 0] 23)] gj22 W ∧ inij22 xp K e5) ?_ ?_
        ·
          refine Ok.region ?_
          refine Ok.batch 3 [(0, .int .i64 xp), (2, .pointer (some ⟨b1, 0, none⟩)), (3, .string ⟨⟨e5⟩⟩), (20, .bool (decide (xp ≥ 11)))] (by kernel_rfl) ?_
          refine Ok.boolAt 20 (decide (xp ≥ 11)) rfl (fun hc22 => ?_) (fun hc22 => ?_)
          · replace hF := hF.1 hc22
            refine Ok.batch 3 [(0, .int .i64 xp), (2, .pointer (some ⟨b1, 0, none⟩)), (3, .string ⟨⟨e5⟩⟩), (23, .bool (decide (xp ≤ 14)))] (by kernel_rfl) ?_
            refine Ok.nil ?_
            refine Ok.thenN ?_
            refine Ok.reval 23 rfl (show (.bool (decide (xp ≤ 14)) : Value) = .bool ((decide (xp ≥ 11)) && (decide (xp ≤ 14))) from congrArg (Value.bool) (mand_t hc22)) ?_
            exact fun a W hA hW => ⟨g3, (Gext.refl w0 g3), hA.sub (by kernel_rfl), hW, hF⟩
          · replace hF := hF.2 hc22
            refine Ok.batch 3 [(0, .int .i64 xp), (2, .pointer (some ⟨b1, 0, none⟩)), (3, .string ⟨⟨e5⟩⟩), (23, .bool false)] (by kernel_rfl) ?_
            refine Ok.nil ?_
            refine Ok.thenN ?_
            refine Ok.reval 23 rfl (show (.bool false : Value) = .bool ((decide (xp ≥ 11)) && (decide (xp ≤ 14))) from congrArg (Value.bool) (mand_f hc22)) ?_
            exact fun a W hA hW => ⟨g3, (Gext.refl w0 g3), hA.sub (by kernel_rfl), hW, hF⟩
        ·
          rintro a W ⟨gj22, hxj22, hA, hW, hF⟩
          refine (?_ : Ok _ _ _ _ _ _) a W hA hW
          clear hA hW
          refine Ok.cond (b := ((decide (xp ≥ 11)) && (decide (xp ≤ 14)))) rfl (fun hc7 => ?_) (fun hc7 => ?_)
          · replace hF := hF.1 hc7
            refine Ok.seq ?_
            refine Ok.region ?_
            refine Ok.batch 1 [(2, .pointer (some ⟨b1, 0, none⟩)), (24, .agg #[.int .i64 2, .int .i64 0])] (by kernel_rfl) ?_
            refine Ok.op rfl (OpOk.store (k := 2) (v := .agg #[.int .i64 2, .int .i64 0]) (H' := [.blk b1 (.cells #[.int .i64 2, .int .i64 0] 23)]) 0 rfl rfl rfl (by kernel_rfl) (by kernel_rfl) (by kernel_rfl) (by kernel_rfl) (by kernel_rfl) ?_)
            refine Ok.nil ?_
            refine Ok.thenN ?_
            refine Ok.ret ?_
            refine Ok.thenR ?_
            exact Ok.resP (vs := [.agg #[.int .i64 2, .int .i64 0]]) [] [] (by decide) rfl (.inl rfl) rfl (.cons (.cellAgg 0 2 #[.int .i64 2, .int .i64 0] rfl rfl Tryd.underlying23 rfl (by kernel_rfl) (by kernel_rfl) (by kernel_rfl)) .nil) ((hxj4.trans hx3).trans hxj22) ⟨(2, 0), rfl, rfl, hF⟩
          · replace hF := hF.2 hc7
            refine Ok.skip ?_
            refine Ok.thenN ?_
            refine Ok.seq ?_
            refine Ok.seq ?_
            refine Ok.region ?_
            refine Ok.batch 1 [(0, .int .i64 xp), (2, .pointer (some ⟨b1, 0, none⟩)), (3, .string ⟨⟨e5⟩⟩), (25, .string ⟨⟨e5⟩⟩)] (by kernel_rfl) ?_
            obtain ⟨hp8, hF⟩ := hF
            refine Ok.op rfl (OpOk.callG (v := .bool (hasB e5 97)) (enters (by kernel_rfl) (fun _ => by kernel_rfl)) (fun W hW => hb_c e5 97 hp8) rfl ?_)
            refine Ok.nil ?_
            refine Ok.thenN ?_
            refine Ok.cond (b := (hasB e5 97)) rfl (fun hc9 => ?_) (fun hc9 => ?_)
            · replace hF := hF.1 hc9
              refine Ok.seq ?_
              refine Ok.region ?_
              refine Ok.batch 1 [(2, .pointer (some ⟨b1, 0, none⟩)), (27, .agg #[.int .i64 6, .int .i64 0])] (by kernel_rfl) ?_
              refine Ok.op rfl (OpOk.store (k := 2) (v := .agg #[.int .i64 6, .int .i64 0]) (H' := [.blk b1 (.cells #[.int .i64 6, .int .i64 0] 23)]) 0 rfl rfl rfl (by kernel_rfl) (by kernel_rfl) (by kernel_rfl) (by kernel_rfl) (by kernel_rfl) ?_)
              refine Ok.nil ?_
              refine Ok.thenN ?_
              refine Ok.ret ?_
              refine Ok.thenR ?_
              exact Ok.resP (vs := [.agg #[.int .i64 6, .int .i64 0]]) [] [] (by decide) rfl (.inl rfl) rfl (.cons (.cellAgg 0 2 #[.int .i64 6, .int .i64 0] rfl rfl Tryd.underlying23 rfl (by kernel_rfl) (by kernel_rfl) (by kernel_rfl)) .nil) ((hxj4.trans hx3).trans hxj22) ⟨(6, 0), rfl, rfl, hF⟩
            · replace hF := hF.2 hc9
              refine Ok.skip ?_
              refine Ok.thenN ?_
              refine Ok.seq ?_
              refine Ok.cut (fun a W => ∃ gj38 : Ghost, Gext w0 gj22 gj38 ∧ StA 58 [(0, .int .i64 xp), (2, .pointer (some ⟨b1, 0, none⟩)), (3, .string ⟨⟨e5⟩⟩), (33, .bool ((xp == 0) || (xp == 57)))] a ∧ StW w0 [.blk b1 (.cells #[.int .i64 0, .int .i64 0] 23)] gj38 W ∧ inij38 xp K e5) ?_ ?_
              ·
                refine Ok.region ?_
                refine Ok.batch 3 [(0, .int .i64 xp), (2, .pointer (some ⟨b1, 0, none⟩)), (3, .string ⟨⟨e5⟩⟩), (30, .bool (xp == 0))] (by kernel_rfl) ?_
                refine Ok.boolAt 30 ((xp == 0)) rfl (fun hc21 => ?_) (fun hc21 => ?_)
                · replace hF := hF.1 hc21
                  refine Ok.batch 3 [(0, .int .i64 xp), (2, .pointer (some ⟨b1, 0, none⟩)), (3, .string ⟨⟨e5⟩⟩), (33, .bool true)] (by kernel_rfl) ?_
                  refine Ok.nil ?_
                  refine Ok.thenN ?_
                  refine Ok.reval 33 rfl (show (.bool true : Value) = .bool ((xp == 0) || (xp == 57)) from congrArg (Value.bool) (mor_t hc21)) ?_
                  exact fun a W hA hW => ⟨gj22, (Gext.refl w0 gj22), hA.sub (by kernel_rfl), hW, hF⟩
                · replace hF := hF.2 hc21
                  refine Ok.batch 3 [(0, .int .i64 xp), (2, .pointer (some ⟨b1, 0, none⟩)), (3, .string ⟨⟨e5⟩⟩), (33, .bool (xp == 57))] (by kernel_rfl) ?_
                  refine Ok.nil ?_
                  refine Ok.thenN ?_
                  refine Ok.reval 33 rfl (show (.bool (xp == 57) : Value) = .bool ((xp == 0) || (xp == 57)) from congrArg (Value.bool) (mor_f hc21)) ?_
                  exact fun a W hA hW => ⟨gj22, (Gext.refl w0 gj22), hA.sub (by kernel_rfl), hW, hF⟩
              ·
                rintro a W ⟨gj38, hxj38, hA, hW, hF⟩
                refine (?_ : Ok _ _ _ _ _ _) a W hA hW
                clear hA hW
                refine Ok.cond (b := ((xp == 0) || (xp == 57))) rfl (fun hc10 => ?_) (fun hc10 => ?_)
                · replace hF := hF.1 hc10
                  refine Ok.seq ?_
                  refine Ok.region ?_
                  refine Ok.batch 1 [(2, .pointer (some ⟨b1, 0, none⟩)), (34, .agg #[.int .i64 1, .int .i64 1])] (by kernel_rfl) ?_
                  refine Ok.op rfl (OpOk.store (k := 2) (v := .agg #[.int .i64 1, .int .i64 1]) (H' := [.blk b1 (.cells #[.int .i64 1, .int .i64 1] 23)]) 0 rfl rfl rfl (by kernel_rfl) (by kernel_rfl) (by kernel_rfl) (by kernel_rfl) (by kernel_rfl) ?_)
                  refine Ok.nil ?_
                  refine Ok.thenN ?_
                  refine Ok.ret ?_
                  refine Ok.thenR ?_
                  exact Ok.resP (vs := [.agg #[.int .i64 1, .int .i64 1]]) [] [] (by decide) rfl (.inl rfl) rfl (.cons (.cellAgg 0 2 #[.int .i64 1, .int .i64 1] rfl rfl Tryd.underlying23 rfl (by kernel_rfl) (by kernel_rfl) (by kernel_rfl)) .nil) (((hxj4.trans hx3).trans hxj22).trans hxj38) ⟨(1, 1), rfl, rfl, hF⟩
                · replace hF := hF.2 hc10
                  refine Ok.skip ?_
                  refine Ok.thenN ?_
                  refine Ok.seq ?_
                  refine Ok.seq ?_
                  refine Ok.region ?_
                  refine Ok.batch 2 [(0, .int .i64 xp), (2, .pointer (some ⟨b1, 0, none⟩)), (3, .string ⟨⟨e5⟩⟩), (36, .bool (xp == 48))] (by kernel_rfl) ?_
                  refine Ok.nil ?_
                  refine Ok.thenN ?_
                  refine Ok.cond (b := (xp == 48)) rfl (fun hc11 => ?_) (fun hc11 => ?_)
                  · replace hF := hF.1 hc11
                    refine Ok.seq ?_
                    refine Ok.region ?_
                    refine Ok.batch 1 [(2, .pointer (some ⟨b1, 0, none⟩)), (37, .agg #[.int .i64 1, .int .i64 6])] (by kernel_rfl) ?_
                    refine Ok.op rfl (OpOk.store (k := 2) (v := .agg #[.int .i64 1, .int .i64 6]) (H' := [.blk b1 (.cells #[.int .i64 1, .int .i64 6] 23)]) 0 rfl rfl rfl (by kernel_rfl) (by kernel_rfl) (by kernel_rfl) (by kernel_rfl) (by kernel_rfl) ?_)
                    refine Ok.nil ?_
                    refine Ok.thenN ?_
                    refine Ok.ret ?_
                    refine Ok.thenR ?_
                    exact Ok.resP (vs := [.agg #[.int .i64 1, .int .i64 6]]) [] [] (by decide) rfl (.inl rfl) rfl (.cons (.cellAgg 0 2 #[.int .i64 1, .int .i64 6] rfl rfl Tryd.underlying23 rfl (by kernel_rfl) (by kernel_rfl) (by kernel_rfl)) .nil) (((hxj4.trans hx3).trans hxj22).trans hxj38) ⟨(1, 6), rfl, rfl, hF⟩
                  · replace hF := hF.2 hc11
                    refine Ok.skip ?_
                    refine Ok.thenN ?_
                    refine Ok.seq ?_
                    refine Ok.seq ?_
                    refine Ok.region ?_
                    refine Ok.batch 1 [(0, .int .i64 xp), (2, .pointer (some ⟨b1, 0, none⟩)), (3, .string ⟨⟨e5⟩⟩), (38, .string ⟨⟨e5⟩⟩)] (by kernel_rfl) ?_
                    obtain ⟨hp12, hF⟩ := hF
                    refine Ok.op rfl (OpOk.callG (v := .bool (hasB e5 107)) (enters (by kernel_rfl) (fun _ => by kernel_rfl)) (fun W hW => hb_c e5 107 hp12) rfl ?_)
                    refine Ok.nil ?_
                    refine Ok.thenN ?_
                    refine Ok.cond (b := (hasB e5 107)) rfl (fun hc13 => ?_) (fun hc13 => ?_)
                    · replace hF := hF.1 hc13
                      refine Ok.seq ?_
                      refine Ok.region ?_
                      refine Ok.batch 1 [(2, .pointer (some ⟨b1, 0, none⟩)), (40, .agg #[.int .i64 1, .int .i64 0])] (by kernel_rfl) ?_
                      refine Ok.op rfl (OpOk.store (k := 2) (v := .agg #[.int .i64 1, .int .i64 0]) (H' := [.blk b1 (.cells #[.int .i64 1, .int .i64 0] 23)]) 0 rfl rfl rfl (by kernel_rfl) (by kernel_rfl) (by kernel_rfl) (by kernel_rfl) (by kernel_rfl) ?_)
                      refine Ok.nil ?_
                      refine Ok.thenN ?_
                      refine Ok.ret ?_
                      refine Ok.thenR ?_
                      exact Ok.resP (vs := [.agg #[.int .i64 1, .int .i64 0]]) [] [] (by decide) rfl (.inl rfl) rfl (.cons (.cellAgg 0 2 #[.int .i64 1, .int .i64 0] rfl rfl Tryd.underlying23 rfl (by kernel_rfl) (by kernel_rfl) (by kernel_rfl)) .nil) (((hxj4.trans hx3).trans hxj22).trans hxj38) ⟨(1, 0), rfl, rfl, hF⟩
                    · replace hF := hF.2 hc13
                      refine Ok.skip ?_
                      refine Ok.thenN ?_
                      refine Ok.seq ?_
                      refine Ok.seq ?_
                      refine Ok.region ?_
                      refine Ok.batch 2 [(0, .int .i64 xp), (2, .pointer (some ⟨b1, 0, none⟩)), (3, .string ⟨⟨e5⟩⟩), (42, .bool (xp == 36))] (by kernel_rfl) ?_
                      refine Ok.nil ?_
                      refine Ok.thenN ?_
                      refine Ok.cond (b := (xp == 36)) rfl (fun hc14 => ?_) (fun hc14 => ?_)
                      · replace hF := hF.1 hc14
                        refine Ok.seq ?_
                        refine Ok.region ?_
                        refine Ok.batch 1 [(2, .pointer (some ⟨b1, 0, none⟩)), (43, .agg #[.int .i64 5, .int .i64 0])] (by kernel_rfl) ?_
                        refine Ok.op rfl (OpOk.store (k := 2) (v := .agg #[.int .i64 5, .int .i64 0]) (H' := [.blk b1 (.cells #[.int .i64 5, .int .i64 0] 23)]) 0 rfl rfl rfl (by kernel_rfl) (by kernel_rfl) (by kernel_rfl) (by kernel_rfl) (by kernel_rfl) ?_)
                        refine Ok.nil ?_
                        refine Ok.thenN ?_
                        refine Ok.ret ?_
                        refine Ok.thenR ?_
                        exact Ok.resP (vs := [.agg #[.int .i64 5, .int .i64 0]]) [] [] (by decide) rfl (.inl rfl) rfl (.cons (.cellAgg 0 2 #[.int .i64 5, .int .i64 0] rfl rfl Tryd.underlying23 rfl (by kernel_rfl) (by kernel_rfl) (by kernel_rfl)) .nil) (((hxj4.trans hx3).trans hxj22).trans hxj38) ⟨(5, 0), rfl, rfl, hF⟩
                      · replace hF := hF.2 hc14
                        refine Ok.skip ?_
                        refine Ok.thenN ?_
                        refine Ok.seq ?_
                        refine Ok.seq ?_
                        refine Ok.region ?_
                        refine Ok.batch 1 [(0, .int .i64 xp), (2, .pointer (some ⟨b1, 0, none⟩)), (3, .string ⟨⟨e5⟩⟩), (44, .string ⟨⟨e5⟩⟩)] (by kernel_rfl) ?_
                        obtain ⟨hp15, hF⟩ := hF
                        refine Ok.op rfl (OpOk.callG (v := .bool (hasB e5 99)) (enters (by kernel_rfl) (fun _ => by kernel_rfl)) (fun W hW => hb_c e5 99 hp15) rfl ?_)
                        refine Ok.nil ?_
                        refine Ok.thenN ?_
                        refine Ok.cond (b := (hasB e5 99)) rfl (fun hc16 => ?_) (fun hc16 => ?_)
                        · replace hF := hF.1 hc16
                          refine Ok.seq ?_
                          refine Ok.region ?_
                          refine Ok.batch 1 [(2, .pointer (some ⟨b1, 0, none⟩)), (46, .agg #[.int .i64 5, .int .i64 255])] (by kernel_rfl) ?_
                          refine Ok.op rfl (OpOk.store (k := 2) (v := .agg #[.int .i64 5, .int .i64 255]) (H' := [.blk b1 (.cells #[.int .i64 5, .int .i64 255] 23)]) 0 rfl rfl rfl (by kernel_rfl) (by kernel_rfl) (by kernel_rfl) (by kernel_rfl) (by kernel_rfl) ?_)
                          refine Ok.nil ?_
                          refine Ok.thenN ?_
                          refine Ok.ret ?_
                          refine Ok.thenR ?_
                          exact Ok.resP (vs := [.agg #[.int .i64 5, .int .i64 255]]) [] [] (by decide) rfl (.inl rfl) rfl (.cons (.cellAgg 0 2 #[.int .i64 5, .int .i64 255] rfl rfl Tryd.underlying23 rfl (by kernel_rfl) (by kernel_rfl) (by kernel_rfl)) .nil) (((hxj4.trans hx3).trans hxj22).trans hxj38) ⟨(5, 255), rfl, rfl, hF⟩
                        · replace hF := hF.2 hc16
                          refine Ok.skip ?_
                          refine Ok.thenN ?_
                          refine Ok.seq ?_
                          refine Ok.cut (fun a W => ∃ gj78 : Ghost, Gext w0 gj38 gj78 ∧ StA 58 [(2, .pointer (some ⟨b1, 0, none⟩)), (3, .string ⟨⟨e5⟩⟩), (52, .bool ((xp == 34) || (xp == 51)))] a ∧ StW w0 [.blk b1 (.cells #[.int .i64 0, .int .i64 0] 23)] gj78 W ∧ inij78 xp K e5) ?_ ?_
                          ·
                            refine Ok.region ?_
                            refine Ok.batch 3 [(0, .int .i64 xp), (2, .pointer (some ⟨b1, 0, none⟩)), (3, .string ⟨⟨e5⟩⟩), (49, .bool (xp == 34))] (by kernel_rfl) ?_
                            refine Ok.boolAt 49 ((xp == 34)) rfl (fun hc20 => ?_) (fun hc20 => ?_)
                            · replace hF := hF.1 hc20
                              refine Ok.batch 3 [(2, .pointer (some ⟨b1, 0, none⟩)), (3, .string ⟨⟨e5⟩⟩), (52, .bool true)] (by kernel_rfl) ?_
                              refine Ok.nil ?_
                              refine Ok.thenN ?_
                              refine Ok.reval 52 rfl (show (.bool true : Value) = .bool ((xp == 34) || (xp == 51)) from congrArg (Value.bool) (mor_t hc20)) ?_
                              exact fun a W hA hW => ⟨gj38, (Gext.refl w0 gj38), hA.sub (by kernel_rfl), hW, hF⟩
                            · replace hF := hF.2 hc20
                              refine Ok.batch 3 [(2, .pointer (some ⟨b1, 0, none⟩)), (3, .string ⟨⟨e5⟩⟩), (52, .bool (xp == 51))] (by kernel_rfl) ?_
                              refine Ok.nil ?_
                              refine Ok.thenN ?_
                              refine Ok.reval 52 rfl (show (.bool (xp == 51) : Value) = .bool ((xp == 34) || (xp == 51)) from congrArg (Value.bool) (mor_f hc20)) ?_
                              exact fun a W hA hW => ⟨gj38, (Gext.refl w0 gj38), hA.sub (by kernel_rfl), hW, hF⟩
                          ·
                            rintro a W ⟨gj78, hxj78, hA, hW, hF⟩
                            refine (?_ : Ok _ _ _ _ _ _) a W hA hW
                            clear hA hW
                            refine Ok.cond (b := ((xp == 34) || (xp == 51))) rfl (fun hc17 => ?_) (fun hc17 => ?_)
                            · replace hF := hF.1 hc17
                              refine Ok.seq ?_
                              refine Ok.region ?_
                              refine Ok.batch 1 [(2, .pointer (some ⟨b1, 0, none⟩)), (53, .agg #[.int .i64 4, .int .i64 1000])] (by kernel_rfl) ?_
                              refine Ok.op rfl (OpOk.store (k := 2) (v := .agg #[.int .i64 4, .int .i64 1000]) (H' := [.blk b1 (.cells #[.int .i64 4, .int .i64 1000] 23)]) 0 rfl rfl rfl (by kernel_rfl) (by kernel_rfl) (by kernel_rfl) (by kernel_rfl) (by kernel_rfl) ?_)
                              refine Ok.nil ?_
                              refine Ok.thenN ?_
                              refine Ok.ret ?_
                              refine Ok.thenR ?_
                              exact Ok.resP (vs := [.agg #[.int .i64 4, .int .i64 1000]]) [] [] (by decide) rfl (.inl rfl) rfl (.cons (.cellAgg 0 2 #[.int .i64 4, .int .i64 1000] rfl rfl Tryd.underlying23 rfl (by kernel_rfl) (by kernel_rfl) (by kernel_rfl)) .nil) ((((hxj4.trans hx3).trans hxj22).trans hxj38).trans hxj78) ⟨(4, 1000), rfl, rfl, hF⟩
                            · replace hF := hF.2 hc17
                              refine Ok.skip ?_
                              refine Ok.thenN ?_
                              refine Ok.seq ?_
                              refine Ok.seq ?_
                              refine Ok.region ?_
                              refine Ok.batch 1 [(2, .pointer (some ⟨b1, 0, none⟩)), (54, .string ⟨⟨e5⟩⟩)] (by kernel_rfl) ?_
                              obtain ⟨hp18, hF⟩ := hF
                              refine Ok.op rfl (OpOk.callG (v := .bool (hasB e5 110)) (enters (by kernel_rfl) (fun _ => by kernel_rfl)) (fun W hW => hb_c e5 110 hp18) rfl ?_)
                              refine Ok.nil ?_
                              refine Ok.thenN ?_
                              refine Ok.cond (b := (hasB e5 110)) rfl (fun hc19 => ?_) (fun hc19 => ?_)
                              · replace hF := hF.1 hc19
                                refine Ok.seq ?_
                                refine Ok.region ?_
                                refine Ok.batch 1 [(2, .pointer (some ⟨b1, 0, none⟩)), (56, .agg #[.int .i64 4, .int .i64 0])] (by kernel_rfl) ?_
                                refine Ok.op rfl (OpOk.store (k := 2) (v := .agg #[.int .i64 4, .int .i64 0]) (H' := [.blk b1 (.cells #[.int .i64 4, .int .i64 0] 23)]) 0 rfl rfl rfl (by kernel_rfl) (by kernel_rfl) (by kernel_rfl) (by kernel_rfl) (by kernel_rfl) ?_)
                                refine Ok.nil ?_
                                refine Ok.thenN ?_
                                refine Ok.ret ?_
                                refine Ok.thenR ?_
                                exact Ok.resP (vs := [.agg #[.int .i64 4, .int .i64 0]]) [] [] (by decide) rfl (.inl rfl) rfl (.cons (.cellAgg 0 2 #[.int .i64 4, .int .i64 0] rfl rfl Tryd.underlying23 rfl (by kernel_rfl) (by kernel_rfl) (by kernel_rfl)) .nil) ((((hxj4.trans hx3).trans hxj22).trans hxj38).trans hxj78) ⟨(4, 0), rfl, rfl, hF⟩
                              · replace hF := hF.2 hc19
                                refine Ok.skip ?_
                                refine Ok.thenN ?_
                                refine Ok.seq ?_
                                refine Ok.region ?_
                                refine Ok.batch 1 [(2, .pointer (some ⟨b1, 0, none⟩)), (57, .agg #[.int .i64 2, .int .i64 0])] (by kernel_rfl) ?_
                                refine Ok.op rfl (OpOk.store (k := 2) (v := .agg #[.int .i64 2, .int .i64 0]) (H' := [.blk b1 (.cells #[.int .i64 2, .int .i64 0] 23)]) 0 rfl rfl rfl (by kernel_rfl) (by kernel_rfl) (by kernel_rfl) (by kernel_rfl) (by kernel_rfl) ?_)
                                refine Ok.nil ?_
                                refine Ok.thenN ?_
                                refine Ok.ret ?_
                                exact Ok.resP (vs := [.agg #[.int .i64 2, .int .i64 0]]) [] [] (by decide) rfl (.inl rfl) rfl (.cons (.cellAgg 0 2 #[.int .i64 2, .int .i64 0] rfl rfl Tryd.underlying23 rfl (by kernel_rfl) (by kernel_rfl) (by kernel_rfl)) .nil) ((((hxj4.trans hx3).trans hxj22).trans hxj38).trans hxj78) ⟨(2, 0), rfl, rfl, hF⟩
def inij78M (xp : Int) (e5 : List UInt8) : (Int × Int) := (if ((xp == 34) || (xp == 51)) = true then (4, 1000) else (if (hasB e5 110) = true then (4, 0) else (2, 0)))
set_option linter.unusedSimpArgs false in
set_option linter.unusedVariables false in
theorem inij78_A (xp : Int) (e5 : List UInt8) (he : e5.length ≤ maxLen) (P : (Int × Int) → Prop) (h : P (inij78M xp e5)) : inij78 xp (fun k0 => P k0) e5 := by
  unfold inij78M at h
  unfold inij78
  refine ⟨fun hc0 => ?_, fun hc0 => ?_⟩
  · rw [if_t hc0] at h
    have hd0 := hc0; try simp only [Bool.and_eq_true, Bool.or_eq_true, Bool.and_eq_false_iff, Bool.or_eq_false_iff, Bool.not_eq_true', Bool.not_eq_false', decide_eq_true_eq, decide_eq_false_iff_not, beq_iff_eq, beq_eq_false_iff_ne, ne_eq] at hd0
    exact h
  · rw [if_f hc0] at h
    have hd0 := hc0; try simp only [Bool.and_eq_true, Bool.or_eq_true, Bool.and_eq_false_iff, Bool.or_eq_false_iff, Bool.not_eq_true', Bool.not_eq_false', decide_eq_true_eq, decide_eq_false_iff_not, beq_iff_eq, beq_eq_false_iff_ne, ne_eq] at hd0
    refine ⟨?_, ?_⟩
    · first | (have : pkM.length = 59 := by rfl); omega | exact pk_len _ | omega | assumption | exact trivial | (simp; omega) | (simp at *; omega)
    refine ⟨fun hc1 => ?_, fun hc1 => ?_⟩
    · rw [if_t hc1] at h
      exact h
    · rw [if_f hc1] at h
      exact h
def inij38M (xp : Int) (e5 : List UInt8) : (Int × Int) := (if ((xp == 0) || (xp == 57)) = true then (1, 1) else (if (xp == 48) = true then (1, 6) else (if (hasB e5 107) = true then (1, 0) else (if (xp == 36) = true then (5, 0) else (if (hasB e5 99) = true then (5, 255) else (inij78M xp e5))))))
set_option linter.unusedSimpArgs false in
set_option linter.unusedVariables false in
theorem inij38_A (xp : Int) (e5 : List UInt8) (he : e5.length ≤ maxLen) (P : (Int × Int) → Prop) (h : P (inij38M xp e5)) : inij38 xp (fun k0 => P k0) e5 := by
  unfold inij38M at h
  unfold inij38
  refine ⟨fun hc0 => ?_, fun hc0 => ?_⟩
  · rw [if_t hc0] at h
    have hd0 := hc0; try simp only [Bool.and_eq_true, Bool.or_eq_true, Bool.and_eq_false_iff, Bool.or_eq_false_iff, Bool.not_eq_true', Bool.not_eq_false', decide_eq_true_eq, decide_eq_false_iff_not, beq_iff_eq, beq_eq_false_iff_ne, ne_eq] at hd0
    exact h
  · rw [if_f hc0] at h
    have hd0 := hc0; try simp only [Bool.and_eq_true, Bool.or_eq_true, Bool.and_eq_false_iff, Bool.or_eq_false_iff, Bool.not_eq_true', Bool.not_eq_false', decide_eq_true_eq, decide_eq_false_iff_not, beq_iff_eq, beq_eq_false_iff_ne, ne_eq] at hd0
    refine ⟨fun hc1 => ?_, fun hc1 => ?_⟩
    · rw [if_t hc1] at h
      have hd1 := hc1; try simp only [Bool.and_eq_true, Bool.or_eq_true, Bool.and_eq_false_iff, Bool.or_eq_false_iff, Bool.not_eq_true', Bool.not_eq_false', decide_eq_true_eq, decide_eq_false_iff_not, beq_iff_eq, beq_eq_false_iff_ne, ne_eq] at hd1
      exact h
    · rw [if_f hc1] at h
      have hd1 := hc1; try simp only [Bool.and_eq_true, Bool.or_eq_true, Bool.and_eq_false_iff, Bool.or_eq_false_iff, Bool.not_eq_true', Bool.not_eq_false', decide_eq_true_eq, decide_eq_false_iff_not, beq_iff_eq, beq_eq_false_iff_ne, ne_eq] at hd1
      refine ⟨?_, ?_⟩
      · first | (have : pkM.length = 59 := by rfl); omega | exact pk_len _ | omega | assumption | exact trivial | (simp; omega) | (simp at *; omega)
      refine ⟨fun hc2 => ?_, fun hc2 => ?_⟩
      · rw [if_t hc2] at h
        exact h
      · rw [if_f hc2] at h
        refine ⟨fun hc3 => ?_, fun hc3 => ?_⟩
        · rw [if_t hc3] at h
          have hd3 := hc3; try simp only [Bool.and_eq_true, Bool.or_eq_true, Bool.and_eq_false_iff, Bool.or_eq_false_iff, Bool.not_eq_true', Bool.not_eq_false', decide_eq_true_eq, decide_eq_false_iff_not, beq_iff_eq, beq_eq_false_iff_ne, ne_eq] at hd3
          exact h
        · rw [if_f hc3] at h
          have hd3 := hc3; try simp only [Bool.and_eq_true, Bool.or_eq_true, Bool.and_eq_false_iff, Bool.or_eq_false_iff, Bool.not_eq_true', Bool.not_eq_false', decide_eq_true_eq, decide_eq_false_iff_not, beq_iff_eq, beq_eq_false_iff_ne, ne_eq] at hd3
          refine ⟨?_, ?_⟩
          · first | (have : pkM.length = 59 := by rfl); omega | exact pk_len _ | omega | assumption | exact trivial | (simp; omega) | (simp at *; omega)
          refine ⟨fun hc4 => ?_, fun hc4 => ?_⟩
          · rw [if_t hc4] at h
            exact h
          · rw [if_f hc4] at h
            refine ⟨fun hc5 => ?_, fun hc5 => ?_⟩
            · skip
              have hd5 := hc5; try simp only [Bool.and_eq_true, Bool.or_eq_true, Bool.and_eq_false_iff, Bool.or_eq_false_iff, Bool.not_eq_true', Bool.not_eq_false', decide_eq_true_eq, decide_eq_false_iff_not, beq_iff_eq, beq_eq_false_iff_ne, ne_eq] at hd5
              exact inij78_A xp e5 (by first | (have : pkM.length = 59 := by rfl); omega | exact pk_len _ | omega | assumption | exact trivial | (simp; omega) | (simp at *; omega)) _ h
            · skip
              have hd5 := hc5; try simp only [Bool.and_eq_true, Bool.or_eq_true, Bool.and_eq_false_iff, Bool.or_eq_false_iff, Bool.not_eq_true', Bool.not_eq_false', decide_eq_true_eq, decide_eq_false_iff_not, beq_iff_eq, beq_eq_false_iff_ne, ne_eq] at hd5
              exact inij78_A xp e5 (by first | (have : pkM.length = 59 := by rfl); omega | exact pk_len _ | omega | assumption | exact trivial | (simp; omega) | (simp at *; omega)) _ h
def inij22M (xp : Int) (e5 : List UInt8) : (Int × Int) := (if ((decide (xp ≥ 11)) && (decide (xp ≤ 14))) = true then (2, 0) else (if (hasB e5 97) = true then (6, 0) else (inij38M xp e5)))
set_option linter.unusedSimpArgs false in
set_option linter.unusedVariables false in
theorem inij22_A (xp : Int) (e5 : List UInt8) (he : e5.length ≤ maxLen) (P : (Int × Int) → Prop) (h : P (inij22M xp e5)) : inij22 xp (fun k0 => P k0) e5 := by
  unfold inij22M at h
  unfold inij22
  refine ⟨fun hc0 => ?_, fun hc0 => ?_⟩
  · rw [if_t hc0] at h
    have hd0 := hc0; try simp only [Bool.and_eq_true, Bool.or_eq_true, Bool.and_eq_false_iff, Bool.or_eq_false_iff, Bool.not_eq_true', Bool.not_eq_false', decide_eq_true_eq, decide_eq_false_iff_not, beq_iff_eq, beq_eq_false_iff_ne, ne_eq] at hd0
    exact h
  · rw [if_f hc0] at h
    have hd0 := hc0; try simp only [Bool.and_eq_true, Bool.or_eq_true, Bool.and_eq_false_iff, Bool.or_eq_false_iff, Bool.not_eq_true', Bool.not_eq_false', decide_eq_true_eq, decide_eq_false_iff_not, beq_iff_eq, beq_eq_false_iff_ne, ne_eq] at hd0
    refine ⟨?_, ?_⟩
    · first | (have : pkM.length = 59 := by rfl); omega | exact pk_len _ | omega | assumption | exact trivial | (simp; omega) | (simp at *; omega)
    refine ⟨fun hc1 => ?_, fun hc1 => ?_⟩
    · rw [if_t hc1] at h
      exact h
    · rw [if_f hc1] at h
      refine ⟨fun hc2 => ?_, fun hc2 => ?_⟩
      · skip
        have hd2 := hc2; try simp only [Bool.and_eq_true, Bool.or_eq_true, Bool.and_eq_false_iff, Bool.or_eq_false_iff, Bool.not_eq_true', Bool.not_eq_false', decide_eq_true_eq, decide_eq_false_iff_not, beq_iff_eq, beq_eq_false_iff_ne, ne_eq] at hd2
        exact inij38_A xp e5 (by first | (have : pkM.length = 59 := by rfl); omega | exact pk_len _ | omega | assumption | exact trivial | (simp; omega) | (simp at *; omega)) _ h
      · skip
        have hd2 := hc2; try simp only [Bool.and_eq_true, Bool.or_eq_true, Bool.and_eq_false_iff, Bool.or_eq_false_iff, Bool.not_eq_true', Bool.not_eq_false', decide_eq_true_eq, decide_eq_false_iff_not, beq_iff_eq, beq_eq_false_iff_ne, ne_eq] at hd2
        exact inij38_A xp e5 (by first | (have : pkM.length = 59 := by rfl); omega | exact pk_len _ | omega | assumption | exact trivial | (simp; omega) | (simp at *; omega)) _ h
def inij4M (xp : Int) : (Int × Int) := (if ((decide (xp < 0)) || (decide (xp ≥ 59))) = true then (0, 0) else (if (xp == 37) = true then (2, 1024) else (inij22M xp (pkM.getD (Int.toNat xp) default))))
set_option linter.unusedSimpArgs false in
set_option linter.unusedVariables false in
theorem inij4_A (xp : Int) (P : (Int × Int) → Prop) (h : P (inij4M xp)) : inij4 xp (fun k0 => P k0) := by
  unfold inij4M at h
  unfold inij4
  refine ⟨fun hc0 => ?_, fun hc0 => ?_⟩
  · rw [if_t hc0] at h
    have hd0 := hc0; try simp only [Bool.and_eq_true, Bool.or_eq_true, Bool.and_eq_false_iff, Bool.or_eq_false_iff, Bool.not_eq_true', Bool.not_eq_false', decide_eq_true_eq, decide_eq_false_iff_not, beq_iff_eq, beq_eq_false_iff_ne, ne_eq] at hd0
    exact h
  · rw [if_f hc0] at h
    have hd0 := hc0; try simp only [Bool.and_eq_true, Bool.or_eq_true, Bool.and_eq_false_iff, Bool.or_eq_false_iff, Bool.not_eq_true', Bool.not_eq_false', decide_eq_true_eq, decide_eq_false_iff_not, beq_iff_eq, beq_eq_false_iff_ne, ne_eq] at hd0
    refine ⟨?_, ?_, ?_⟩
    · first | (have : pkM.length = 59 := by rfl); omega | exact pk_len _ | omega | assumption | exact trivial | (simp; omega) | (simp at *; omega)
    · first | (have : pkM.length = 59 := by rfl); omega | exact pk_len _ | omega | assumption | exact trivial | (simp; omega) | (simp at *; omega)
    refine ⟨fun hc1 => ?_, fun hc1 => ?_⟩
    · rw [if_t hc1] at h
      have hd1 := hc1; try simp only [Bool.and_eq_true, Bool.or_eq_true, Bool.and_eq_false_iff, Bool.or_eq_false_iff, Bool.not_eq_true', Bool.not_eq_false', decide_eq_true_eq, decide_eq_false_iff_not, beq_iff_eq, beq_eq_false_iff_ne, ne_eq] at hd1
      exact h
    · rw [if_f hc1] at h
      have hd1 := hc1; try simp only [Bool.and_eq_true, Bool.or_eq_true, Bool.and_eq_false_iff, Bool.or_eq_false_iff, Bool.not_eq_true', Bool.not_eq_false', decide_eq_true_eq, decide_eq_false_iff_not, beq_iff_eq, beq_eq_false_iff_ne, ne_eq] at hd1
      refine ⟨fun hc2 => ?_, fun hc2 => ?_⟩
      · skip
        have hd2 := of_decide_eq_true hc2
        exact inij22_A xp (pkM.getD (Int.toNat xp) default) (by first | (have : pkM.length = 59 := by rfl); omega | exact pk_len _ | omega | assumption | exact trivial | (simp; omega) | (simp at *; omega)) _ h
      · skip
        have hd2 := of_decide_eq_false hc2
        exact inij22_A xp (pkM.getD (Int.toNat xp) default) (by first | (have : pkM.length = 59 := by rfl); omega | exact pk_len _ | omega | assumption | exact trivial | (simp; omega) | (simp at *; omega)) _ h
def iniM (xp : Int) : (Int × Int) := (inij4M xp)
set_option linter.unusedSimpArgs false in
set_option linter.unusedVariables false in
theorem iniF_A (xp : Int) (P : (Int × Int) → Prop) (h : P (iniM xp)) : iniF xp (fun k0 => P k0) := by
  unfold iniM at h
  unfold iniF
  refine ⟨fun hc0 => ?_, fun hc0 => ?_⟩
  · skip
    have hd0 := of_decide_eq_true hc0
    exact inij4_A xp _ h
  · skip
    have hd0 := of_decide_eq_false hc0
    exact inij4_A xp _ h
theorem ini_F (xp : Int) : iniF xp (fun k0 => k0 = iniM xp) :=
  iniF_A xp (fun z => z = iniM xp) rfl
set_option linter.unusedVariables false in
theorem ini_c {g : Ghost} (xp : Int)  : CallsG Tryd.prog 7 #[.int .i64 xp] g (.agg #[.int .i64 (iniM xp).1, .int .i64 (iniM xp).2]) :=
  (ini_ok xp _ (ini_F xp)).gives (by rintro g' H' v _ ⟨r0, rfl, rfl, hK⟩; subst hK; rfl)
def inhrT0 : List (List UInt8) := ([([118, 105, 115, 105, 98, 105, 108, 105, 116, 121] : List UInt8), ([99, 111, 108, 111, 114] : List UInt8), ([102, 111, 110, 116, 45, 115, 105, 122, 101] : List UInt8), ([108, 105, 110, 101, 45, 104, 101, 105, 103, 104, 116] : List UInt8), ([116, 101, 120, 116, 45, 97, 108, 105, 103, 110] : List UInt8), ([116, 101, 120, 116, 45, 105, 110, 100, 101, 110, 116] : List UInt8), ([119, 104, 105, 116, 101, 45, 115, 112, 97, 99, 101] : List UInt8), ([116, 101, 120, 116, 45, 116, 114, 97, 110, 115, 102, 111, 114, 109] : List UInt8), ([108, 101, 116, 116, 101, 114, 45, 115, 112, 97, 99, 105, 110, 103] : List UInt8), ([98, 111, 114, 100, 101, 114, 45, 115, 112, 97, 99, 105, 110, 103] : List UInt8), ([108, 105, 115, 116, 45, 115, 116, 121, 108, 101, 45, 116, 121, 112, 101] : List UInt8), ([112, 111, 105, 110, 116, 101, 114, 45, 101, 118, 101, 110, 116, 115] : List UInt8)] : List (List UInt8))
def inhrj3 (xp : Int) (K : Bool → Prop) : Prop :=
  K ((decide (xp ≥ 0)) && ((decide (xp < 59)) && (isIn inhrT0 (pnM.getD (Int.toNat xp) default))))
def inhrF (xp : Int) (K : Bool → Prop) : Prop :=
  ((decide (xp ≥ 0)) = true → ((decide (xp < 59)) = true → (0 : Int) ≤ xp ∧ Int.toNat xp < pnM.length ∧ inP inhrT0 (pnM.getD (Int.toNat xp) default) ∧ inhrj3 xp K) ∧ ((decide (xp < 59)) = false → inhrj3 xp K)) ∧ ((decide (xp ≥ 0)) = false → inhrj3 xp K)
set_option maxHeartbeats 4000000 in
set_option maxRecDepth 100000 in
set_option linter.unusedVariables false in
theorem inhr_ok {g : Ghost} (xp : Int) (K : Bool → Prop)
    (hF : inhrF xp K) : CallsH Tryd.prog 9 #[.int .i64 xp] g [] (fun g' H' v => ∃ (r0 : Bool), v = .bool r0 ∧ H' = [] ∧ K r0) := by
  refine CallsH.enter 17 [(0, .int .i64 xp)] Tryd.func9 rfl (by kernel_rfl) (by kernel_rfl) (by kernel_rfl) fun w0 => ?_
  refine Ok.seq ?_
  refine Ok.region ?_
  refine Ok.batch 1 [(0, .int .i64 xp)] (by kernel_rfl) ?_
  refine Ok.nil ?_
  refine Ok.thenN ?_
  refine Ok.cut (fun a W => ∃ gj3 : Ghost, Gext w0 g gj3 ∧ StA 17 [(2, .bool ((decide (xp ≥ 0)) && ((decide (xp < 59)) && (isIn inhrT0 (pnM.getD (Int.toNat xp) default)))))] a ∧ StW w0 [] gj3 W ∧ inhrj3 xp K) ?_ ?_
  ·
    refine Ok.region ?_
    refine Ok.batch 3 [(0, .int .i64 xp), (5, .bool (decide (xp ≥ 0)))] (by kernel_rfl) ?_
    refine Ok.boolAt 5 (decide (xp ≥ 0)) rfl (fun hc1 => ?_) (fun hc1 => ?_)
    · replace hF := hF.1 hc1
      refine Ok.batch 4 [(0, .int .i64 xp), (9, .bool (decide (xp < 59)))] (by kernel_rfl) ?_
      refine Ok.boolAt 9 (decide (xp < 59)) rfl (fun hc2 => ?_) (fun hc2 => ?_)
      · replace hF := hF.1 hc2
        have hL3 : RepL g (.str) ([.string ⟨⟨([118, 105, 115, 105, 98, 105, 108, 105, 116, 121] : List UInt8)⟩⟩, .string ⟨⟨([99, 111, 108, 111, 114] : List UInt8)⟩⟩, .string ⟨⟨([102, 111, 110, 116, 45, 115, 105, 122, 101] : List UInt8)⟩⟩, .string ⟨⟨([108, 105, 110, 101, 45, 104, 101, 105, 103, 104, 116] : List UInt8)⟩⟩, .string ⟨⟨([116, 101, 120, 116, 45, 97, 108, 105, 103, 110] : List UInt8)⟩⟩, .string ⟨⟨([116, 101, 120, 116, 45, 105, 110, 100, 101, 110, 116] : List UInt8)⟩⟩, .string ⟨⟨([119, 104, 105, 116, 101, 45, 115, 112, 97, 99, 101] : List UInt8)⟩⟩, .string ⟨⟨([116, 101, 120, 116, 45, 116, 114, 97, 110, 115, 102, 111, 114, 109] : List UInt8)⟩⟩, .string ⟨⟨([108, 101, 116, 116, 101, 114, 45, 115, 112, 97, 99, 105, 110, 103] : List UInt8)⟩⟩, .string ⟨⟨([98, 111, 114, 100, 101, 114, 45, 115, 112, 97, 99, 105, 110, 103] : List UInt8)⟩⟩, .string ⟨⟨([108, 105, 115, 116, 45, 115, 116, 121, 108, 101, 45, 116, 121, 112, 101] : List UInt8)⟩⟩, .string ⟨⟨([112, 111, 105, 110, 116, 101, 114, 45, 101, 118, 101, 110, 116, 115] : List UInt8)⟩⟩] : List Value) inhrT0 := (RepL.consN (c := [.string ⟨⟨([118, 105, 115, 105, 98, 105, 108, 105, 116, 121] : List UInt8)⟩⟩]) rfl (RepL.consN (c := [.string ⟨⟨([99, 111, 108, 111, 114] : List UInt8)⟩⟩]) rfl (RepL.consN (c := [.string ⟨⟨([102, 111, 110, 116, 45, 115, 105, 122, 101] : List UInt8)⟩⟩]) rfl (RepL.consN (c := [.string ⟨⟨([108, 105, 110, 101, 45, 104, 101, 105, 103, 104, 116] : List UInt8)⟩⟩]) rfl (RepL.consN (c := [.string ⟨⟨([116, 101, 120, 116, 45, 97, 108, 105, 103, 110] : List UInt8)⟩⟩]) rfl (RepL.consN (c := [.string ⟨⟨([116, 101, 120, 116, 45, 105, 110, 100, 101, 110, 116] : List UInt8)⟩⟩]) rfl (RepL.consN (c := [.string ⟨⟨([119, 104, 105, 116, 101, 45, 115, 112, 97, 99, 101] : List UInt8)⟩⟩]) rfl (RepL.consN (c := [.string ⟨⟨([116, 101, 120, 116, 45, 116, 114, 97, 110, 115, 102, 111, 114, 109] : List UInt8)⟩⟩]) rfl (RepL.consN (c := [.string ⟨⟨([108, 101, 116, 116, 101, 114, 45, 115, 112, 97, 99, 105, 110, 103] : List UInt8)⟩⟩]) rfl (RepL.consN (c := [.string ⟨⟨([98, 111, 114, 100, 101, 114, 45, 115, 112, 97, 99, 105, 110, 103] : List UInt8)⟩⟩]) rfl (RepL.consN (c := [.string ⟨⟨([108, 105, 115, 116, 45, 115, 116, 121, 108, 101, 45, 116, 121, 112, 101] : List UInt8)⟩⟩]) rfl (RepL.consN (c := [.string ⟨⟨([112, 111, 105, 110, 116, 101, 114, 45, 101, 118, 101, 110, 116, 115] : List UInt8)⟩⟩]) rfl rfl))))))))))))
        refine Ok.opYes (j := 6) (d := 9) (want := true) (b := true) rfl (by kernel_rfl) (by kernel_rfl) rfl (OpOk.lit (E := 9) (.str) inhrT0 ([.string ⟨⟨([118, 105, 115, 105, 98, 105, 108, 105, 116, 121] : List UInt8)⟩⟩, .string ⟨⟨([99, 111, 108, 111, 114] : List UInt8)⟩⟩, .string ⟨⟨([102, 111, 110, 116, 45, 115, 105, 122, 101] : List UInt8)⟩⟩, .string ⟨⟨([108, 105, 110, 101, 45, 104, 101, 105, 103, 104, 116] : List UInt8)⟩⟩, .string ⟨⟨([116, 101, 120, 116, 45, 97, 108, 105, 103, 110] : List UInt8)⟩⟩, .string ⟨⟨([116, 101, 120, 116, 45, 105, 110, 100, 101, 110, 116] : List UInt8)⟩⟩, .string ⟨⟨([119, 104, 105, 116, 101, 45, 115, 112, 97, 99, 101] : List UInt8)⟩⟩, .string ⟨⟨([116, 101, 120, 116, 45, 116, 114, 97, 110, 115, 102, 111, 114, 109] : List UInt8)⟩⟩, .string ⟨⟨([108, 101, 116, 116, 101, 114, 45, 115, 112, 97, 99, 105, 110, 103] : List UInt8)⟩⟩, .string ⟨⟨([98, 111, 114, 100, 101, 114, 45, 115, 112, 97, 99, 105, 110, 103] : List UInt8)⟩⟩, .string ⟨⟨([108, 105, 115, 116, 45, 115, 116, 121, 108, 101, 45, 116, 121, 112, 101] : List UInt8)⟩⟩, .string ⟨⟨([112, 111, 105, 110, 116, 101, 114, 45, 101, 118, 101, 110, 116, 115] : List UInt8)⟩⟩] : List Value) (by kernel_rfl) (by kernel_rfl) rfl (by kernel_rfl) hL3 rfl fun b3 => ?_)
        refine Ok.opYes (j := 6) (d := 9) (want := true) (b := true) rfl (by kernel_rfl) (by kernel_rfl) rfl (OpOk.callH [] [.own (.slice (some ⟨b3, 0, none⟩) inhrT0.length 12) 9 1 inhrT0.length ([.string ⟨⟨([118, 105, 115, 105, 98, 105, 108, 105, 116, 121] : List UInt8)⟩⟩, .string ⟨⟨([99, 111, 108, 111, 114] : List UInt8)⟩⟩, .string ⟨⟨([102, 111, 110, 116, 45, 115, 105, 122, 101] : List UInt8)⟩⟩, .string ⟨⟨([108, 105, 110, 101, 45, 104, 101, 105, 103, 104, 116] : List UInt8)⟩⟩, .string ⟨⟨([116, 101, 120, 116, 45, 97, 108, 105, 103, 110] : List UInt8)⟩⟩, .string ⟨⟨([116, 101, 120, 116, 45, 105, 110, 100, 101, 110, 116] : List UInt8)⟩⟩, .string ⟨⟨([119, 104, 105, 116, 101, 45, 115, 112, 97, 99, 101] : List UInt8)⟩⟩, .string ⟨⟨([116, 101, 120, 116, 45, 116, 114, 97, 110, 115, 102, 111, 114, 109] : List UInt8)⟩⟩, .string ⟨⟨([108, 101, 116, 116, 101, 114, 45, 115, 112, 97, 99, 105, 110, 103] : List UInt8)⟩⟩, .string ⟨⟨([98, 111, 114, 100, 101, 114, 45, 115, 112, 97, 99, 105, 110, 103] : List UInt8)⟩⟩, .string ⟨⟨([108, 105, 115, 116, 45, 115, 116, 121, 108, 101, 45, 116, 121, 112, 101] : List UInt8)⟩⟩, .string ⟨⟨([112, 111, 105, 110, 116, 101, 114, 45, 101, 118, 101, 110, 116, 115] : List UInt8)⟩⟩] : List Value)] (enters (by kernel_rfl) (fun _ => by kernel_rfl)) rfl (pn_c ) rfl fun g4 _ _ hx4 hV4 => ?_)
        obtain ⟨a4_0, c4_0, rfl, hR4_0, rfl⟩ := hV4
        replace hL3 := hL3.mono hx4.1
        refine Ok.batch 1 [(9, .bool true), (10, .slice (some ⟨b3, 0, none⟩) inhrT0.length 12), (11, .slice a4_0 pnM.length c4_0), (12, .int .i64 xp)] (by kernel_rfl) ?_
        obtain ⟨h06, h16, hF⟩ := hF
        have he6 := get_of (l := pnM) (default : List UInt8) h16
        generalize hg6 : (pnM.getD (Int.toNat xp) default) = e6 at he6 hF ⊢
        refine Ok.opYes (j := 6) (d := 9) (want := true) (b := true) rfl (by kernel_rfl) (by kernel_rfl) rfl (OpOk.indexRo (e := .str) (i := xp) (el := e6) rfl rfl Tryd.underlying29 (by kernel_rfl) hR4_0 h06 he6 rfl fun q5 o5 cs5 _ hat5 hr5 => ?_)
        obtain rfl := hr5
        replace hat5 : At g4 q5 o5 [.string ⟨⟨e6⟩⟩] := hat5
        refine Ok.opYes (j := 6) (d := 9) (want := true) (b := true) rfl (by kernel_rfl) (by kernel_rfl) rfl (OpOk.step (v := .string ⟨⟨e6⟩⟩) (Yields.loadRo 0 hat5 (by kernel_rfl) Tryd.underlying9 rfl (by kernel_rfl)) rfl rfl ?_)
        obtain ⟨hp7, hF⟩ := hF
        refine Ok.opYes (j := 6) (d := 9) (want := true) (b := true) rfl (by kernel_rfl) (by kernel_rfl) rfl (OpOk.callG (v := .bool (isIn inhrT0 e6)) (enters (by kernel_rfl) (fun _ => by kernel_rfl)) (fun W hW => rin_c inhrT0 e6 (hW.seeOwn 0 rfl hL3) hp7) rfl ?_)
        refine Ok.batch 2 [(2, .bool (isIn inhrT0 e6))] (by kernel_rfl) ?_
        refine Ok.nil ?_
        refine Ok.thenN ?_
        subst hg6
        refine Ok.reval 2 rfl (show (.bool (isIn inhrT0 (pnM.getD (Int.toNat xp) default)) : Value) = .bool ((decide (xp ≥ 0)) && ((decide (xp < 59)) && (isIn inhrT0 (pnM.getD (Int.toNat xp) default)))) from congrArg (Value.bool) ((Eq.trans (mand_t hc2) (mand_t hc1)))) ?_
        exact fun a W hA hW => ⟨g4, hx4, hA.sub (by kernel_rfl), hW.sub (.cons _ .slnil), hF⟩
      · replace hF := hF.2 hc2
        refine Ok.batch 8 [(2, .bool false)] (by kernel_rfl) ?_
        refine Ok.nil ?_
        refine Ok.thenN ?_
        refine Ok.reval 2 rfl (show (.bool false : Value) = .bool ((decide (xp ≥ 0)) && ((decide (xp < 59)) && (isIn inhrT0 (pnM.getD (Int.toNat xp) default)))) from congrArg (Value.bool) ((Eq.trans (mand_f hc2) (mand_t hc1)))) ?_
        exact fun a W hA hW => ⟨g, (Gext.refl w0 g), hA.sub (by kernel_rfl), hW, hF⟩
    · replace hF := hF.2 hc1
      refine Ok.batch 12 [(2, .bool false)] (by kernel_rfl) ?_
      refine Ok.nil ?_
      refine Ok.thenN ?_
      refine Ok.reval 2 rfl (show (.bool false : Value) = .bool ((decide (xp ≥ 0)) && ((decide (xp < 59)) && (isIn inhrT0 (pnM.getD (Int.toNat xp) default)))) from congrArg (Value.bool) (mand_f hc1)) ?_
      exact fun a W hA hW => ⟨g, (Gext.refl w0 g), hA.sub (by kernel_rfl), hW, hF⟩
  ·
    rintro a W ⟨gj3, hxj3, hA, hW, hF⟩
    refine (?_ : Ok _ _ _ _ _ _) a W hA hW
    clear hA hW
    refine Ok.ret ?_
    exact Ok.resH (vs := [.bool ((decide (xp ≥ 0)) && ((decide (xp < 59)) && (isIn inhrT0 (pnM.getD (Int.toNat xp) default))))]) (.inl rfl) rfl (.cons (.tmp rfl) .nil) hxj3 ⟨((decide (xp ≥ 0)) && ((decide (xp < 59)) && (isIn inhrT0 (pnM.getD (Int.toNat xp) default)))), rfl, rfl, hF⟩
def inhrj3M (xp : Int) : Bool := ((decide (xp ≥ 0)) && ((decide (xp < 59)) && (isIn inhrT0 (pnM.getD (Int.toNat xp) default))))
set_option linter.unusedSimpArgs false in
set_option linter.unusedVariables false in
theorem inhrj3_A (xp : Int) (P : Bool → Prop) (h : P (inhrj3M xp)) : inhrj3 xp (fun k0 => P k0) := by
  unfold inhrj3M at h
  unfold inhrj3
  exact h
def inhrM (xp : Int) : Bool := (inhrj3M xp)
set_option linter.unusedSimpArgs false in
set_option linter.unusedVariables false in
theorem inhrF_A (xp : Int) (P : Bool → Prop) (h : P (inhrM xp)) : inhrF xp (fun k0 => P k0) := by
  unfold inhrM at h
  unfold inhrF
  refine ⟨fun hc0 => ?_, fun hc0 => ?_⟩
  · skip
    have hd0 := of_decide_eq_true hc0
    refine ⟨fun hc1 => ?_, fun hc1 => ?_⟩
    · skip
      have hd1 := of_decide_eq_true hc1
      refine ⟨?_, ?_, ?_⟩
      · first | (show List.length _ ≤ maxLen; decide) | (have : pnM.length = 59 := by rfl); omega | omega | assumption | exact trivial | (simp; omega) | (simp at *; omega)
      · first | (show List.length _ ≤ maxLen; decide) | (have : pnM.length = 59 := by rfl); omega | omega | assumption | exact trivial | (simp; omega) | (simp at *; omega)
      refine ⟨?_, ?_⟩
      · first | (show List.length _ ≤ maxLen; decide) | (have : pnM.length = 59 := by rfl); omega | omega | assumption | exact trivial | (simp; omega) | (simp at *; omega)
      exact inhrj3_A xp _ h
    · skip
      have hd1 := of_decide_eq_false hc1
      exact inhrj3_A xp _ h
  · skip
    have hd0 := of_decide_eq_false hc0
    exact inhrj3_A xp _ h
theorem inhr_F (xp : Int) : inhrF xp (fun k0 => k0 = inhrM xp) :=
  inhrF_A xp (fun z => z = inhrM xp) rfl
set_option linter.unusedVariables false in
theorem inhr_c {g : Ghost} (xp : Int)  : CallsG Tryd.prog 9 #[.int .i64 xp] g (.bool (inhrM xp)) :=
  (inhr_ok xp _ (inhr_F xp)).gives (by rintro g' H' v _ ⟨r0, rfl, rfl, hK⟩; subst hK; rfl)
def lawj5 (xp : Int) (K : Bool → Prop) : Prop :=
  K (([(((initM 37).1) == 2), (((initM 37).2) == 1024)].all id) && (([(((initM xp).1) == ((iniM xp).1)), (((initM xp).2) == ((iniM xp).2))].all id) && ((inhM xp) == (inhrM xp))))
def lawF (xp : Int) (K : Bool → Prop) : Prop :=
  ((([(((initM 37).1) == 2), (((initM 37).2) == 1024)].all id)) = true → ((([(((initM xp).1) == ((iniM xp).1)), (((initM xp).2) == ((iniM xp).2))].all id)) = true → lawj5 xp K) ∧ ((([(((initM xp).1) == ((iniM xp).1)), (((initM xp).2) == ((iniM xp).2))].all id)) = false → lawj5 xp K)) ∧ ((([(((initM 37).1) == 2), (((initM 37).2) == 1024)].all id)) = false → lawj5 xp K)
set_option maxHeartbeats 4000000 in
set_option maxRecDepth 100000 in
set_option linter.unusedVariables false in
theorem law_ok {g : Ghost} (xp : Int) (hG0 : GlobL g 0 (.pair (.int .i64) (.int .i64)) DInit) (K : Bool → Prop)
    (hF : lawF xp K) : CallsH Tryd.prog 3 #[.int .i64 xp] g [] (fun g' H' v => ∃ (r0 : Bool), v = .bool r0 ∧ H' = [] ∧ K r0) := by
  refine CallsH.enter 22 [(0, .int .i64 xp)] Tryd.func3 rfl (by kernel_rfl) (by kernel_rfl) (by kernel_rfl) fun w0 => ?_
  refine Ok.seq ?_
  refine Ok.region ?_
  refine Ok.batch 1 [(0, .int .i64 xp)] (by kernel_rfl) ?_
  refine Ok.nil ?_
  refine Ok.thenN ?_
  refine Ok.seq ?_
  refine Ok.region ?_
  refine Ok.op rfl (OpOk.callG (v := .agg #[.int .i64 ((initM 37).1), .int .i64 ((initM 37).2)]) (enters (by kernel_rfl) (fun _ => by kernel_rfl)) (fun W hW => init_c 37 (hG0.mono hW.sees)) rfl ?_)
  refine Ok.batch 1 [(0, .int .i64 xp), (4, .agg #[.int .i64 ((initM 37).1), .int .i64 ((initM 37).2)]), (5, .agg #[.int .i64 2, .int .i64 1024])] (by kernel_rfl) ?_
  refine Ok.op rfl (OpOk.step (v := .bool ([(((initM 37).1) == 2), (((initM 37).2) == 1024)].all id)) (Yields.eqAgg (k := 2) rfl rfl (.struct (k := 1) Tryd.underlying23 (by kernel_rfl) ⟨by decide, ⟨.int .i64 ((initM 37).1), .int .i64 2, fun _ => by kernel_rfl, fun _ => by kernel_rfl, EqR.mono (k := 1) (.int Tryd.underlying3) (by decide)⟩, ⟨by decide, ⟨.int .i64 ((initM 37).2), .int .i64 1024, fun _ => by kernel_rfl, fun _ => by kernel_rfl, EqR.mono (k := 1) (.int Tryd.underlying3) (by decide)⟩, trivial⟩⟩) rfl (by kernel_rfl)) rfl rfl ?_)
  refine Ok.batch 1 [(0, .int .i64 xp), (3, .bool ([(((initM 37).1) == 2), (((initM 37).2) == 1024)].all id))] (by kernel_rfl) ?_
  refine Ok.nil ?_
  refine Ok.thenN ?_
  refine Ok.cut (fun a W => StA 22 [(2, .bool (([(((initM 37).1) == 2), (((initM 37).2) == 1024)].all id) && (([(((initM xp).1) == ((iniM xp).1)), (((initM xp).2) == ((iniM xp).2))].all id) && ((inhM xp) == (inhrM xp)))))] a ∧ StW w0 [] g W ∧ lawj5 xp K) ?_ ?_
  ·
    refine Ok.region ?_
    refine Ok.batch 2 [(0, .int .i64 xp), (8, .bool ([(((initM 37).1) == 2), (((initM 37).2) == 1024)].all id))] (by kernel_rfl) ?_
    refine Ok.boolAt 8 (([(((initM 37).1) == 2), (((initM 37).2) == 1024)].all id)) rfl (fun hc1 => ?_) (fun hc1 => ?_)
    · replace hF := hF.1 hc1
      refine Ok.batch 1 [(0, .int .i64 xp), (8, .bool true), (9, .int .i64 xp)] (by kernel_rfl) ?_
      refine Ok.opYes (j := 1) (d := 8) (want := true) (b := true) rfl (by kernel_rfl) (by kernel_rfl) rfl (OpOk.callG (v := .agg #[.int .i64 ((initM xp).1), .int .i64 ((initM xp).2)]) (enters (by kernel_rfl) (fun _ => by kernel_rfl)) (fun W hW => init_c xp (hG0.mono hW.sees)) rfl ?_)
      refine Ok.batch 1 [(0, .int .i64 xp), (8, .bool true), (10, .agg #[.int .i64 ((initM xp).1), .int .i64 ((initM xp).2)]), (11, .int .i64 xp)] (by kernel_rfl) ?_
      refine Ok.opYes (j := 1) (d := 8) (want := true) (b := true) rfl (by kernel_rfl) (by kernel_rfl) rfl (OpOk.callG (v := .agg #[.int .i64 ((iniM xp).1), .int .i64 ((iniM xp).2)]) (enters (by kernel_rfl) (fun _ => by kernel_rfl)) (fun W hW => ini_c xp) rfl ?_)
      refine Ok.opYes (j := 1) (d := 8) (want := true) (b := true) rfl (by kernel_rfl) (by kernel_rfl) rfl (OpOk.step (v := .bool ([(((initM xp).1) == ((iniM xp).1)), (((initM xp).2) == ((iniM xp).2))].all id)) (Yields.eqAgg (k := 2) rfl rfl (.struct (k := 1) Tryd.underlying23 (by kernel_rfl) ⟨by decide, ⟨.int .i64 ((initM xp).1), .int .i64 ((iniM xp).1), fun _ => by kernel_rfl, fun _ => by kernel_rfl, EqR.mono (k := 1) (.int Tryd.underlying3) (by decide)⟩, ⟨by decide, ⟨.int .i64 ((initM xp).2), .int .i64 ((iniM xp).2), fun _ => by kernel_rfl, fun _ => by kernel_rfl, EqR.mono (k := 1) (.int Tryd.underlying3) (by decide)⟩, trivial⟩⟩) rfl (by kernel_rfl)) rfl rfl ?_)
      refine Ok.batch 2 [(0, .int .i64 xp), (15, .bool ([(((initM xp).1) == ((iniM xp).1)), (((initM xp).2) == ((iniM xp).2))].all id))] (by kernel_rfl) ?_
      refine Ok.boolAt 15 (([(((initM xp).1) == ((iniM xp).1)), (((initM xp).2) == ((iniM xp).2))].all id)) rfl (fun hc2 => ?_) (fun hc2 => ?_)
      · replace hF := hF.1 hc2
        refine Ok.batch 1 [(0, .int .i64 xp), (15, .bool true), (16, .int .i64 xp)] (by kernel_rfl) ?_
        refine Ok.opYes (j := 8) (d := 15) (want := true) (b := true) rfl (by kernel_rfl) (by kernel_rfl) rfl (OpOk.callG (v := .bool (inhM xp)) (enters (by kernel_rfl) (fun _ => by kernel_rfl)) (fun W hW => inh_c xp) rfl ?_)
        refine Ok.batch 1 [(15, .bool true), (17, .bool (inhM xp)), (18, .int .i64 xp)] (by kernel_rfl) ?_
        refine Ok.opYes (j := 8) (d := 15) (want := true) (b := true) rfl (by kernel_rfl) (by kernel_rfl) rfl (OpOk.callG (v := .bool (inhrM xp)) (enters (by kernel_rfl) (fun _ => by kernel_rfl)) (fun W hW => inhr_c xp) rfl ?_)
        refine Ok.batch 3 [(2, .bool ((inhM xp) == (inhrM xp)))] (by kernel_rfl) ?_
        refine Ok.nil ?_
        refine Ok.thenN ?_
        refine Ok.reval 2 rfl (show (.bool ((inhM xp) == (inhrM xp)) : Value) = .bool (([(((initM 37).1) == 2), (((initM 37).2) == 1024)].all id) && (([(((initM xp).1) == ((iniM xp).1)), (((initM xp).2) == ((iniM xp).2))].all id) && ((inhM xp) == (inhrM xp)))) from congrArg (Value.bool) ((Eq.trans (mand_t hc2) (mand_t hc1)))) ?_
        exact fun a W hA hW => ⟨hA.sub (by kernel_rfl), hW, hF⟩
      · replace hF := hF.2 hc2
        refine Ok.batch 7 [(2, .bool false)] (by kernel_rfl) ?_
        refine Ok.nil ?_
        refine Ok.thenN ?_
        refine Ok.reval 2 rfl (show (.bool false : Value) = .bool (([(((initM 37).1) == 2), (((initM 37).2) == 1024)].all id) && (([(((initM xp).1) == ((iniM xp).1)), (((initM xp).2) == ((iniM xp).2))].all id) && ((inhM xp) == (inhrM xp)))) from congrArg (Value.bool) ((Eq.trans (mand_f hc2) (mand_t hc1)))) ?_
        exact fun a W hA hW => ⟨hA.sub (by kernel_rfl), hW, hF⟩
    · replace hF := hF.2 hc1
      refine Ok.batch 14 [(2, .bool false)] (by kernel_rfl) ?_
      refine Ok.nil ?_
      refine Ok.thenN ?_
      refine Ok.reval 2 rfl (show (.bool false : Value) = .bool (([(((initM 37).1) == 2), (((initM 37).2) == 1024)].all id) && (([(((initM xp).1) == ((iniM xp).1)), (((initM xp).2) == ((iniM xp).2))].all id) && ((inhM xp) == (inhrM xp)))) from congrArg (Value.bool) (mand_f hc1)) ?_
      exact fun a W hA hW => ⟨hA.sub (by kernel_rfl), hW, hF⟩
  ·
    rintro a W ⟨hA, hW, hF⟩
    refine (?_ : Ok _ _ _ _ _ _) a W hA hW
    clear hA hW
    refine Ok.ret ?_
    exact Ok.resH (vs := [.bool (([(((initM 37).1) == 2), (((initM 37).2) == 1024)].all id) && (([(((initM xp).1) == ((iniM xp).1)), (((initM xp).2) == ((iniM xp).2))].all id) && ((inhM xp) == (inhrM xp))))]) (.inl rfl) rfl (.cons (.tmp rfl) .nil) (Gext.refl w0 g) ⟨(([(((initM 37).1) == 2), (((initM 37).2) == 1024)].all id) && (([(((initM xp).1) == ((iniM xp).1)), (((initM xp).2) == ((iniM xp).2))].all id) && ((inhM xp) == (inhrM xp)))), rfl, rfl, hF⟩
def lawj5M (xp : Int) : Bool := (([(((initM 37).1) == 2), (((initM 37).2) == 1024)].all id) && (([(((initM xp).1) == ((iniM xp).1)), (((initM xp).2) == ((iniM xp).2))].all id) && ((inhM xp) == (inhrM xp))))
set_option linter.unusedSimpArgs false in
set_option linter.unusedVariables false in
theorem lawj5_A (xp : Int) (P : Bool → Prop) (h : P (lawj5M xp)) : lawj5 xp (fun k0 => P k0) := by
  unfold lawj5M at h
  unfold lawj5
  exact h
def lawM (xp : Int) : Bool := (lawj5M xp)
set_option linter.unusedSimpArgs false in
set_option linter.unusedVariables false in
theorem lawF_A (xp : Int) (P : Bool → Prop) (h : P (lawM xp)) : lawF xp (fun k0 => P k0) := by
  unfold lawM at h
  unfold lawF
  refine ⟨fun hc0 => ?_, fun hc0 => ?_⟩
  · skip
    have hd0 := hc0; try simp only [Bool.and_eq_true, Bool.or_eq_true, Bool.and_eq_false_iff, Bool.or_eq_false_iff, Bool.not_eq_true', Bool.not_eq_false', decide_eq_true_eq, decide_eq_false_iff_not, beq_iff_eq, beq_eq_false_iff_ne, ne_eq] at hd0
    refine ⟨fun hc1 => ?_, fun hc1 => ?_⟩
    · skip
      have hd1 := hc1; try simp only [Bool.and_eq_true, Bool.or_eq_true, Bool.and_eq_false_iff, Bool.or_eq_false_iff, Bool.not_eq_true', Bool.not_eq_false', decide_eq_true_eq, decide_eq_false_iff_not, beq_iff_eq, beq_eq_false_iff_ne, ne_eq] at hd1
      exact lawj5_A xp _ h
    · skip
      have hd1 := hc1; try simp only [Bool.and_eq_true, Bool.or_eq_true, Bool.and_eq_false_iff, Bool.or_eq_false_iff, Bool.not_eq_true', Bool.not_eq_false', decide_eq_true_eq, decide_eq_false_iff_not, beq_iff_eq, beq_eq_false_iff_ne, ne_eq] at hd1
      exact lawj5_A xp _ h
  · skip
    have hd0 := hc0; try simp only [Bool.and_eq_true, Bool.or_eq_true, Bool.and_eq_false_iff, Bool.or_eq_false_iff, Bool.not_eq_true', Bool.not_eq_false', decide_eq_true_eq, decide_eq_false_iff_not, beq_iff_eq, beq_eq_false_iff_ne, ne_eq] at hd0
    exact lawj5_A xp _ h
theorem law_F (xp : Int) : lawF xp (fun k0 => k0 = lawM xp) :=
  lawF_A xp (fun z => z = lawM xp) rfl
theorem law_true (p : Int) : lawM p = true := by
  by_cases h : 0 ≤ p ∧ p < 59
  · obtain ⟨k, rfl⟩ : ∃ k : Nat, p = k := ⟨p.toNat, by omega⟩
    have key : ∀ n : Fin 59, lawM ((n : Nat) : Int) = true := by decide +kernel
    exact key ⟨k, by omega⟩
  · have hc : (decide (p < 0) || decide (p ≥ 59)) = true := by simp; omega
    have hc2 : (decide (p ≥ 0) && (decide (p < 59) && isIn inhrT0 (pnM.getD p.toNat default))) = false := by
      by_cases h0 : p ≥ 0
      · have : ¬ p < 59 := by omega
        simp [this]
      · simp [h0]
    have hc3 : ((p == 33) || ((p == 35) || ((p == 37) || ((p == 38) || ((p == 39) || ((p == 40) || ((p == 41) || ((p == 43) || ((p == 44) || ((p == 56) || ((p == 57) || (p == 58)))))))))))) = false := by simp; omega
    have e1 : initM p = (0, 0) := by unfold initM initj4M; exact if_t hc
    have e2 : iniM p = (0, 0) := by unfold iniM inij4M; exact if_t hc
    have e3 : inhrM p = false := hc2
    have e4 : inhM p = false := by unfold inhM inhj7M; exact if_f hc3
    unfold lawM lawj5M
    rw [e1, e2, e3, e4]
    decide +kernel
theorem law_all (p : Int) : lawF p (fun r => r = (fun _ => true) p) := by
  have := law_F p
  rw [law_true p] at this
  exact this
set_option linter.unusedVariables false in
theorem law_c {g : Ghost} (xp : Int) (hG0 : GlobL g 0 (.pair (.int .i64) (.int .i64)) DInit)  : CallsG Tryd.prog 3 #[.int .i64 xp] g (.bool ((fun _ => true) xp)) :=
  (law_ok xp hG0 _ (law_all xp)).gives (by rintro g' H' v _ ⟨r0, rfl, rfl, hK⟩; subst hK; rfl)
end Go.Proofs.YtejkloinamgpaaaDoor.StI
