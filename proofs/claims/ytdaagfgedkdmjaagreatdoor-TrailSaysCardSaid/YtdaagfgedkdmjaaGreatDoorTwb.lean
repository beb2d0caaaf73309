/- Trails: Check. -/
import Derived.Test.YtdaagfgedkdmjaaGreatDoorTwa
namespace Go.Proofs.YtdaagfgedkdmjaaGreatDoor.Ub
open Go Go.Eng Go.RowKit Go.Shelf Go.Proofs Bld Sp Ti Uc Ua Ui
set_option maxHeartbeats 4000000
set_option maxRecDepth 100000
set_option linter.unusedSimpArgs false
set_option linter.unusedVariables false
noncomputable section
theorem plc_sch (u : JU) (s : Bs) : (plcS u s).2.1 = u.1 := by
 rw [plcS_eq]
 unfold plcS0
 split
 ·rfl
 ·split
  ·rfl
  ·split
   ·rfl
   ·split <;> rfl
theorem sch_ne (s : Bs) (h : (schS s).2.2 = true) : (schS s).1 ≠ [] := by
 rw [sch_eq] at h ⊢
 split at h
 ·rename_i hc
  rw [if_pos hc]
  simp only [Bool.and_eq_true, Bool.not_eq_true', beq_eq_false_iff_ne] at hc
  intro h0
  have h0 : lowS (s.takeWhile (ne1 58)) = [] := h0
  have hl : (lowS (s.takeWhile (ne1 58))).length = (s.takeWhile (ne1 58)).length := by unfold lowS; rw [List.length_map]
  rw [h0] at hl
  exact hc.2.2 hl.symm
 ·cases h
theorem par_sch (s : Bs) (h : (parS s).2 = 0) : (parS s).1.1 ≠ [] := by
 rw [parS_eq] at h ⊢
 unfold parS0 at h ⊢
 split at h
 ·exact absurd (show (2 : Int) = 0 from h) (by decide)
 ·rename_i h1
  rw [if_neg h1]
  split at h
  ·exact absurd (show (3 : Int) = 0 from h) (by decide)
  ·rename_i h2
   rw [if_neg h2]
   split at h
   ·exact absurd (show (3 : Int) = 0 from h) (by decide)
   ·rename_i h3
    rw [if_neg h3]
    split at h
    ·exact absurd (show (3 : Int) = 0 from h) (by decide)
    ·rename_i h4
     rw [if_neg h4]
     have hs : (schS s).2.2 = true := by
      cases hc : (schS s).2.2
      ·rw [hc] at h2; exact absurd rfl h2
      ·rfl
     have e1 : (parT s).2.2.1 = (parP s).2.1 := (tail_keep _ _).1
     have e2 : (parP s).2.1 = (schS s).1 := plc_sch _ _
     show (parT s).2.2.1 ≠ []
     rw [e1, e2]
     exact sch_ne s hs
theorem par_bad (s : Bs) (h : (parS s).2 ≠ 0) : (parS s).1 = ju0 := by
 rw [parS_eq] at h ⊢
 unfold parS0 at h ⊢
 split
 ·rfl
 ·rename_i h1
  rw [if_neg h1] at h
  split
  ·rfl
  ·rename_i h2
   rw [if_neg h2] at h
   split
   ·rfl
   ·rename_i h3
    rw [if_neg h3] at h
    split
    ·rfl
    ·rename_i h4
     rw [if_neg h4] at h
     exact absurd rfl h
def wcnj5 (xs : Bs) (K : Bool → Prop) : Prop :=
 K (((resS xs xs).2 == 0) && ((resS xs xs).1 == xs))
def wcnF (xs : Bs) (K : Bool → Prop) : Prop :=
 ((((resS xs xs).2 == 0)) = true → wcnj5 xs K) ∧ ((((resS xs xs).2 == 0)) = false → wcnj5 xs K)
theorem wcn_ok {g : Ghost} (xs : Bs) (hG0 : SomeInt g 0) (hG1 : GlobL g 1 (.int .u64) DPow) (hG2 : SomeIf g 2) (hG3 : SomeIf g 3) (hG4 : GlobL g 4 (.int .u8) DFirst) (hG5 : GlobL g 5 (.pair (.int .u8) (.int .u8)) DAcc) (K : Bool → Prop)
  (hF : wcnF xs K) : CallsH Tryz.prog 34 #[sv xs] g [] (fun g' H' v => ∃ (r0 : Bool), v = .bool r0 ∧ H' = [] ∧ K r0) := by
 refine CallsH.enter 18 [(0, sv xs)] Tryz.func34 rfl (by kernel_rfl) (by kernel_rfl) (by kernel_rfl) fun w0 => ?_
 refine Ok.seq (Ok.region (Ok.batch 1 [(0, sv xs)] (by kernel_rfl) (Ok.nil (Ok.thenN (Ok.seq (Ok.region (Ok.bat 2 [0] [(6, sv xs), (7, sv xs)] ?_)))))))
 refine Ok.op rfl (OpOk.callG (v := .tuple #[sv ((resS xs xs).1), .int .i64 (resS xs xs).2]) enr (fun W hW => ures_c xs xs (hG0.mono hW.sees) (hG1.mono hW.sees) (hG2.mono hW.sees) (hG3.mono hW.sees) (hG4.mono hW.sees) (hG5.mono hW.sees)) rfl ?_)
 refine Ok.bat 5 [0] [(3, sv ((resS xs xs).1)), (4, .int .i64 (resS xs xs).2)] ?_
 refine Ok.nil (Ok.thenN (Ok.cut (fun a W => StA 18 [(2, .bool (((resS xs xs).2 == 0) && ((resS xs xs).1 == xs)))] a ∧ StW w0 [] g W ∧ wcnj5 xs K) ?_ ?_))
 ·
  refine Ok.region (Ok.bat 3 [0, 3] [(13, .bool ((resS xs xs).2 == 0))] ?_)
  refine Ok.boolAt 13 (((resS xs xs).2 == 0)) rfl (fun hc1 => ?_) (fun hc1 => ?_)
  ·replace hF := hF.1 hc1
   refine Ok.batch 2 [(13, .bool true), (14, sv ((resS xs xs).1)), (15, sv xs)] (by kernel_rfl) (Ok.opYes (j := 2) (d := 13) (want := true) (b := true) rfl (by kernel_rfl) (by kernel_rfl) rfl (OpOk.step (v := .bool ((resS xs xs).1 == xs)) (Yields.strCmp (f := .eql) (a := (resS xs xs).1) (b := xs) (by kernel_rfl) (by kernel_rfl) rfl) rfl rfl (Ok.batch 2 [(2, .bool ((resS xs xs).1 == xs))] (by kernel_rfl) (Ok.nil (Ok.thenN (Ok.reval 2 rfl (show (.bool ((resS xs xs).1 == xs) : Value) = .bool (((resS xs xs).2 == 0) && ((resS xs xs).1 == xs)) from congrArg (Value.bool) (mand_t hc1)) ?_))))))
   exact fun a W hA hW => ⟨hA.sub (by kernel_rfl), hW, hF⟩
  ·replace hF := hF.2 hc1
   refine Ok.batch 5 [(2, .bool false)] (by kernel_rfl) (Ok.nil (Ok.thenN (Ok.reval 2 rfl (show (.bool false : Value) = .bool (((resS xs xs).2 == 0) && ((resS xs xs).1 == xs)) from congrArg (Value.bool) (mand_f hc1)) ?_)))
   exact fun a W hA hW => ⟨hA.sub (by kernel_rfl), hW, hF⟩
 ·
  clear hF
  rintro a W ⟨hA, hW, hF⟩
  refine (?_ : Ok _ _ _ _ _ _) a W hA hW
  clear hA hW
  refine Ok.ret ?_
  exact Ok.resH (vs := [.bool (((resS xs xs).2 == 0) && ((resS xs xs).1 == xs))]) (.inl rfl) rfl (.cons (.tmp rfl) .nil) (Gext.refl w0 g) ⟨(((resS xs xs).2 == 0) && ((resS xs xs).1 == xs)), rfl, rfl, hF⟩
def wcnj5M (xs : Bs) : Bool := (((resS xs xs).2 == 0) && ((resS xs xs).1 == xs))
theorem wcnj5_A (xs : Bs) (P : Bool → Prop) (h : P (wcnj5M xs)) : wcnj5 xs (fun k0 => P k0) := by
 unfold wcnj5M at h
 unfold wcnj5
 exact h
def wcnM (xs : Bs) : Bool := (wcnj5M xs)
theorem wcnF_A (xs : Bs) (P : Bool → Prop) (h : P (wcnM xs)) : wcnF xs (fun k0 => P k0) := by
 unfold wcnM at h
 unfold wcnF
 refine ⟨fun hc0 => ?_, fun hc0 => ?_⟩
 ·skip
  have hd0 := hc0; try simp only [Bool.and_eq_true, Bool.or_eq_true, Bool.and_eq_false_iff, Bool.or_eq_false_iff, Bool.not_eq_true', Bool.not_eq_false', decide_eq_true_eq, decide_eq_false_iff_not, beq_iff_eq, beq_eq_false_iff_ne, ne_eq] at hd0
  exact wcnj5_A xs _ h
 ·skip
  have hd0 := hc0; try simp only [Bool.and_eq_true, Bool.or_eq_true, Bool.and_eq_false_iff, Bool.or_eq_false_iff, Bool.not_eq_true', Bool.not_eq_false', decide_eq_true_eq, decide_eq_false_iff_not, beq_iff_eq, beq_eq_false_iff_ne, ne_eq] at hd0
  exact wcnj5_A xs _ h
theorem wcn_F (xs : Bs) : wcnF xs (fun k0 => k0 = wcnM xs) :=
 wcnF_A xs (fun z => z = wcnM xs) rfl
theorem wcn_c {g : Ghost} (xs : Bs) (hG0 : SomeInt g 0) (hG1 : GlobL g 1 (.int .u64) DPow) (hG2 : SomeIf g 2) (hG3 : SomeIf g 3) (hG4 : GlobL g 4 (.int .u8) DFirst) (hG5 : GlobL g 5 (.pair (.int .u8) (.int .u8)) DAcc)  : CallsG Tryz.prog 34 #[sv xs] g (.bool (wcnM xs)) :=
 (wcn_ok xs hG0 hG1 hG2 hG3 hG4 hG5 _ (wcn_F xs)).gives (by rintro g' H' v _ ⟨r0, rfl, rfl, hK⟩; subst hK; rfl)
def worF (xs : Bs) (K : Bs → Prop) : Prop :=
 K (OriS xs).1
theorem wor_ok {g : Ghost} (xs : Bs) (hG0 : SomeInt g 0) (hG1 : GlobL g 1 (.int .u64) DPow) (hG2 : SomeIf g 2) (hG3 : SomeIf g 3) (hG4 : GlobL g 4 (.int .u8) DFirst) (hG5 : GlobL g 5 (.pair (.int .u8) (.int .u8)) DAcc) (K : Bs → Prop)
  (hF : worF xs K) : CallsH Tryz.prog 45 #[sv xs] g [] (fun g' H' v => ∃ (r0 : Bs), v = sv r0 ∧ H' = [] ∧ K r0) := by
 refine CallsH.enter 11 [(0, sv xs)] Tryz.func45 rfl (by kernel_rfl) (by kernel_rfl) (by kernel_rfl) fun w0 => ?_
 refine Ok.seq (Ok.region (Ok.batch 1 [(0, sv xs)] (by kernel_rfl) (Ok.nil (Ok.thenN (Ok.seq (Ok.region (Ok.batch 1 [(6, sv xs)] (by kernel_rfl) (Ok.op rfl (OpOk.callG (v := .tuple #[sv ((OriS xs).1), .int .i64 (OriS xs).2]) enr (fun W hW => uOri_c xs (hG0.mono hW.sees) (hG1.mono hW.sees) (hG2.mono hW.sees) (hG3.mono hW.sees) (hG4.mono hW.sees) (hG5.mono hW.sees)) rfl ?_)))))))))
 refine Ok.batch 5 [(3, sv ((OriS xs).1))] (by kernel_rfl) (Ok.nil (Ok.thenN (Ok.seq (Ok.region (Ok.batch 2 [(2, sv ((OriS xs).1))] (by kernel_rfl) (Ok.nil (Ok.thenN (Ok.ret ?_))))))))
 exact Ok.resH (vs := [sv ((OriS xs).1)]) (.inl rfl) rfl (.cons (.tmp rfl) .nil) (Gext.refl w0 g) ⟨(OriS xs).1, rfl, rfl, hF⟩
def worM (xs : Bs) : Bs := (OriS xs).1
theorem worF_A (xs : Bs) (P : Bs → Prop) (h : P (worM xs)) : worF xs (fun k0 => P k0) := by
 unfold worM at h
 unfold worF
 exact h
theorem wor_F (xs : Bs) : worF xs (fun k0 => k0 = worM xs) :=
 worF_A xs (fun z => z = worM xs) rfl
theorem wor_c {g : Ghost} (xs : Bs) (hG0 : SomeInt g 0) (hG1 : GlobL g 1 (.int .u64) DPow) (hG2 : SomeIf g 2) (hG3 : SomeIf g 3) (hG4 : GlobL g 4 (.int .u8) DFirst) (hG5 : GlobL g 5 (.pair (.int .u8) (.int .u8)) DAcc)  : CallsG Tryz.prog 45 #[sv xs] g (sv (worM xs)) :=
 (wor_ok xs hG0 hG1 hG2 hG3 hG4 hG5 _ (wor_F xs)).gives (by rintro g' H' v _ ⟨r0, rfl, rfl, hK⟩; subst hK; rfl)
theorem wor_ok1 {s : Bs} (h : (parS s).2 = 0) : worM s = oriS (parS s).1 := by
 unfold worM
 rw [OriS_eq]
 unfold OriS0
 rw [if_f (by rw [h]; rfl)]
theorem wor_bad {s : Bs} (h : (parS s).2 ≠ 0) : worM s = [] := by
 unfold worM
 rw [OriS_eq]
 unfold OriS0
 rw [if_t (by simpa using h)]
theorem cln_par {s : Bs} (h : wcnM s = true) : (parS s).2 = 0 := by
 have h : ((resS s s).2 == 0 && (resS s s).1 == s) = true := h
 rw [Bool.and_eq_true] at h
 have h := beq_iff_eq.1 h.1
 rw [resS_eq] at h
 unfold resS0 at h
 split at h
 ·exact h
 ·rename_i h1
  simpa using h1
theorem ori_long (u : JU) : u.1.length + 3 ≤ (oriS u).length := by
 unfold oriS
 split <;> simp only [List.length_append, List.length_cons, List.length_nil] <;> omega
theorem wor_same {s t : Bs} (ht : (parS t).2 = 0) : (worM s == worM t) = (oriS (parS s).1 == oriS (parS t).1) := by
 rw [wor_ok1 ht]
 by_cases hs : (parS s).2 = 0
 ·rw [wor_ok1 hs]
 ·rw [wor_bad hs, par_bad s hs]
  have h1 := ori_long (parS t).1
  have h2 := par_sch t ht
  have h3 : (parS t).1.1.length ≠ 0 := fun h => h2 (List.length_eq_zero_iff.1 h)
  have e1 : ([] == oriS (parS t).1) = false := by
   rw [beq_eq_false_iff_ne]; intro h; have := congrArg List.length h; rw [List.length_nil] at this; omega
  have e2 : (oriS ju0 == oriS (parS t).1) = false := by
   rw [beq_eq_false_iff_ne]; intro h
   have h4 := congrArg List.length h
   have h5 : (oriS ju0).length = 3 := by decide
   omega
  rw [e1, e2]
theorem jtake_snoc {l : List JEn} {i : Nat} (h : i < l.length) : l.take (i + 1) = l.take i ++ [l.getD i default] := by
 rw [List.take_add_one, List.getD_eq_getElem?_getD]; simp [List.getElem?_eq_getElem h]
/-! entries of one document -/
def wdcV0 (xl : List (Bs × Bs × Int)) (e4 : Bs × Bs × Int) (x9l9 : Int) : Bool :=
 ((decide (x9l9 > 0)) && ((xl.getD (Int.toNat (w6 (x9l9 - 1))) default).2.2 == e4.2.2))
def wdcj16 (x9l9 : Int) (yb1_0j16 : List ((Int) × (Int))) (C9 : Int → (List ((Int) × (Int))) → Prop) : Prop :=
 C9 (w6 (x9l9 + 1)) yb1_0j16
def wdcj43 (xl : List (Bs × Bs × Int)) (K : Bool → Prop) (x50j43 : Bool) (x9l9 : Int) (yb1_0l9 : List ((Int) × (Int))) (C9 : Int → (List ((Int) × (Int))) → Prop) : Prop :=
 ((x50j43) = true → K false) ∧ ((x50j43) = false → wdcj16 x9l9 (putK (xl.getD (Int.toNat x9l9) default).2.2 1 yb1_0l9) C9)
def wdcj29 (xl : List (Bs × Bs × Int)) (K : Bool → Prop) (e4 : Bs × Bs × Int) (x9l9 : Int) (yb1_0l9 : List ((Int) × (Int))) (C9 : Int → (List ((Int) × (Int))) → Prop) : Prop :=
 (((wdcV0 xl e4 x9l9)) = true → (0 : Int) ≤ (w6 (x9l9 - 1)) ∧ Int.toNat (w6 (x9l9 - 1)) < xl.length ∧ ((!((worM (xl.getD (Int.toNat (w6 (x9l9 - 1))) default).1) == (worM e4.1))) = true → K false) ∧ ((!((worM (xl.getD (Int.toNat (w6 (x9l9 - 1))) default).1) == (worM e4.1))) = false → wdcj16 x9l9 yb1_0l9 C9)) ∧ (((wdcV0 xl e4 x9l9)) = false → (∀ e13 : Int, assocK e4.2.2 yb1_0l9 = some e13 → wdcj43 xl K (e13 == 1) x9l9 yb1_0l9 C9) ∧ (assocK e4.2.2 yb1_0l9 = none → wdcj43 xl K false x9l9 yb1_0l9 C9))
def wdcj21 (xl : List (Bs × Bs × Int)) (K : Bool → Prop) (e4 : Bs × Bs × Int) (x9l9 : Int) (yb1_0l9 : List ((Int) × (Int))) (C9 : Int → (List ((Int) × (Int))) → Prop) : Prop :=
 ((((decide (e4.2.2 < 0)) || (decide (e4.2.2 > 1000000)))) = true → K false) ∧ ((((decide (e4.2.2 < 0)) || (decide (e4.2.2 > 1000000)))) = false → ((decide (x9l9 > 0)) = true → (0 : Int) ≤ (w6 (x9l9 - 1)) ∧ Int.toNat (w6 (x9l9 - 1)) < xl.length ∧ wdcj29 xl K e4 x9l9 yb1_0l9 C9) ∧ ((decide (x9l9 > 0)) = false → wdcj29 xl K e4 x9l9 yb1_0l9 C9))
def wdcl9b (xl : List (Bs × Bs × Int)) (K : Bool → Prop) (x9l9 : Int) (yb1_0l9 : List ((Int) × (Int))) (C9 : Int → (List ((Int) × (Int))) → Prop) : Prop :=
 ((decide (x9l9 < (xl.length : Int))) = true → (0 : Int) ≤ x9l9 ∧ Int.toNat x9l9 < xl.length ∧ ((decide ((xl.getD (Int.toNat x9l9) default).2.2 < 0)) = true → wdcj21 xl K (xl.getD (Int.toNat x9l9) default) x9l9 yb1_0l9 C9) ∧ ((decide ((xl.getD (Int.toNat x9l9) default).2.2 < 0)) = false → wdcj21 xl K (xl.getD (Int.toNat x9l9) default) x9l9 yb1_0l9 C9)) ∧ ((decide (x9l9 < (xl.length : Int))) = false → K true)
def wdcl9 (xl : List (Bs × Bs × Int)) (K : Bool → Prop) : Nat → Int → (List ((Int) × (Int))) → Prop
 | 0, _, _ => False
 | k + 1, x9l9, yb1_0l9 => wdcl9b xl K x9l9 yb1_0l9 (wdcl9 xl K k)
def wdcF (xl : List (Bs × Bs × Int)) (K : Bool → Prop) : Prop :=
 ∃ k, wdcl9 xl K k 0 ([] : List ((Int) × (Int)))
theorem wdc_ok {g : Ghost} {axl_0 : Option Addr} {cxl_0 : Nat} (xl : List (Bs × Bs × Int)) (hRxl_0 : Rep g (.slice (.pair (.str) (.pair (.str) (.int .i64)))) [.slice axl_0 xl.length cxl_0] xl) (hG0 : SomeInt g 0) (hG1 : GlobL g 1 (.int .u64) DPow) (hG2 : SomeIf g 2) (hG3 : SomeIf g 3) (hG4 : GlobL g 4 (.int .u8) DFirst) (hG5 : GlobL g 5 (.pair (.int .u8) (.int .u8)) DAcc) (K : Bool → Prop)
  (hF : wdcF xl K) : CallsH Tryz.prog 35 #[.slice axl_0 xl.length cxl_0] g [] (fun g' H' v => ∃ (r0 : Bool), v = .bool r0 ∧ H' = [] ∧ K r0) := by
 refine CallsH.enter 55 [(0, .slice axl_0 xl.length cxl_0)] Tryz.func35 rfl (by kernel_rfl) (by kernel_rfl) (by kernel_rfl) fun w0 => ?_
 refine Ok.seq (Ok.region (Ok.batch 1 [(0, .slice axl_0 xl.length cxl_0)] (by kernel_rfl) (Ok.nil (Ok.thenN (Ok.seq (Ok.region (Ok.op rfl (OpOk.makeMap (.int .i64) false (kt := (Value.int .i64)) rfl fun b1 hM1 => ?_))))))))
 refine Ok.bat 1 [0] [(3, .map (some b1))] ?_
 refine Ok.nil (Ok.thenN (Ok.seq (Ok.seq (Ok.region (Ok.bat 3 [0, 3] [(7, .slice axl_0 xl.length cxl_0), (8, .int .i64 (xl.length : Int)), (9, .int .i64 0)] ?_)))))
 refine Ok.nil (Ok.thenN (Ok.block ?_))
 obtain ⟨k, hF⟩ := hF
 refine Ok.loop (fun k a W => ∃ (x9l9 : Int) (esyb1_0l9 : Array MapEntry) (ckyb1_0l9 : Nat) (yb1_0l9 : List ((Int) × (Int))), RepMap g (.int .i64) false (Value.int .i64) esyb1_0l9.toList yb1_0l9 ∧ StA 55 [(0, .slice axl_0 xl.length cxl_0), (3, .map (some b1)), (7, .slice axl_0 xl.length cxl_0), (8, .int .i64 (xl.length : Int)), (9, .int .i64 x9l9)] a ∧ StW w0 [.blk b1 (.map esyb1_0l9 ckyb1_0l9)] g W ∧ wdcl9 xl K k x9l9 yb1_0l9) k ?_ ?_
 ·
  exact fun a W hA hW => ⟨0, (#[] : Array MapEntry), 0, ([] : List ((Int) × (Int))), hM1, hA.sub (by kernel_rfl), hW, hF⟩
 ·
  clear hF
  rintro k9 a W ⟨x9l9, esyb1_0l9, ckyb1_0l9, yb1_0l9, hMyb1_0l9, hA, hW, hF⟩
  cases k9 with
  | zero => exact (hF : False).elim
  | succ k9 =>
   refine (?_ : Ok _ _ _ _ _ _) a W hA hW
   clear hA hW
   refine Ok.seq (Ok.region (Ok.bat 1 [0, 3, 7, 8, 9] [(10, .bool (decide (x9l9 < (xl.length : Int))))] ?_))
   refine Ok.nil (Ok.thenN (Ok.seq (Ok.cond (b := decide (x9l9 < (xl.length : Int))) rfl (fun hc2 => ?_) (fun hc2 => ?_))))
   ·replace hF := hF.1 hc2
    refine Ok.skip (Ok.thenN (Ok.cut (fun a W => ∃ (esyb1_0j16 : Array MapEntry) (ckyb1_0j16 : Nat) (yb1_0j16 : List ((Int) × (Int))), RepMap g (.int .i64) false (Value.int .i64) esyb1_0j16.toList yb1_0j16 ∧ StA 55 [(0, .slice axl_0 xl.length cxl_0), (3, .map (some b1)), (7, .slice axl_0 xl.length cxl_0), (8, .int .i64 (xl.length : Int)), (9, .int .i64 x9l9)] a ∧ StW w0 [.blk b1 (.map esyb1_0j16 ckyb1_0j16)] g W ∧ wdcj16 x9l9 yb1_0j16 (wdcl9 xl K k9)) ?_ ?_))
    ·
     refine Ok.block (Ok.seq (Ok.region (Ok.bat 1 [0, 3, 7, 8, 9] [(11, .int .i64 x9l9)] ?_)))
     obtain ⟨h04, h14, hF⟩ := hF
     have he4 := get_of (l := xl) (default : Bs × Bs × Int) h14
     generalize hg4 : (xl.getD (Int.toNat x9l9) default) = e4 at he4 hF ⊢
     refine Ok.op rfl (OpOk.indexRo (e := .pair (.str) (.pair (.str) (.int .i64))) (i := x9l9) (el := e4) rfl rfl Tryz.underlying22 (by kernel_rfl) hRxl_0 h04 he4 rfl fun q3 o3 cs3 _ hat3 hr3 => ?_)
     obtain ⟨_, _, rfl, rfl, ⟨_, _, rfl, rfl, rfl⟩⟩ := hr3
     replace hat3 : At g q3 o3 (vE e4) := hat3
     refine Ok.op rfl (OpOk.step (v := .agg ⟨vE e4⟩) (Yields.loadAggRo 0 3 ⟨vE e4⟩ hat3 (by kernel_rfl) Tryz.underlying36 rfl (by kernel_rfl) (by kernel_rfl) (by kernel_rfl)) rfl rfl (Ok.op rfl (OpOk.alloc (z := .agg #[sv ([] : Bs), sv ([] : Bs), .int .i64 0]) (cs := #[sv ([] : Bs), sv ([] : Bs), .int .i64 0]) (by kernel_rfl) (by kernel_rfl) rfl fun b5 => ?_)))
     refine Ok.bat 1 [0, 3, 7, 8, 9] [(4, .int .i64 x9l9), (5, pv b5 0), (13, .agg ⟨vE e4⟩)] ?_
     refine Ok.op rfl (OpOk.sto (k := 3) (v := .agg ⟨vE e4⟩) 0 ⟨vE e4⟩ rfl rfl rfl ?_)
     refine Ok.nil (Ok.thenN (Ok.seq (Ok.cut (fun a W => StA 55 [(0, .slice axl_0 xl.length cxl_0), (3, .map (some b1)), (4, .int .i64 x9l9), (5, pv b5 0), (7, .slice axl_0 xl.length cxl_0), (8, .int .i64 (xl.length : Int)), (9, .int .i64 x9l9), (21, .bool ((decide (e4.2.2 < 0)) || (decide (e4.2.2 > 1000000))))] a ∧ StW w0 [.blk b5 (.cells ⟨vE e4⟩ 36), .blk b1 (.map esyb1_0l9 ckyb1_0l9)] g W ∧ wdcj21 xl K e4 x9l9 yb1_0l9 (wdcl9 xl K k9)) ?_ ?_)))
     ·
      refine Ok.region (Ok.bat 1 [0, 3, 4, 5, 7, 8, 9] [(14, pv b5 2)] ?_)
      refine Ok.op rfl (OpOk.step (v := .int .i64 e4.2.2) (Yields.load 0 rfl rfl Tryz.underlying3 rfl (by kernel_rfl)) rfl rfl (Ok.bat 2 [0, 3, 4, 5, 7, 8, 9] [(17, .bool (decide (e4.2.2 < 0)))] ?_))
      refine Ok.boolAt 17 (decide (e4.2.2 < 0)) rfl (fun hc17 => ?_) (fun hc17 => ?_)
      ·replace hF := hF.1 hc17
       refine Ok.bat 4 [0, 3, 4, 5, 7, 8, 9] [(21, .bool true)] ?_
       refine Ok.nil (Ok.thenN (Ok.reval 21 rfl (show (.bool true : Value) = .bool ((decide (e4.2.2 < 0)) || (decide (e4.2.2 > 1000000))) from congrArg (Value.bool) (mor_t hc17)) ?_))
       exact fun a W hA hW => ⟨hA.sub (by kernel_rfl), hW, hF⟩
      ·replace hF := hF.2 hc17
       refine Ok.bat 1 [0, 3, 4, 5, 7, 8, 9] [(17, .bool false), (18, pv b5 2)] ?_
       refine Ok.opYes (j := 3) (d := 17) (want := false) (b := false) rfl (by kernel_rfl) (by kernel_rfl) rfl (OpOk.step (v := .int .i64 e4.2.2) (Yields.load 0 rfl rfl Tryz.underlying3 rfl (by kernel_rfl)) rfl rfl (Ok.bat 2 [0, 3, 4, 5, 7, 8, 9] [(21, .bool (decide (e4.2.2 > 1000000)))] ?_))
       refine Ok.nil (Ok.thenN (Ok.reval 21 rfl (show (.bool (decide (e4.2.2 > 1000000)) : Value) = .bool ((decide (e4.2.2 < 0)) || (decide (e4.2.2 > 1000000))) from congrArg (Value.bool) (mor_f hc17)) ?_))
       exact fun a W hA hW => ⟨hA.sub (by kernel_rfl), hW, hF⟩
     ·
      clear hF
      rintro a W ⟨hA, hW, hF⟩
      refine (?_ : Ok _ _ _ _ _ _) a W hA hW
      clear hA hW
      refine Ok.cond (b := ((decide (e4.2.2 < 0)) || (decide (e4.2.2 > 1000000)))) rfl (fun hc6 => ?_) (fun hc6 => ?_)
      ·replace hF := hF.1 hc6
       refine Ok.seq (Ok.region (Ok.batch 1 [(2, .bool false)] (by kernel_rfl) (Ok.nil (Ok.thenN (Ok.ret (Ok.thenR (Ok.blockR (Ok.thenR (Ok.thenR (Ok.blockR (Ok.thenR ?_)))))))))))
       exact Ok.resP (vs := [.bool false]) [] [] (by decide) rfl (.inl rfl) rfl (.cons (.tmp rfl) .nil) (Gext.refl w0 g) ⟨false, rfl, rfl, hF⟩
      ·replace hF := hF.2 hc6
       refine Ok.skip (Ok.thenN (Ok.seq (Ok.cut (fun a W => StA 55 [(0, .slice axl_0 xl.length cxl_0), (3, .map (some b1)), (4, .int .i64 x9l9), (5, pv b5 0), (7, .slice axl_0 xl.length cxl_0), (8, .int .i64 (xl.length : Int)), (9, .int .i64 x9l9), (34, .bool (wdcV0 xl e4 x9l9))] a ∧ StW w0 [.blk b5 (.cells ⟨vE e4⟩ 36), .blk b1 (.map esyb1_0l9 ckyb1_0l9)] g W ∧ wdcj29 xl K e4 x9l9 yb1_0l9 (wdcl9 xl K k9)) ?_ ?_)))
       ·
        refine Ok.quiet' (by kernel_rfl) (by kernel_rfl) (OkQ.bat 3 [0, 3, 4, 5, 7, 8, 9] [(24, .bool (decide (x9l9 > 0)))] ?_)
        refine OkQ.boolAt 24 (decide (x9l9 > 0)) rfl (fun hc14 => ?_) (fun hc14 => ?_)
        ·replace hF := hF.1 hc14
         refine OkQ.bat 3 [0, 3, 4, 5, 7, 8, 9] [(24, .bool true), (25, .slice axl_0 xl.length cxl_0), (27, .int .i64 (w6 (x9l9 - 1)))] ?_
         obtain ⟨h016, h116, hF⟩ := hF
         have he16 := get_of (l := xl) (default : Bs × Bs × Int) h116
         generalize hg16 : (xl.getD (Int.toNat (w6 (x9l9 - 1))) default) = e16 at he16 hF ⊢
         refine OkQ.opYes (j := 2) (d := 24) (want := true) (b := true) rfl (by kernel_rfl) (by kernel_rfl) rfl (OpQ.indexRo (e := .pair (.str) (.pair (.str) (.int .i64))) (i := w6 (x9l9 - 1)) (el := e16) rfl rfl Tryz.underlying22 (by kernel_rfl) hRxl_0 h016 he16 rfl fun q15 o15 cs15 _ hat15 hr15 => ?_)
         obtain ⟨_, _, rfl, rfl, ⟨_, _, rfl, rfl, rfl⟩⟩ := hr15
         replace hat15 : At g q15 o15 (vE e16) := hat15
         refine OkQ.bat 1 [0, 3, 4, 5, 7, 8, 9, 24] [(29, .pointer (some ⟨q15, o15 + 2, none⟩))] ?_
         refine OkQ.opYes (j := 2) (d := 24) (want := true) (b := true) rfl (by kernel_rfl) (by kernel_rfl) rfl (OpQ.step (v := .int .i64 e16.2.2) (Yields.loadRo 2 hat15 (by kernel_rfl) Tryz.underlying3 rfl (by kernel_rfl)) rfl rfl (OkQ.bat 1 [0, 3, 4, 5, 7, 8, 9, 24] [(30, .int .i64 e16.2.2), (31, pv b5 2)] ?_))
         refine OkQ.opYes (j := 2) (d := 24) (want := true) (b := true) rfl (by kernel_rfl) (by kernel_rfl) rfl (OpQ.step (v := .int .i64 e4.2.2) (Yields.load 0 rfl rfl Tryz.underlying3 rfl (by kernel_rfl)) rfl rfl (OkQ.bat 2 [0, 3, 4, 5, 7, 8, 9] [(34, .bool (e16.2.2 == e4.2.2))] ?_))
         refine OkQ.nil (Ok.thenN ?_)
         subst hg16
         refine Ok.reval 34 rfl (show (.bool ((xl.getD (Int.toNat (w6 (x9l9 - 1))) default).2.2 == e4.2.2) : Value) = .bool (wdcV0 xl e4 x9l9) from congrArg (Value.bool) (mand_t hc14)) ?_
         exact fun a W hA hW => ⟨hA.sub (by kernel_rfl), hW, hF⟩
        ·replace hF := hF.2 hc14
         refine OkQ.bat 10 [0, 3, 4, 5, 7, 8, 9] [(34, .bool false)] ?_
         refine OkQ.nil (Ok.thenN (Ok.reval 34 rfl (show (.bool false : Value) = .bool (wdcV0 xl e4 x9l9) from congrArg (Value.bool) (mand_f hc14)) ?_))
         exact fun a W hA hW => ⟨hA.sub (by kernel_rfl), hW, hF⟩
       ·
        clear hF
        rintro a W ⟨hA, hW, hF⟩
        refine (?_ : Ok _ _ _ _ _ _) a W hA hW
        clear hA hW
        refine Ok.cond (b := (wdcV0 xl e4 x9l9)) rfl (fun hc7 => ?_) (fun hc7 => ?_)
        ·replace hF := hF.1 hc7
         refine Ok.seq (Ok.seq (Ok.quiet' (by kernel_rfl) (by kernel_rfl) (OkQ.bat 3 [0, 3, 5, 7, 8, 9] [(35, .slice axl_0 xl.length cxl_0), (37, .int .i64 (w6 (x9l9 - 1)))] ?_)))
         obtain ⟨h09, h19, hF⟩ := hF
         have he9 := get_of (l := xl) (default : Bs × Bs × Int) h19
         generalize hg9 : (xl.getD (Int.toNat (w6 (x9l9 - 1))) default) = e9 at he9 hF ⊢
         refine OkQ.op rfl (OpQ.indexRo (e := .pair (.str) (.pair (.str) (.int .i64))) (i := w6 (x9l9 - 1)) (el := e9) rfl rfl Tryz.underlying22 (by kernel_rfl) hRxl_0 h09 he9 rfl fun q8 o8 cs8 _ hat8 hr8 => ?_)
         obtain ⟨_, _, rfl, rfl, ⟨_, _, rfl, rfl, rfl⟩⟩ := hr8
         replace hat8 : At g q8 o8 (vE e9) := hat8
         refine OkQ.bat 1 [0, 3, 5, 7, 8, 9] [(39, pv q8 o8)] ?_
         refine OkQ.op rfl (OpQ.step (v := sv e9.1) (Yields.loadRo 0 hat8 (by kernel_rfl) Tryz.underlying9 rfl (by kernel_rfl)) rfl rfl (OkQ.op rfl (OpQ.callG (v := sv (worM e9.1)) enr (fun W hW => wor_c e9.1 (hG0.mono hW.sees) (hG1.mono hW.sees) (hG2.mono hW.sees) (hG3.mono hW.sees) (hG4.mono hW.sees) (hG5.mono hW.sees)) rfl ?_)))
         refine OkQ.bat 1 [0, 3, 7, 8, 9] [(41, sv (worM e9.1)), (42, pv b5 0)] ?_
         refine OkQ.op rfl (OpQ.step (v := sv e4.1) (Yields.load 0 rfl rfl Tryz.underlying9 rfl (by kernel_rfl)) rfl rfl (OkQ.op rfl (OpQ.callG (v := sv (worM e4.1)) enr (fun W hW => wor_c e4.1 (hG0.mono hW.sees) (hG1.mono hW.sees) (hG2.mono hW.sees) (hG3.mono hW.sees) (hG4.mono hW.sees) (hG5.mono hW.sees)) rfl ?_)))
         refine OkQ.op rfl (OpQ.step (v := .bool (!((worM e9.1) == (worM e4.1)))) (Yields.strCmp (f := .neq) (a := (worM e9.1)) (b := (worM e4.1)) (by kernel_rfl) (by kernel_rfl) rfl) rfl rfl (OkQ.nil (Ok.thenN (Ok.cond (b := !((worM e9.1) == (worM e4.1))) rfl (fun hc10 => ?_) (fun hc10 => ?_)))))
         ·replace hF := hF.1 hc10
          refine Ok.seq (Ok.region (Ok.batch 1 [(2, .bool false)] (by kernel_rfl) (Ok.nil (Ok.thenN (Ok.ret (Ok.thenR (Ok.thenR (Ok.blockR (Ok.thenR (Ok.thenR (Ok.blockR (Ok.thenR ?_))))))))))))
          exact Ok.resP (vs := [.bool false]) [] [] (by decide) rfl (.inl rfl) rfl (.cons (.tmp rfl) .nil) (Gext.refl w0 g) ⟨false, rfl, rfl, hF⟩
         ·replace hF := hF.2 hc10
          refine Ok.skip (Ok.thenN (Ok.exit (Ok.thenE (Ok.blockHit (Ok.thenN ?_)))))
          subst hg9
          subst hg4
          exact fun a W hA hW => ⟨esyb1_0l9, ckyb1_0l9, yb1_0l9, hMyb1_0l9, hA.sub (by kernel_rfl), hW.sub (.cons _ (.cons_cons _ .slnil)), hF⟩
        ·replace hF := hF.2 hc7
         refine Ok.skip (Ok.thenN (Ok.seq (Ok.cut (fun a W => ∃ (x50j43 : Bool), StA 55 [(0, .slice axl_0 xl.length cxl_0), (3, .map (some b1)), (5, pv b5 0), (7, .slice axl_0 xl.length cxl_0), (8, .int .i64 (xl.length : Int)), (9, .int .i64 x9l9), (50, .bool x50j43)] a ∧ StW w0 [.blk b5 (.cells ⟨vE e4⟩ 36), .blk b1 (.map esyb1_0l9 ckyb1_0l9)] g W ∧ wdcj43 xl K x50j43 x9l9 yb1_0l9 (wdcl9 xl K k9)) ?_ ?_)))
         ·
          refine Ok.region (Ok.bat 2 [0, 3, 5, 7, 8, 9] [(46, .map (some b1)), (47, pv b5 2)] ?_)
          refine Ok.op rfl (OpOk.step (v := .int .i64 e4.2.2) (Yields.load 0 rfl rfl Tryz.underlying3 rfl (by kernel_rfl)) rfl rfl ?_)
          cases hce13 : assocK e4.2.2 yb1_0l9 with
          | some e13 =>
           replace hF := hF.1 e13 hce13
           refine Ok.op rfl (OpOk.lookupSome (vt := .int .i64) (row := false) keyInt 1 rfl hMyb1_0l9 rfl rfl Tryz.underlying81 Tryz.underlying3 hce13 rfl fun v13 cs13 hvi13 hr13 u13 hu13 => ?_)
           obtain rfl := hr13
           have hvi13 : ([.int .i64 e13] : List Value) = [v13] := hvi13
           injection hvi13 with hvi13
           subst hvi13
           have hu13 : u13 = .int .i64 e13 := hu13
           subst hu13
           refine Ok.bat 1 [0, 3, 5, 7, 8, 9] [(50, .bool (e13 == 1))] ?_
           refine Ok.nil (Ok.thenN ?_)
           exact fun a W hA hW => ⟨(e13 == 1), hA.sub (by kernel_rfl), hW, hF⟩
          | none =>
           replace hF := hF.2 hce13
           refine Ok.op rfl (OpOk.lookupNone (vt := .int .i64) (row := false) (z := .int .i64 0) (u := .int .i64 0) keyInt 1 rfl hMyb1_0l9 rfl rfl Tryz.underlying81 Tryz.underlying3 (by kernel_rfl) hce13 rfl rfl (Ok.bat 1 [0, 3, 5, 7, 8, 9] [(50, .bool false)] ?_))
           refine Ok.nil (Ok.thenN ?_)
           exact fun a W hA hW => ⟨false, hA.sub (by kernel_rfl), hW, hF⟩
         ·
          clear hF
          rintro a W ⟨x50j43, hA, hW, hF⟩
          refine (?_ : Ok _ _ _ _ _ _) a W hA hW
          clear hA hW
          refine Ok.cond (b := x50j43) rfl (fun hc11 => ?_) (fun hc11 => ?_)
          ·replace hF := hF.1 hc11
           refine Ok.seq (Ok.region (Ok.batch 1 [(2, .bool false)] (by kernel_rfl) (Ok.nil (Ok.thenN (Ok.ret (Ok.thenR (Ok.blockR (Ok.thenR (Ok.thenR (Ok.blockR (Ok.thenR ?_)))))))))))
           exact Ok.resP (vs := [.bool false]) [] [] (by decide) rfl (.inl rfl) rfl (.cons (.tmp rfl) .nil) (Gext.refl w0 g) ⟨false, rfl, rfl, hF⟩
          ·replace hF := hF.2 hc11
           refine Ok.skip (Ok.thenN (Ok.region (Ok.bat 2 [0, 3, 7, 8, 9] [(51, .map (some b1)), (52, pv b5 2)] ?_)))
           refine Ok.op rfl (OpOk.step (v := .int .i64 e4.2.2) (Yields.load 0 rfl rfl Tryz.underlying3 rfl (by kernel_rfl)) rfl rfl (Ok.op rfl (OpOk.mapUpdate (vt := .int .i64) (row := false) (cells := [.int .i64 1]) (y := 1) keyInt 1 rfl hMyb1_0l9 rfl rfl rfl Tryz.underlying81 Tryz.underlying3 rfl rfl fun es12 ck12 hM12 => ?_)))
           refine Ok.nil (Ok.blockN (Ok.thenN ?_))
           subst hg4
           exact fun a W hA hW => ⟨es12, ck12, (putK (xl.getD (Int.toNat x9l9) default).2.2 1 yb1_0l9), hM12, hA.sub (by kernel_rfl), hW.sub (.cons _ (.cons_cons _ .slnil)), hF⟩
    ·
     clear hF
     rintro a W ⟨esyb1_0j16, ckyb1_0j16, yb1_0j16, hMyb1_0j16, hA, hW, hF⟩
     refine (?_ : Ok _ _ _ _ _ _) a W hA hW
     clear hA hW
     refine Ok.region (Ok.bat 2 [0, 3, 7, 8] [(9, .int .i64 (w6 (x9l9 + 1)))] ?_)
     refine Ok.nil (Ok.thenN ?_)
     exact fun a W hA hW => ⟨k9, Nat.lt_succ_self _, w6 (x9l9 + 1), esyb1_0j16, ckyb1_0j16, yb1_0j16, hMyb1_0j16, hA.sub (by kernel_rfl), hW, hF⟩
   ·replace hF := hF.2 hc2
    refine Ok.exit (Ok.thenE (Ok.thenE (Ok.blockHit (Ok.thenN (Ok.seq (Ok.region (Ok.batch 1 [(2, .bool true)] (by kernel_rfl) (Ok.nil (Ok.thenN (Ok.ret ?_))))))))))
    exact Ok.resP (vs := [.bool true]) [] [] (by decide) rfl (.inl rfl) rfl (.cons (.tmp rfl) .nil) (Gext.refl w0 g) ⟨true, rfl, rfl, hF⟩
def wdcS (l : List JEn) : Bool := dcF worM [] l
def wdcP (l : List JEn) : Prop := l.length ≤ 1000000
def svK (d : Int) (M : List (Int × Int)) : Bool := match assocK d M with
 | some e => e == 1
 | none => false
theorem svK_put (d k : Int) : ∀ M : List (Int × Int), svK d (putK k 1 M) = ((d == k) || svK d M)
 | [] => by
  unfold svK
  show (match (if (d == k) = true then some (1 : Int) else none) with | some e => e == 1 | none => false) = _
  cases (d == k) <;> rfl
 | x :: M => by
  have ih := svK_put d k M
  unfold svK at ih ⊢
  rw [putK]
  by_cases hk : (k == x.1) = true
  ·rw [if_t hk]
   have hk := beq_iff_eq.1 hk
   show (match (if (d == k) = true then some (1 : Int) else assocK d M) with | some e => e == 1 | none => false) = ((d == k) || match (if (d == x.1) = true then some x.2 else assocK d M) with | some e => e == 1 | none => false)
   rw [← hk]
   cases (d == k) <;> rfl
  ·have hk : (k == x.1) = false := by simpa using hk
   rw [if_f hk]
   show (match (if (d == x.1) = true then some x.2 else assocK d (putK k 1 M)) with | some e => e == 1 | none => false) = ((d == k) || match (if (d == x.1) = true then some x.2 else assocK d M) with | some e => e == 1 | none => false)
   by_cases hx : (d == x.1) = true
   ·rw [if_t hx, if_t hx]
    have hx := beq_iff_eq.1 hx
    have : (d == k) = false := by
     rw [beq_eq_false_iff_ne] at hk ⊢
     intro h; exact hk (by rw [← h, hx])
    rw [this]; rfl
   ·have hx : (d == x.1) = false := by simpa using hx
    rw [if_f hx, if_f hx]; exact ih
theorem wdc_F (l : List JEn) (hp : wdcP l) : wdcF l (fun r => r = wdcS l) := by
 have hp : l.length ≤ 1000000 := hp
 have loop : ∀ (k i : Nat) (M : List (Int × Int)), i + k = l.length → (∀ e : JEn, svK e.2.2 M = (l.take i).any (sameD e)) → wdcS l = dcF worM (l.take i) (l.drop i) → wdcl9 l (fun r => r = wdcS l) (k + 1) (i : Int) M := by
  intro k
  induction k with
  | zero =>
   intro i M h hM h2
   rw [List.drop_of_length_le (by omega)] at h2
   exact ⟨fun h => (by have := of_decide_eq_true h; omega), fun _ => h2.symm⟩
  | succ k ih =>
   intro i M h hM h2
   have hi : i < l.length := by omega
   rw [drop_get (l := l) default hi, dcF] at h2
   refine ⟨fun _ => ⟨by omega, by rw [Int.toNat_natCast]; exact hi, ?_⟩, fun h => (by have := of_decide_eq_false h; omega)⟩
   rw [Int.toNat_natCast]
   generalize he : l.getD i default = e at h2 ⊢
   have hts := jtake_snoc hi
   rw [he] at hts
   have go : ∀ M', (∀ e : JEn, svK e.2.2 M' = (l.take (i + 1)).any (sameD e)) → wdcS l = dcF worM (l.take i ++ [e]) (l.drop (i + 1)) → wdcj16 (i : Int) M' (wdcl9 l (fun r => r = wdcS l) (k + 1)) := fun M' hM' h3 => by
    unfold wdcj16
    rw [w64 (by omega)]
    exact ih (i + 1) M' (by omega) hM' (by rw [hts]; exact h3)
   have j29 : rngD e = true → wdcj29 l (fun r => r = wdcS l) e (i : Int) M (wdcl9 l (fun r => r = wdcS l) (k + 1)) := fun hr => by
    rw [hr, Bool.true_and] at h2
    by_cases h0 : i = 0
    ·subst h0
     have hd : dcStep worM (l.take 0) e = true := rfl
     rw [hd, Bool.true_and] at h2
     have hs : svK e.2.2 M = false := hM e
     refine ⟨fun h => (by cases h), fun _ => ⟨fun e13 h13 => ?_, fun h13 => ?_⟩⟩
     ·have : (e13 == 1) = false := by unfold svK at hs; rw [h13] at hs; exact hs
      rw [this]
      refine ⟨fun h => (by cases h), fun _ => go _ (fun x => ?_) h2⟩
      rw [svK_put, hts, hM, List.any_append, List.any_cons, List.any_nil, Bool.or_false, Bool.or_comm]
      congr 1
      unfold sameD
      rw [Int.toNat_natCast, he]
      exact Bool.beq_comm
     ·refine ⟨fun h => (by cases h), fun _ => go _ (fun x => ?_) h2⟩
      rw [svK_put, hts, hM, List.any_append, List.any_cons, List.any_nil, Bool.or_false, Bool.or_comm]
      congr 1
      unfold sameD
      rw [Int.toNat_natCast, he]
      exact Bool.beq_comm
    ·obtain ⟨j, rfl⟩ : ∃ j, i = j + 1 := ⟨i - 1, by omega⟩
     have hj : j < l.length := by omega
     have ew : w6 (((j + 1 : Nat) : Int) - 1) = (j : Int) := by rw [w64 (by omega)]; omega
     have hlast : (l.take (j + 1)).getLast? = some (l.getD j default) := by rw [jtake_snoc hj, List.getLast?_concat]
     have hd : dcStep worM (l.take (j + 1)) e = if ((l.getD j default).2.2 == e.2.2) = true then (worM (l.getD j default).1 == worM e.1) else !((l.take (j + 1)).any (sameD e)) := by
      unfold dcStep
      rw [hlast]
     rw [hd] at h2
     have hv : wdcV0 l e ((j + 1 : Nat) : Int) = ((l.getD j default).2.2 == e.2.2) := by
      unfold wdcV0
      rw [ew, Int.toNat_natCast, decide_eq_true (show ((j + 1 : Nat) : Int) > 0 by omega), Bool.true_and]
     refine ⟨fun h => ?_, fun h => ?_⟩
     ·rw [hv] at h
      rw [if_t h] at h2
      rw [ew, Int.toNat_natCast]
      refine ⟨by omega, hj, fun ho => ?_, fun ho => ?_⟩
      ·rw [Bool.not_eq_true'] at ho
       rw [ho] at h2; exact h2.symm
      ·rw [Bool.not_eq_false'] at ho
       rw [ho, Bool.true_and] at h2
       refine go M (fun x => ?_) h2
       rw [hM, hts, List.any_append, List.any_cons, List.any_nil, Bool.or_false]
       have : sameD x e = true → (l.take (j + 1)).any (sameD x) = true := fun hx => by
        rw [jtake_snoc hj, List.any_append, List.any_cons]
        have h8 := beq_iff_eq.1 h
        have : sameD x (l.getD j default) = true := by unfold sameD at hx ⊢; rw [h8]; exact hx
        rw [this]; simp
       cases hx : sameD x e
       ·rw [Bool.or_false]
       ·rw [this hx]; rfl
     ·rw [hv] at h
      rw [if_f h] at h2
      have hs := hM e
      have fin : svK e.2.2 M = false → wdcj16 ((j + 1 : Nat) : Int) (putK (l.getD (Int.toNat ((j + 1 : Nat) : Int)) default).2.2 1 M) (wdcl9 l (fun r => r = wdcS l) (k + 1)) := fun h9 => by
       rw [h9] at hs
       rw [← hs, Bool.not_false, Bool.true_and] at h2
       refine go _ (fun x => ?_) h2
       rw [svK_put, hts, hM, List.any_append, List.any_cons, List.any_nil, Bool.or_false, Bool.or_comm]
       congr 1
       unfold sameD
       rw [Int.toNat_natCast, he]
       exact Bool.beq_comm
      refine ⟨fun e13 h13 => ⟨fun h14 => ?_, fun h14 => fin ?_⟩, fun h13 => ⟨fun h14 => (by cases h14), fun _ => fin ?_⟩⟩
      ·have : svK e.2.2 M = true := by unfold svK; rw [h13]; exact h14
       rw [this] at hs
       rw [← hs] at h2
       exact h2.symm
      ·unfold svK; rw [h13]; exact h14
      ·unfold svK; rw [h13]
   have j21 : wdcj21 l (fun r => r = wdcS l) e (i : Int) M (wdcl9 l (fun r => r = wdcS l) (k + 1)) := by
    refine ⟨fun h => ?_, fun h => ⟨fun h5 => ?_, fun _ => ?_⟩⟩
    ·have : rngD e = false := by unfold rngD; rw [h]; rfl
     rw [this] at h2; exact h2.symm
    ·have := of_decide_eq_true h5
     refine ⟨by rw [w64 (by omega)]; omega, by rw [w64 (by omega)]; omega, j29 ?_⟩
     unfold rngD; rw [h]; rfl
    ·exact j29 (by unfold rngD; rw [h]; rfl)
   exact ⟨fun _ => j21, fun _ => j21⟩
 exact ⟨_, loop l.length 0 [] (by omega) (fun _ => rfl) rfl⟩
theorem wdc_c {g : Ghost} {axl_0 : Option Addr} {cxl_0 : Nat} (xl : List (Bs × Bs × Int)) (hRxl_0 : Rep g (.slice (.pair (.str) (.pair (.str) (.int .i64)))) [.slice axl_0 xl.length cxl_0] xl) (hG0 : SomeInt g 0) (hG1 : GlobL g 1 (.int .u64) DPow) (hG2 : SomeIf g 2) (hG3 : SomeIf g 3) (hG4 : GlobL g 4 (.int .u8) DFirst) (hG5 : GlobL g 5 (.pair (.int .u8) (.int .u8)) DAcc)  (hp : wdcP xl) : CallsG Tryz.prog 35 #[.slice axl_0 xl.length cxl_0] g (.bool (wdcS xl)) :=
 (wdc_ok xl hRxl_0 hG0 hG1 hG2 hG3 hG4 hG5 _ (wdc_F xl hp)).gives (by rintro g' H' v _ ⟨r0, rfl, rfl, hK⟩; subst hK; rfl)
/-! Check -/
def wc1F (xe : Bs × Bs × Int) (K : Bool → Prop) : Prop :=
 K (decide ((xe.2.1.length : Int) > 2000))
theorem wc1_ok {g : Ghost} (xe : Bs × Bs × Int) (K : Bool → Prop)
  (hF : wc1F xe K) : CallsH Tryz.prog 32 #[.agg ⟨vE xe⟩] g [] (fun g' H' v => ∃ (r0 : Bool), v = .bool r0 ∧ H' = [] ∧ K r0) := by
 refine CallsH.enter 7 [(0, .agg ⟨vE xe⟩)] Tryz.func32 rfl (by kernel_rfl) (by kernel_rfl) (by kernel_rfl) fun w0 => ?_
 refine Ok.seq (Ok.region (Ok.op rfl (OpOk.box (v := .agg ⟨vE xe⟩) (cs := ⟨vE xe⟩) rfl (by kernel_rfl) rfl fun b1 => ?_)))
 refine Ok.batch 1 [(1, pv b1 0)] (by kernel_rfl) (Ok.nil (Ok.thenN (Ok.seq (Ok.region (Ok.batch 1 [(3, pv b1 1)] (by kernel_rfl) (Ok.op rfl (OpOk.step (v := sv xe.2.1) (Yields.load 0 rfl rfl Tryz.underlying9 rfl (by kernel_rfl)) rfl rfl (Ok.batch 3 [(2, .bool (decide ((xe.2.1.length : Int) > 2000)))] (by kernel_rfl) (Ok.nil (Ok.thenN (Ok.ret ?_)))))))))))
 exact Ok.resP (vs := [.bool (decide ((xe.2.1.length : Int) > 2000))]) [] [] (by decide) rfl (.inl rfl) rfl (.cons (.tmp rfl) .nil) (Gext.refl w0 g) ⟨(decide ((xe.2.1.length : Int) > 2000)), rfl, rfl, hF⟩
def wc1M (xe : Bs × Bs × Int) : Bool := (decide ((xe.2.1.length : Int) > 2000))
theorem wc1F_A (xe : Bs × Bs × Int) (P : Bool → Prop) (h : P (wc1M xe)) : wc1F xe (fun k0 => P k0) := by
 unfold wc1M at h
 unfold wc1F
 exact h
theorem wc1_F (xe : Bs × Bs × Int) : wc1F xe (fun k0 => k0 = wc1M xe) :=
 wc1F_A xe (fun z => z = wc1M xe) rfl
theorem wc1_c {g : Ghost} (xe : Bs × Bs × Int)  : CallsG Tryz.prog 32 #[.agg ⟨vE xe⟩] g (.bool (wc1M xe)) :=
 (wc1_ok xe _ (wc1_F xe)).gives (by rintro g' H' v _ ⟨r0, rfl, rfl, hK⟩; subst hK; rfl)
def wc2F (xe : Bs × Bs × Int) (K : Bool → Prop) : Prop :=
 K (!(wcnM xe.1))
theorem wc2_ok {g : Ghost} (xe : Bs × Bs × Int) (hG0 : SomeInt g 0) (hG1 : GlobL g 1 (.int .u64) DPow) (hG2 : SomeIf g 2) (hG3 : SomeIf g 3) (hG4 : GlobL g 4 (.int .u8) DFirst) (hG5 : GlobL g 5 (.pair (.int .u8) (.int .u8)) DAcc) (K : Bool → Prop)
  (hF : wc2F xe K) : CallsH Tryz.prog 33 #[.agg ⟨vE xe⟩] g [] (fun g' H' v => ∃ (r0 : Bool), v = .bool r0 ∧ H' = [] ∧ K r0) := by
 refine CallsH.enter 7 [(0, .agg ⟨vE xe⟩)] Tryz.func33 rfl (by kernel_rfl) (by kernel_rfl) (by kernel_rfl) fun w0 => ?_
 refine Ok.seq (Ok.region (Ok.op rfl (OpOk.box (v := .agg ⟨vE xe⟩) (cs := ⟨vE xe⟩) rfl (by kernel_rfl) rfl fun b1 => ?_)))
 refine Ok.batch 1 [(1, pv b1 0)] (by kernel_rfl) (Ok.nil (Ok.thenN (Ok.seq (Ok.region (Ok.batch 1 [(3, pv b1 0)] (by kernel_rfl) (Ok.op rfl (OpOk.step (v := sv xe.1) (Yields.load 0 rfl rfl Tryz.underlying9 rfl (by kernel_rfl)) rfl rfl (Ok.op rfl (OpOk.callG (v := .bool (wcnM xe.1)) enr (fun W hW => wcn_c xe.1 (hG0.mono hW.sees) (hG1.mono hW.sees) (hG2.mono hW.sees) (hG3.mono hW.sees) (hG4.mono hW.sees) (hG5.mono hW.sees)) rfl ?_)))))))))
 refine Ok.batch 2 [(2, .bool (!(wcnM xe.1)))] (by kernel_rfl) (Ok.nil (Ok.thenN (Ok.ret ?_)))
 exact Ok.resP (vs := [.bool (!(wcnM xe.1))]) [] [] (by decide) rfl (.inl rfl) rfl (.cons (.tmp rfl) .nil) (Gext.refl w0 g) ⟨(!(wcnM xe.1)), rfl, rfl, hF⟩
def wc2M (xe : Bs × Bs × Int) : Bool := (!(wcnM xe.1))
theorem wc2F_A (xe : Bs × Bs × Int) (P : Bool → Prop) (h : P (wc2M xe)) : wc2F xe (fun k0 => P k0) := by
 unfold wc2M at h
 unfold wc2F
 exact h
theorem wc2_F (xe : Bs × Bs × Int) : wc2F xe (fun k0 => k0 = wc2M xe) :=
 wc2F_A xe (fun z => z = wc2M xe) rfl
theorem wc2_c {g : Ghost} (xe : Bs × Bs × Int) (hG0 : SomeInt g 0) (hG1 : GlobL g 1 (.int .u64) DPow) (hG2 : SomeIf g 2) (hG3 : SomeIf g 3) (hG4 : GlobL g 4 (.int .u8) DFirst) (hG5 : GlobL g 5 (.pair (.int .u8) (.int .u8)) DAcc)  : CallsG Tryz.prog 33 #[.agg ⟨vE xe⟩] g (.bool (wc2M xe)) :=
 (wc2_ok xe hG0 hG1 hG2 hG3 hG4 hG5 _ (wc2_F xe)).gives (by rintro g' H' v _ ⟨r0, rfl, rfl, hK⟩; subst hK; rfl)
def wckV0 (xt : (List (Bs × Bs × Int)) × Int) : Bool :=
 ((decide ((xt.1.length : Int) > 50)) || (wcfS xt.1 (fun y0 => wc1M y0)))
def wckV1 (xt : (List (Bs × Bs × Int)) × Int) : Bool :=
 ((decide (xt.2 < 0)) || ((decide (xt.2 ≥ (xt.1.length : Int))) || ((wcfS xt.1 (fun y0 => wc2M y0)) || (!(wdcS xt.1)))))
def wckj12 (xt : (List (Bs × Bs × Int)) × Int) (K : Int → Prop) : Prop :=
 (((wckV1 xt)) = true → K 3) ∧ (((wckV1 xt)) = false → K 0)
def wckj4 (xt : (List (Bs × Bs × Int)) × Int) (K : Int → Prop) : Prop :=
 (((wckV0 xt)) = true → K 2) ∧ (((wckV0 xt)) = false → ((decide (xt.2 < 0)) = true → wckj12 xt K) ∧ ((decide (xt.2 < 0)) = false → ((decide (xt.2 ≥ (xt.1.length : Int))) = true → wckj12 xt K) ∧ ((decide (xt.2 ≥ (xt.1.length : Int))) = false → wixP xt.1 (fun y0 => wc2M y0) (fun _ => True) ∧ (((wcfS xt.1 (fun y0 => wc2M y0))) = true → wckj12 xt K) ∧ (((wcfS xt.1 (fun y0 => wc2M y0))) = false → wdcP xt.1 ∧ wckj12 xt K))))
def wckF (xt : (List (Bs × Bs × Int)) × Int) (K : Int → Prop) : Prop :=
 ((decide ((xt.1.length : Int) > 50)) = true → wckj4 xt K) ∧ ((decide ((xt.1.length : Int) > 50)) = false → wixP xt.1 (fun y0 => wc1M y0) (fun _ => True) ∧ wckj4 xt K)
theorem wck_ok {g : Ghost} {axt_0 : Option Addr} {cxt_0 : Nat} (xt : (List (Bs × Bs × Int)) × Int) (hRxt_0 : Rep g (.slice (.pair (.str) (.pair (.str) (.int .i64)))) [.slice axt_0 xt.1.length cxt_0] xt.1) (hG0 : SomeInt g 0) (hG1 : GlobL g 1 (.int .u64) DPow) (hG2 : SomeIf g 2) (hG3 : SomeIf g 3) (hG4 : GlobL g 4 (.int .u8) DFirst) (hG5 : GlobL g 5 (.pair (.int .u8) (.int .u8)) DAcc) (K : Int → Prop)
  (hF : wckF xt K) : CallsH Tryz.prog 10 #[.agg ⟨vT xt axt_0 cxt_0⟩] g [] (fun g' H' v => ∃ (r0 : Int), v = .int .i64 r0 ∧ H' = [] ∧ K r0) := by
 refine CallsH.enter 34 [(0, .agg ⟨vT xt axt_0 cxt_0⟩)] Tryz.func10 rfl (by kernel_rfl) (by kernel_rfl) (by kernel_rfl) fun w0 => ?_
 refine Ok.seq (Ok.region (Ok.op rfl (OpOk.box (v := .agg ⟨vT xt axt_0 cxt_0⟩) (cs := ⟨vT xt axt_0 cxt_0⟩) rfl (by kernel_rfl) rfl fun b1 => ?_)))
 refine Ok.batch 1 [(1, pv b1 0)] (by kernel_rfl) (Ok.nil (Ok.thenN (Ok.seq (Ok.cut (fun a W => StA 34 [(1, pv b1 0), (11, .bool (wckV0 xt))] a ∧ StW w0 [.blk b1 (.cells ⟨vT xt axt_0 cxt_0⟩ 24)] g W ∧ wckj4 xt K) ?_ ?_))))
 ·
  refine Ok.region (Ok.bat 1 [1] [(3, pv b1 0)] ?_)
  refine Ok.op rfl (OpOk.step (v := .slice axt_0 xt.1.length cxt_0) (Yields.load 0 rfl rfl Tryz.underlying22 rfl (by kernel_rfl)) rfl rfl (Ok.bat 3 [1] [(7, .bool (decide ((xt.1.length : Int) > 50)))] ?_))
  refine Ok.boolAt 7 (decide ((xt.1.length : Int) > 50)) rfl (fun hc9 => ?_) (fun hc9 => ?_)
  ·replace hF := hF.1 hc9
   refine Ok.bat 4 [1] [(11, .bool true)] ?_
   refine Ok.nil (Ok.thenN (Ok.reval 11 rfl (show (.bool true : Value) = .bool (wckV0 xt) from congrArg (Value.bool) (mor_t hc9)) ?_))
   exact fun a W hA hW => ⟨hA.sub (by kernel_rfl), hW, hF⟩
  ·replace hF := hF.2 hc9
   refine Ok.bat 1 [1] [(7, .bool false), (8, pv b1 0)] ?_
   refine Ok.opYes (j := 4) (d := 7) (want := false) (b := false) rfl (by kernel_rfl) (by kernel_rfl) rfl (OpOk.step (v := .slice axt_0 xt.1.length cxt_0) (Yields.load 0 rfl rfl Tryz.underlying22 rfl (by kernel_rfl)) rfl rfl ?_)
   obtain ⟨hp10, hF⟩ := hF
   refine Ok.opYes (j := 4) (d := 7) (want := false) (b := false) rfl (by kernel_rfl) (by kernel_rfl) rfl (OpOk.callG (v := .bool (wcfS xt.1 (fun y0 => wc1M y0))) enr (fun W hW => wcf_c (vxf := .func (.func 32) #[] #[]) xt.1 (fun y0 => wc1M y0) (fun _ => True) (hRxt_0.mono hW.sees) (fun y0 hq => ⟨32, _, fun _ => by kernel_rfl, wc1_c y0⟩) hp10) rfl ?_)
   refine Ok.bat 1 [1] [(11, .bool (wcfS xt.1 (fun y0 => wc1M y0)))] ?_
   refine Ok.nil (Ok.thenN (Ok.reval 11 rfl (show (.bool (wcfS xt.1 (fun y0 => wc1M y0)) : Value) = .bool (wckV0 xt) from congrArg (Value.bool) (mor_f hc9)) ?_))
   exact fun a W hA hW => ⟨hA.sub (by kernel_rfl), hW, hF⟩
 ·
  clear hF
  rintro a W ⟨hA, hW, hF⟩
  refine (?_ : Ok _ _ _ _ _ _) a W hA hW
  clear hA hW
  refine Ok.cond (b := (wckV0 xt)) rfl (fun hc2 => ?_) (fun hc2 => ?_)
  ·replace hF := hF.1 hc2
   refine Ok.seq (Ok.region (Ok.batch 1 [(2, .int .i64 2)] (by kernel_rfl) (Ok.nil (Ok.thenN (Ok.ret (Ok.thenR ?_))))))
   exact Ok.resP (vs := [.int .i64 2]) [] [] (by decide) rfl (.inl rfl) rfl (.cons (.tmp rfl) .nil) (Gext.refl w0 g) ⟨2, rfl, rfl, hF⟩
  ·replace hF := hF.2 hc2
   refine Ok.skip (Ok.thenN (Ok.seq (Ok.cut (fun a W => StA 34 [(33, .bool (wckV1 xt))] a ∧ StW w0 [] g W ∧ wckj12 xt K) ?_ ?_)))
   ·
    refine Ok.region (Ok.bat 1 [1] [(12, pv b1 1)] ?_)
    refine Ok.op rfl (OpOk.step (v := .int .i64 xt.2) (Yields.load 0 rfl rfl Tryz.underlying3 rfl (by kernel_rfl)) rfl rfl (Ok.bat 2 [1] [(15, .bool (decide (xt.2 < 0)))] ?_))
    refine Ok.boolAt 15 (decide (xt.2 < 0)) rfl (fun hc4 => ?_) (fun hc4 => ?_)
    ·replace hF := hF.1 hc4
     refine Ok.batch 18 [(33, .bool true)] (by kernel_rfl) (Ok.nil (Ok.thenN (Ok.reval 33 rfl (show (.bool true : Value) = .bool (wckV1 xt) from congrArg (Value.bool) (mor_t hc4)) ?_)))
     exact fun a W hA hW => ⟨hA.sub (by kernel_rfl), hW.sub (.cons _ .slnil), hF⟩
    ·replace hF := hF.2 hc4
     refine Ok.bat 1 [1] [(15, .bool false), (16, pv b1 1)] ?_
     refine Ok.opYes (j := 3) (d := 15) (want := false) (b := false) rfl (by kernel_rfl) (by kernel_rfl) rfl (OpOk.step (v := .int .i64 xt.2) (Yields.load 0 rfl rfl Tryz.underlying3 rfl (by kernel_rfl)) rfl rfl (Ok.bat 1 [1, 15] [(17, .int .i64 xt.2), (18, pv b1 0)] ?_))
     refine Ok.opYes (j := 3) (d := 15) (want := false) (b := false) rfl (by kernel_rfl) (by kernel_rfl) rfl (OpOk.step (v := .slice axt_0 xt.1.length cxt_0) (Yields.load 0 rfl rfl Tryz.underlying22 rfl (by kernel_rfl)) rfl rfl (Ok.bat 4 [1] [(23, .bool (decide (xt.2 ≥ (xt.1.length : Int))))] ?_))
     refine Ok.boolAt 23 (decide (xt.2 ≥ (xt.1.length : Int))) rfl (fun hc5 => ?_) (fun hc5 => ?_)
     ·replace hF := hF.1 hc5
      refine Ok.batch 10 [(33, .bool true)] (by kernel_rfl) (Ok.nil (Ok.thenN (Ok.reval 33 rfl (show (.bool true : Value) = .bool (wckV1 xt) from congrArg (Value.bool) ((Eq.trans (mor_t hc5) (mor_f hc4)))) ?_)))
      exact fun a W hA hW => ⟨hA.sub (by kernel_rfl), hW.sub (.cons _ .slnil), hF⟩
     ·replace hF := hF.2 hc5
      refine Ok.bat 1 [1] [(23, .bool false), (24, pv b1 0)] ?_
      refine Ok.opYes (j := 11) (d := 23) (want := false) (b := false) rfl (by kernel_rfl) (by kernel_rfl) rfl (OpOk.step (v := .slice axt_0 xt.1.length cxt_0) (Yields.load 0 rfl rfl Tryz.underlying22 rfl (by kernel_rfl)) rfl rfl ?_)
      obtain ⟨hp6, hF⟩ := hF
      refine Ok.opYes (j := 11) (d := 23) (want := false) (b := false) rfl (by kernel_rfl) (by kernel_rfl) rfl (OpOk.callG (v := .bool (wcfS xt.1 (fun y0 => wc2M y0))) enr (fun W hW => wcf_c (vxf := .func (.func 33) #[] #[]) xt.1 (fun y0 => wc2M y0) (fun _ => True) (hRxt_0.mono hW.sees) (fun y0 hq => ⟨33, _, fun _ => by kernel_rfl, wc2_c y0 (hG0.mono hW.sees) (hG1.mono hW.sees) (hG2.mono hW.sees) (hG3.mono hW.sees) (hG4.mono hW.sees) (hG5.mono hW.sees)⟩) hp6) rfl ?_)
      refine Ok.bat 2 [1] [(28, .bool (wcfS xt.1 (fun y0 => wc2M y0)))] ?_
      refine Ok.boolAt 28 ((wcfS xt.1 (fun y0 => wc2M y0))) rfl (fun hc7 => ?_) (fun hc7 => ?_)
      ·replace hF := hF.1 hc7
       refine Ok.batch 5 [(33, .bool true)] (by kernel_rfl) (Ok.nil (Ok.thenN (Ok.reval 33 rfl (show (.bool true : Value) = .bool (wckV1 xt) from congrArg (Value.bool) ((Eq.trans ((Eq.trans (mor_t hc7) (mor_f hc5))) (mor_f hc4)))) ?_)))
       exact fun a W hA hW => ⟨hA.sub (by kernel_rfl), hW.sub (.cons _ .slnil), hF⟩
      ·replace hF := hF.2 hc7
       refine Ok.batch 1 [(28, .bool false), (29, pv b1 0)] (by kernel_rfl) (Ok.opYes (j := 16) (d := 28) (want := false) (b := false) rfl (by kernel_rfl) (by kernel_rfl) rfl (OpOk.step (v := .slice axt_0 xt.1.length cxt_0) (Yields.load 0 rfl rfl Tryz.underlying22 rfl (by kernel_rfl)) rfl rfl ?_))
       obtain ⟨hp8, hF⟩ := hF
       refine Ok.opYes (j := 16) (d := 28) (want := false) (b := false) rfl (by kernel_rfl) (by kernel_rfl) rfl (OpOk.callG (v := .bool (wdcS xt.1)) enr (fun W hW => wdc_c xt.1 (hRxt_0.mono hW.sees) (hG0.mono hW.sees) (hG1.mono hW.sees) (hG2.mono hW.sees) (hG3.mono hW.sees) (hG4.mono hW.sees) (hG5.mono hW.sees) hp8) rfl ?_)
       refine Ok.batch 2 [(33, .bool (!(wdcS xt.1)))] (by kernel_rfl) (Ok.nil (Ok.thenN (Ok.reval 33 rfl (show (.bool (!(wdcS xt.1)) : Value) = .bool (wckV1 xt) from congrArg (Value.bool) ((Eq.trans ((Eq.trans (mor_f hc7) (mor_f hc5))) (mor_f hc4)))) ?_)))
       exact fun a W hA hW => ⟨hA.sub (by kernel_rfl), hW.sub (.cons _ .slnil), hF⟩
   ·
    clear hF
    rintro a W ⟨hA, hW, hF⟩
    refine (?_ : Ok _ _ _ _ _ _) a W hA hW
    clear hA hW
    refine Ok.cond (b := (wckV1 xt)) rfl (fun hc3 => ?_) (fun hc3 => ?_)
    ·replace hF := hF.1 hc3
     refine Ok.seq (Ok.region (Ok.batch 1 [(2, .int .i64 3)] (by kernel_rfl) (Ok.nil (Ok.thenN (Ok.ret (Ok.thenR ?_))))))
     exact Ok.resH (vs := [.int .i64 3]) (.inl rfl) rfl (.cons (.tmp rfl) .nil) (Gext.refl w0 g) ⟨3, rfl, rfl, hF⟩
    ·replace hF := hF.2 hc3
     refine Ok.skip (Ok.thenN (Ok.seq (Ok.region (Ok.batch 1 [(2, .int .i64 0)] (by kernel_rfl) (Ok.nil (Ok.thenN (Ok.ret ?_)))))))
     exact Ok.resH (vs := [.int .i64 0]) (.inl rfl) rfl (.cons (.tmp rfl) .nil) (Gext.refl w0 g) ⟨0, rfl, rfl, hF⟩
def chkT0 (t : JTr) : Int := if wckV0 t = true then 2 else if wckV1 t = true then 3 else 0
noncomputable def chkT : JTr → Int := Classical.choose (rigid chkT0)
theorem chkT_eq : chkT = chkT0 := Classical.choose_spec (rigid chkT0)
theorem wck_F (t : JTr) : wckF t (fun r => r = chkT t) := by
 rw [chkT_eq]
 unfold chkT0
 have j4 : (decide ((t.1.length : Int) > 50) = false ∨ wckV0 t = true) → wckj4 t (fun r => r = if wckV0 t = true then 2 else if wckV1 t = true then 3 else 0) := fun hl => by
  refine ⟨fun h => by rw [if_t h], fun h => ?_⟩
  rw [if_f h]
  have hl : (t.1.length : Int) ≤ 50 := by
   rcases hl with hl | hl
   ·have := of_decide_eq_false hl; omega
   ·rw [hl] at h; cases h
  have j12 : wckj12 t (fun r => r = if wckV1 t = true then 3 else 0) := ⟨fun h => by rw [if_t h], fun h => by rw [if_f h]⟩
  exact ⟨fun _ => j12, fun _ => ⟨fun _ => j12, fun _ => ⟨⟨by omega, fun _ => trivial⟩, fun _ => j12, fun _ => ⟨by show t.1.length ≤ _; omega, j12⟩⟩⟩⟩
 refine ⟨fun h => j4 (.inr ?_), fun h => ⟨⟨?_, fun _ => trivial⟩, j4 (.inl h)⟩⟩
 ·unfold wckV0; rw [h]; rfl
 ·have := of_decide_eq_false h; omega
theorem wck_c {g : Ghost} {axt_0 : Option Addr} {cxt_0 : Nat} (xt : (List (Bs × Bs × Int)) × Int) (hRxt_0 : Rep g (.slice (.pair (.str) (.pair (.str) (.int .i64)))) [.slice axt_0 xt.1.length cxt_0] xt.1) (hG0 : SomeInt g 0) (hG1 : GlobL g 1 (.int .u64) DPow) (hG2 : SomeIf g 2) (hG3 : SomeIf g 3) (hG4 : GlobL g 4 (.int .u8) DFirst) (hG5 : GlobL g 5 (.pair (.int .u8) (.int .u8)) DAcc)  : CallsG Tryz.prog 10 #[.agg ⟨vT xt axt_0 cxt_0⟩] g (.int .i64 (chkT xt)) :=
 (wck_ok xt hRxt_0 hG0 hG1 hG2 hG3 hG4 hG5 _ (wck_F xt)).gives (by rintro g' H' v _ ⟨r0, rfl, rfl, hK⟩; subst hK; rfl)
end
end Go.Proofs.YtdaagfgedkdmjaaGreatDoor.Ub
