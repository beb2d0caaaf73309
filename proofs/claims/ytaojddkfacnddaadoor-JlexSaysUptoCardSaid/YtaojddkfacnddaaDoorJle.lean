/- The script reader: the reference. -/
import Derived.Test.YtaojddkfacnddaaDoorJld
import Derived.Test.YtaojddkfacnddaaDoorJlw
namespace Go.Proofs.YtaojddkfacnddaaDoor.Jl
open Go Go.Eng Go.RowKit Bld Fl
set_option linter.unusedVariables false
def idxS (s sub : List UInt8) : Int := Lib.index s sub
def idxP (s _ : List UInt8) : Prop := s.length < 4294967281
theorem idx_c {g : Ghost} (s sub : List UInt8) (hG : SomeInt g 1) (hp : idxP s sub) : CallsG Tryd.prog 38 #[.string ⟨⟨s⟩⟩, .string ⟨⟨sub⟩⟩] g (.int .i64 (idxS s sub)) := fun W hW => by
  obtain ⟨cs, T, fz, m, h1, h2⟩ := hG
  refine (Tryd.strings_Index ⟨⟨s⟩⟩ ⟨⟨sub⟩⟩ m W hp (by rw [Lib.cell_of_heap (hW _ _ h1)]; exact h2)).mono fun e W' ⟨he, hw⟩ => ⟨he, by subst hw; exact Below.refl _ _⟩
def scontS (s sub : List UInt8) : Bool := Lib.contains s sub
def scontP (s _ : List UInt8) : Prop := s.length < 4294967281
theorem scont_c {g : Ghost} (s sub : List UInt8) (hG : SomeInt g 1) (hp : scontP s sub) : CallsG Tryd.prog 37 #[.string ⟨⟨s⟩⟩, .string ⟨⟨sub⟩⟩] g (.bool (scontS s sub)) := fun W hW => by
  obtain ⟨cs, T, fz, m, h1, h2⟩ := hG
  refine (Tryd.strings_Contains ⟨⟨s⟩⟩ ⟨⟨sub⟩⟩ m W hp (by rw [Lib.cell_of_heap (hW _ _ h1)]; exact h2)).mono fun e W' ⟨he, hw⟩ => ⟨he, by subst hw; exact Below.refl _ _⟩
def slhpj3 (xs : List UInt8) (xprefix : List UInt8) (K : Bool → Prop) : Prop :=
  K ((decide ((xs.length : Int) ≥ (xprefix.length : Int))) && ((xs.take (Int.toNat (xprefix.length : Int))) == xprefix))
def slhpF (xs : List UInt8) (xprefix : List UInt8) (K : Bool → Prop) : Prop :=
  ((decide ((xs.length : Int) ≥ (xprefix.length : Int))) = true → (0 : Int) ≤ 0 ∧ (0 : Int) ≤ (xprefix.length : Int) ∧ (xprefix.length : Int) ≤ (xs.length : Int) ∧ slhpj3 xs xprefix K) ∧ ((decide ((xs.length : Int) ≥ (xprefix.length : Int))) = false → slhpj3 xs xprefix K)
set_option maxHeartbeats 4000000 in
set_option maxRecDepth 100000 in
set_option linter.unusedVariables false in
theorem slhp_ok {g : Ghost} (xs : List UInt8) (xprefix : List UInt8) (K : Bool → Prop)
    (hF : slhpF xs xprefix K) : CallsH Tryd.prog 36 #[.string ⟨⟨xs⟩⟩, .string ⟨⟨xprefix⟩⟩] g [] (fun g' H' v => ∃ (r0 : Bool), v = .bool r0 ∧ H' = [] ∧ K r0) := by
  refine CallsH.enter 18 [(0, .string ⟨⟨xs⟩⟩), (1, .string ⟨⟨xprefix⟩⟩)] Tryd.func36 rfl (by kernel_rfl) (by kernel_rfl) (by kernel_rfl) fun w0 => ?_
  refine Ok.seq ?_
  refine Ok.region ?_
  refine Ok.batch 1 [(0, .string ⟨⟨xs⟩⟩), (1, .string ⟨⟨xprefix⟩⟩)] (by kernel_rfl) ?_
  refine Ok.nil ?_
  refine Ok.thenN ?_
  refine Ok.cut (fun a W => StA 18 [(4, .bool ((decide ((xs.length : Int) ≥ (xprefix.length : Int))) && ((xs.take (Int.toNat (xprefix.length : Int))) == xprefix)))] a ∧ StW w0 [] g W ∧ slhpj3 xs xprefix K) ?_ ?_
  ·
    refine Ok.region ?_
    refine Ok.batch 6 [(0, .string ⟨⟨xs⟩⟩), (1, .string ⟨⟨xprefix⟩⟩), (10, .bool (decide ((xs.length : Int) ≥ (xprefix.length : Int))))] (by kernel_rfl) ?_
    refine Ok.boolAt 10 (decide ((xs.length : Int) ≥ (xprefix.length : Int))) rfl (fun hc1 => ?_) (fun hc1 => ?_)
    · replace hF := hF.1 hc1
      refine Ok.batch 3 [(1, .string ⟨⟨xprefix⟩⟩), (10, .bool true), (11, .string ⟨⟨xs⟩⟩), (13, .int .i64 (xprefix.length : Int))] (by kernel_rfl) ?_
      obtain ⟨h02, h12, h22, hF⟩ := hF
      refine Ok.opYes (j := 5) (d := 10) (want := true) (b := true) rfl (by kernel_rfl) (by kernel_rfl) rfl (OpOk.step (v := .string ⟨⟨xs.take (Int.toNat (xprefix.length : Int))⟩⟩) (Yields.sliceStr (s := xs) (l := 0) (h := (xprefix.length : Int)) (by kernel_rfl) Tryd.underlying9 (.inr ⟨rfl, rfl⟩) (.inl ⟨_, _, rfl, rfl⟩) h02 h12 h22 (xs.take (Int.toNat (xprefix.length : Int))) (by simp)) rfl rfl ?_)
      refine Ok.batch 1 [(10, .bool true), (14, .string ⟨⟨xs.take (Int.toNat (xprefix.length : Int))⟩⟩), (15, .string ⟨⟨xprefix⟩⟩)] (by kernel_rfl) ?_
      refine Ok.opYes (j := 5) (d := 10) (want := true) (b := true) rfl (by kernel_rfl) (by kernel_rfl) rfl (OpOk.step (v := .bool ((xs.take (Int.toNat (xprefix.length : Int))) == xprefix)) (Yields.strCmp (f := .eql) (a := (xs.take (Int.toNat (xprefix.length : Int)))) (b := xprefix) (by kernel_rfl) (by kernel_rfl) rfl) rfl rfl ?_)
      refine Ok.batch 2 [(4, .bool ((xs.take (Int.toNat (xprefix.length : Int))) == xprefix))] (by kernel_rfl) ?_
      refine Ok.nil ?_
      refine Ok.thenN ?_
      refine Ok.reval 4 rfl (show (.bool ((xs.take (Int.toNat (xprefix.length : Int))) == xprefix) : Value) = .bool ((decide ((xs.length : Int) ≥ (xprefix.length : Int))) && ((xs.take (Int.toNat (xprefix.length : Int))) == xprefix)) from congrArg (Value.bool) (mand_t hc1)) ?_
      exact fun a W hA hW => ⟨hA.sub (by kernel_rfl), hW, hF⟩
    · replace hF := hF.2 hc1
      refine Ok.batch 8 [(4, .bool false)] (by kernel_rfl) ?_
      refine Ok.nil ?_
      refine Ok.thenN ?_
      refine Ok.reval 4 rfl (show (.bool false : Value) = .bool ((decide ((xs.length : Int) ≥ (xprefix.length : Int))) && ((xs.take (Int.toNat (xprefix.length : Int))) == xprefix)) from congrArg (Value.bool) (mand_f hc1)) ?_
      exact fun a W hA hW => ⟨hA.sub (by kernel_rfl), hW, hF⟩
  ·
    clear hF
    rintro a W ⟨hA, hW, hF⟩
    refine (?_ : Ok _ _ _ _ _ _) a W hA hW
    clear hA hW
    refine Ok.ret ?_
    exact Ok.resH (vs := [.bool ((decide ((xs.length : Int) ≥ (xprefix.length : Int))) && ((xs.take (Int.toNat (xprefix.length : Int))) == xprefix))]) (.inl rfl) rfl (.cons (.tmp rfl) .nil) (Gext.refl w0 g) ⟨((decide ((xs.length : Int) ≥ (xprefix.length : Int))) && ((xs.take (Int.toNat (xprefix.length : Int))) == xprefix)), rfl, rfl, hF⟩
def slhpj3M (xs : List UInt8) (xprefix : List UInt8) : Bool := ((decide ((xs.length : Int) ≥ (xprefix.length : Int))) && ((xs.take (Int.toNat (xprefix.length : Int))) == xprefix))
set_option linter.unusedSimpArgs false in
set_option linter.unusedVariables false in
theorem slhpj3_A (xs : List UInt8) (xprefix : List UInt8) (P : Bool → Prop) (h : P (slhpj3M xs xprefix)) : slhpj3 xs xprefix (fun k0 => P k0) := by
  unfold slhpj3M at h
  unfold slhpj3
  exact h
def slhpM (xs : List UInt8) (xprefix : List UInt8) : Bool := (slhpj3M xs xprefix)
set_option linter.unusedSimpArgs false in
set_option linter.unusedVariables false in
theorem slhpF_A (xs : List UInt8) (xprefix : List UInt8) (P : Bool → Prop) (h : P (slhpM xs xprefix)) : slhpF xs xprefix (fun k0 => P k0) := by
  unfold slhpM at h
  unfold slhpF
  refine ⟨fun hc0 => ?_, fun hc0 => ?_⟩
  · skip
    have hd0 := of_decide_eq_true hc0
    refine ⟨?_, ?_, ?_, ?_⟩
    · first | omega | assumption | exact trivial | (have h0 := List.length_pos_iff.mpr (by assumption); omega) | (simp; omega) | (simp at *; omega)
    · first | omega | assumption | exact trivial | (have h0 := List.length_pos_iff.mpr (by assumption); omega) | (simp; omega) | (simp at *; omega)
    · first | omega | assumption | exact trivial | (have h0 := List.length_pos_iff.mpr (by assumption); omega) | (simp; omega) | (simp at *; omega)
    exact slhpj3_A xs xprefix _ h
  · skip
    have hd0 := of_decide_eq_false hc0
    exact slhpj3_A xs xprefix _ h
theorem slhp_F (xs : List UInt8) (xprefix : List UInt8) : slhpF xs xprefix (fun k0 => k0 = slhpM xs xprefix) :=
  slhpF_A xs xprefix (fun z => z = slhpM xs xprefix) rfl
set_option linter.unusedVariables false in
theorem slhp_c {g : Ghost} (xs : List UInt8) (xprefix : List UInt8)  : CallsG Tryd.prog 36 #[.string ⟨⟨xs⟩⟩, .string ⟨⟨xprefix⟩⟩] g (.bool (slhpM xs xprefix)) :=
  (slhp_ok xs xprefix _ (slhp_F xs xprefix)).gives (by rintro g' H' v _ ⟨r0, rfl, rfl, hK⟩; subst hK; rfl)
def hpF (xs : List UInt8) (xprefix : List UInt8) (K : Bool → Prop) : Prop :=
  K (slhpM xs xprefix)
set_option maxHeartbeats 4000000 in
set_option maxRecDepth 100000 in
set_option linter.unusedVariables false in
theorem hp_ok {g : Ghost} (xs : List UInt8) (xprefix : List UInt8) (K : Bool → Prop)
    (hF : hpF xs xprefix K) : CallsH Tryd.prog 15 #[.string ⟨⟨xs⟩⟩, .string ⟨⟨xprefix⟩⟩] g [] (fun g' H' v => ∃ (r0 : Bool), v = .bool r0 ∧ H' = [] ∧ K r0) := by
  refine CallsH.enter 8 [(0, .string ⟨⟨xs⟩⟩), (1, .string ⟨⟨xprefix⟩⟩)] Tryd.func15 rfl (by kernel_rfl) (by kernel_rfl) (by kernel_rfl) fun w0 => ?_
  refine Ok.seq ?_
  refine Ok.region ?_
  refine Ok.batch 1 [(0, .string ⟨⟨xs⟩⟩), (1, .string ⟨⟨xprefix⟩⟩)] (by kernel_rfl) ?_
  refine Ok.nil ?_
  refine Ok.thenN ?_
  refine Ok.seq ?_
  refine Ok.region ?_
  refine Ok.batch 2 [(5, .string ⟨⟨xs⟩⟩), (6, .string ⟨⟨xprefix⟩⟩)] (by kernel_rfl) ?_
  refine Ok.op rfl (OpOk.callG (v := .bool (slhpM xs xprefix)) (enters (by kernel_rfl) (fun _ => by kernel_rfl)) (fun W hW => slhp_c xs xprefix) rfl ?_)
  refine Ok.batch 1 [(4, .bool (slhpM xs xprefix))] (by kernel_rfl) ?_
  refine Ok.nil ?_
  refine Ok.thenN ?_
  refine Ok.ret ?_
  exact Ok.resH (vs := [.bool (slhpM xs xprefix)]) (.inl rfl) rfl (.cons (.tmp rfl) .nil) (Gext.refl w0 g) ⟨(slhpM xs xprefix), rfl, rfl, hF⟩
def hpM (xs : List UInt8) (xprefix : List UInt8) : Bool := (slhpM xs xprefix)
set_option linter.unusedSimpArgs false in
set_option linter.unusedVariables false in
theorem hpF_A (xs : List UInt8) (xprefix : List UInt8) (P : Bool → Prop) (h : P (hpM xs xprefix)) : hpF xs xprefix (fun k0 => P k0) := by
  unfold hpM at h
  unfold hpF
  exact h
theorem hp_F (xs : List UInt8) (xprefix : List UInt8) : hpF xs xprefix (fun k0 => k0 = hpM xs xprefix) :=
  hpF_A xs xprefix (fun z => z = hpM xs xprefix) rfl
set_option linter.unusedVariables false in
theorem hp_c {g : Ghost} (xs : List UInt8) (xprefix : List UInt8)  : CallsG Tryd.prog 15 #[.string ⟨⟨xs⟩⟩, .string ⟨⟨xprefix⟩⟩] g (.bool (hpM xs xprefix)) :=
  (hp_ok xs xprefix _ (hp_F xs xprefix)).gives (by rintro g' H' v _ ⟨r0, rfl, rfl, hK⟩; subst hK; rfl)
def btwF (xn : Int) (xlow : Int) (xhigh : Int) (K : Bool → Prop) : Prop :=
  K ((decide (xlow ≤ xn)) && (decide (xn ≤ xhigh)))
set_option maxHeartbeats 4000000 in
set_option maxRecDepth 100000 in
set_option linter.unusedVariables false in
theorem btw_ok {g : Ghost} (xn : Int) (xlow : Int) (xhigh : Int) (K : Bool → Prop)
    (hF : btwF xn xlow xhigh K) : CallsH Tryd.prog 16 #[.int .i64 xn, .int .i64 xlow, .int .i64 xhigh] g [] (fun g' H' v => ∃ (r0 : Bool), v = .bool r0 ∧ H' = [] ∧ K r0) := by
  refine CallsH.enter 15 [(0, .int .i64 xn), (1, .int .i64 xlow), (2, .int .i64 xhigh)] Tryd.func16 rfl (by kernel_rfl) (by kernel_rfl) (by kernel_rfl) fun w0 => ?_
  refine Ok.seq ?_
  refine Ok.region ?_
  refine Ok.batch 1 [(0, .int .i64 xn), (1, .int .i64 xlow), (2, .int .i64 xhigh)] (by kernel_rfl) ?_
  refine Ok.nil ?_
  refine Ok.thenN ?_
  refine Ok.seq ?_
  refine Ok.region ?_
  refine Ok.batch 4 [(0, .int .i64 xn), (2, .int .i64 xhigh), (10, .bool (decide (xlow ≤ xn)))] (by kernel_rfl) ?_
  refine Ok.midway 4 [(14, .bool ((decide (xlow ≤ xn)) && (decide (xn ≤ xhigh))))] (fun hR1 => ?_) ?_
  · refine Ok.boolAt 10 (decide (xlow ≤ xn)) rfl (fun hc2 => ?_) (fun hc2 => ?_)
    · skip
      refine Ok.batch 4 [(14, .bool (decide (xn ≤ xhigh)))] (by kernel_rfl) ?_
      refine Ok.reval 14 rfl (show (.bool (decide (xn ≤ xhigh)) : Value) = .bool ((decide (xlow ≤ xn)) && (decide (xn ≤ xhigh))) from congrArg Value.bool (mand_t hc2)) ?_
      refine Ok.batch 0 [(14, .bool ((decide (xlow ≤ xn)) && (decide (xn ≤ xhigh))))] (by kernel_rfl) ?_
      exact hR1
    · skip
      refine Ok.batch 4 [(14, .bool false)] (by kernel_rfl) ?_
      refine Ok.reval 14 rfl (show (.bool false : Value) = .bool ((decide (xlow ≤ xn)) && (decide (xn ≤ xhigh))) from congrArg Value.bool (mand_f hc2)) ?_
      refine Ok.batch 0 [(14, .bool ((decide (xlow ≤ xn)) && (decide (xn ≤ xhigh))))] (by kernel_rfl) ?_
      exact hR1
  refine Ok.batch 1 [(6, .bool ((decide (xlow ≤ xn)) && (decide (xn ≤ xhigh))))] (by kernel_rfl) ?_
  refine Ok.nil ?_
  refine Ok.thenN ?_
  refine Ok.ret ?_
  exact Ok.resH (vs := [.bool ((decide (xlow ≤ xn)) && (decide (xn ≤ xhigh)))]) (.inl rfl) rfl (.cons (.tmp rfl) .nil) (Gext.refl w0 g) ⟨((decide (xlow ≤ xn)) && (decide (xn ≤ xhigh))), rfl, rfl, hF⟩
def btwM (xn : Int) (xlow : Int) (xhigh : Int) : Bool := ((decide (xlow ≤ xn)) && (decide (xn ≤ xhigh)))
set_option linter.unusedSimpArgs false in
set_option linter.unusedVariables false in
theorem btwF_A (xn : Int) (xlow : Int) (xhigh : Int) (P : Bool → Prop) (h : P (btwM xn xlow xhigh)) : btwF xn xlow xhigh (fun k0 => P k0) := by
  unfold btwM at h
  unfold btwF
  exact h
theorem btw_F (xn : Int) (xlow : Int) (xhigh : Int) : btwF xn xlow xhigh (fun k0 => k0 = btwM xn xlow xhigh) :=
  btwF_A xn xlow xhigh (fun z => z = btwM xn xlow xhigh) rfl
set_option linter.unusedVariables false in
theorem btw_c {g : Ghost} (xn : Int) (xlow : Int) (xhigh : Int)  : CallsG Tryd.prog 16 #[.int .i64 xn, .int .i64 xlow, .int .i64 xhigh] g (.bool (btwM xn xlow xhigh)) :=
  (btw_ok xn xlow xhigh _ (btw_F xn xlow xhigh)).gives (by rintro g' H' v _ ⟨r0, rfl, rfl, hK⟩; subst hK; rfl)
def rwordj3 (xs : List UInt8) (K : Bool → Prop) : Prop :=
  K ((!(xs == ([] : List UInt8))) && (scontS ([32, 108, 101, 116, 32, 102, 110, 32, 105, 102, 32, 101, 108, 115, 101, 32, 119, 104, 105, 108, 101, 32, 102, 111, 114, 32, 111, 102, 32, 114, 101, 116, 117, 114, 110, 32, 98, 114, 101, 97, 107, 32, 99, 111, 110, 116, 105, 110, 117, 101, 32, 116, 104, 114, 111, 119, 32, 116, 114, 121, 32, 99, 97, 116, 99, 104, 32, 102, 105, 110, 97, 108, 108, 121, 32, 116, 114, 117, 101, 32, 102, 97, 108, 115, 101, 32, 110, 117, 108, 108, 32] : List UInt8) ((([32] : List UInt8) ++ xs) ++ ([32] : List UInt8))))
def rwordF (xs : List UInt8) (K : Bool → Prop) : Prop :=
  ((!(xs == ([] : List UInt8))) = true → ([32] : List UInt8).length + xs.length ≤ maxLen ∧ (([32] : List UInt8) ++ xs).length + ([32] : List UInt8).length ≤ maxLen ∧ scontP ([32, 108, 101, 116, 32, 102, 110, 32, 105, 102, 32, 101, 108, 115, 101, 32, 119, 104, 105, 108, 101, 32, 102, 111, 114, 32, 111, 102, 32, 114, 101, 116, 117, 114, 110, 32, 98, 114, 101, 97, 107, 32, 99, 111, 110, 116, 105, 110, 117, 101, 32, 116, 104, 114, 111, 119, 32, 116, 114, 121, 32, 99, 97, 116, 99, 104, 32, 102, 105, 110, 97, 108, 108, 121, 32, 116, 114, 117, 101, 32, 102, 97, 108, 115, 101, 32, 110, 117, 108, 108, 32] : List UInt8) ((([32] : List UInt8) ++ xs) ++ ([32] : List UInt8)) ∧ rwordj3 xs K) ∧ ((!(xs == ([] : List UInt8))) = false → rwordj3 xs K)
set_option maxHeartbeats 4000000 in
set_option maxRecDepth 100000 in
set_option linter.unusedVariables false in
theorem rword_ok {g : Ghost} (xs : List UInt8) (hG1 : SomeInt g 1) (K : Bool → Prop)
    (hF : rwordF xs K) : CallsH Tryd.prog 18 #[.string ⟨⟨xs⟩⟩] g [] (fun g' H' v => ∃ (r0 : Bool), v = .bool r0 ∧ H' = [] ∧ K r0) := by
  refine CallsH.enter 11 [(0, .string ⟨⟨xs⟩⟩)] Tryd.func18 rfl (by kernel_rfl) (by kernel_rfl) (by kernel_rfl) fun w0 => ?_
  refine Ok.seq ?_
  refine Ok.region ?_
  refine Ok.batch 1 [(0, .string ⟨⟨xs⟩⟩)] (by kernel_rfl) ?_
  refine Ok.nil ?_
  refine Ok.thenN ?_
  refine Ok.cut (fun a W => StA 11 [(2, .bool ((!(xs == ([] : List UInt8))) && (scontS ([32, 108, 101, 116, 32, 102, 110, 32, 105, 102, 32, 101, 108, 115, 101, 32, 119, 104, 105, 108, 101, 32, 102, 111, 114, 32, 111, 102, 32, 114, 101, 116, 117, 114, 110, 32, 98, 114, 101, 97, 107, 32, 99, 111, 110, 116, 105, 110, 117, 101, 32, 116, 104, 114, 111, 119, 32, 116, 114, 121, 32, 99, 97, 116, 99, 104, 32, 102, 105, 110, 97, 108, 108, 121, 32, 116, 114, 117, 101, 32, 102, 97, 108, 115, 101, 32, 110, 117, 108, 108, 32] : List UInt8) ((([32] : List UInt8) ++ xs) ++ ([32] : List UInt8)))))] a ∧ StW w0 [] g W ∧ rwordj3 xs K) ?_ ?_
  ·
    refine Ok.region ?_
    refine Ok.batch 1 [(0, .string ⟨⟨xs⟩⟩), (3, .string ⟨⟨xs⟩⟩)] (by kernel_rfl) ?_
    refine Ok.op rfl (OpOk.step (v := .bool (!(xs == ([] : List UInt8)))) (Yields.strCmp (f := .neq) (a := xs) (b := ([] : List UInt8)) (by kernel_rfl) (by kernel_rfl) rfl) rfl rfl ?_)
    refine Ok.batch 1 [(0, .string ⟨⟨xs⟩⟩), (5, .bool (!(xs == ([] : List UInt8))))] (by kernel_rfl) ?_
    refine Ok.boolAt 5 (!(xs == ([] : List UInt8))) rfl (fun hc1 => ?_) (fun hc1 => ?_)
    · replace hF := hF.1 hc1
      refine Ok.batch 1 [(5, .bool true), (6, .string ⟨⟨xs⟩⟩)] (by kernel_rfl) ?_
      obtain ⟨hv, hF⟩ := hF
      refine Ok.opYes (j := 2) (d := 5) (want := true) (b := true) rfl (by kernel_rfl) (by kernel_rfl) rfl (OpOk.step (v := .string ⟨⟨([32] : List UInt8) ++ xs⟩⟩) (Yields.strAdd rfl rfl hv) rfl rfl ?_)
      obtain ⟨hv, hF⟩ := hF
      refine Ok.opYes (j := 2) (d := 5) (want := true) (b := true) rfl (by kernel_rfl) (by kernel_rfl) rfl (OpOk.step (v := .string ⟨⟨(([32] : List UInt8) ++ xs) ++ ([32] : List UInt8)⟩⟩) (Yields.strAdd rfl rfl hv) rfl rfl ?_)
      obtain ⟨hp2, hF⟩ := hF
      refine Ok.opYes (j := 2) (d := 5) (want := true) (b := true) rfl (by kernel_rfl) (by kernel_rfl) rfl (OpOk.callG (v := .bool (scontS ([32, 108, 101, 116, 32, 102, 110, 32, 105, 102, 32, 101, 108, 115, 101, 32, 119, 104, 105, 108, 101, 32, 102, 111, 114, 32, 111, 102, 32, 114, 101, 116, 117, 114, 110, 32, 98, 114, 101, 97, 107, 32, 99, 111, 110, 116, 105, 110, 117, 101, 32, 116, 104, 114, 111, 119, 32, 116, 114, 121, 32, 99, 97, 116, 99, 104, 32, 102, 105, 110, 97, 108, 108, 121, 32, 116, 114, 117, 101, 32, 102, 97, 108, 115, 101, 32, 110, 117, 108, 108, 32] : List UInt8) ((([32] : List UInt8) ++ xs) ++ ([32] : List UInt8)))) (enters (by kernel_rfl) (fun _ => by kernel_rfl)) (fun W hW => scont_c ([32, 108, 101, 116, 32, 102, 110, 32, 105, 102, 32, 101, 108, 115, 101, 32, 119, 104, 105, 108, 101, 32, 102, 111, 114, 32, 111, 102, 32, 114, 101, 116, 117, 114, 110, 32, 98, 114, 101, 97, 107, 32, 99, 111, 110, 116, 105, 110, 117, 101, 32, 116, 104, 114, 111, 119, 32, 116, 114, 121, 32, 99, 97, 116, 99, 104, 32, 102, 105, 110, 97, 108, 108, 121, 32, 116, 114, 117, 101, 32, 102, 97, 108, 115, 101, 32, 110, 117, 108, 108, 32] : List UInt8) ((([32] : List UInt8) ++ xs) ++ ([32] : List UInt8)) (hG1.mono hW.sees) hp2) rfl ?_)
      refine Ok.batch 2 [(2, .bool (scontS ([32, 108, 101, 116, 32, 102, 110, 32, 105, 102, 32, 101, 108, 115, 101, 32, 119, 104, 105, 108, 101, 32, 102, 111, 114, 32, 111, 102, 32, 114, 101, 116, 117, 114, 110, 32, 98, 114, 101, 97, 107, 32, 99, 111, 110, 116, 105, 110, 117, 101, 32, 116, 104, 114, 111, 119, 32, 116, 114, 121, 32, 99, 97, 116, 99, 104, 32, 102, 105, 110, 97, 108, 108, 121, 32, 116, 114, 117, 101, 32, 102, 97, 108, 115, 101, 32, 110, 117, 108, 108, 32] : List UInt8) ((([32] : List UInt8) ++ xs) ++ ([32] : List UInt8))))] (by kernel_rfl) ?_
      refine Ok.nil ?_
      refine Ok.thenN ?_
      refine Ok.reval 2 rfl (show (.bool (scontS ([32, 108, 101, 116, 32, 102, 110, 32, 105, 102, 32, 101, 108, 115, 101, 32, 119, 104, 105, 108, 101, 32, 102, 111, 114, 32, 111, 102, 32, 114, 101, 116, 117, 114, 110, 32, 98, 114, 101, 97, 107, 32, 99, 111, 110, 116, 105, 110, 117, 101, 32, 116, 104, 114, 111, 119, 32, 116, 114, 121, 32, 99, 97, 116, 99, 104, 32, 102, 105, 110, 97, 108, 108, 121, 32, 116, 114, 117, 101, 32, 102, 97, 108, 115, 101, 32, 110, 117, 108, 108, 32] : List UInt8) ((([32] : List UInt8) ++ xs) ++ ([32] : List UInt8))) : Value) = .bool ((!(xs == ([] : List UInt8))) && (scontS ([32, 108, 101, 116, 32, 102, 110, 32, 105, 102, 32, 101, 108, 115, 101, 32, 119, 104, 105, 108, 101, 32, 102, 111, 114, 32, 111, 102, 32, 114, 101, 116, 117, 114, 110, 32, 98, 114, 101, 97, 107, 32, 99, 111, 110, 116, 105, 110, 117, 101, 32, 116, 104, 114, 111, 119, 32, 116, 114, 121, 32, 99, 97, 116, 99, 104, 32, 102, 105, 110, 97, 108, 108, 121, 32, 116, 114, 117, 101, 32, 102, 97, 108, 115, 101, 32, 110, 117, 108, 108, 32] : List UInt8) ((([32] : List UInt8) ++ xs) ++ ([32] : List UInt8)))) from congrArg (Value.bool) (mand_t hc1)) ?_
      exact fun a W hA hW => ⟨hA.sub (by kernel_rfl), hW, hF⟩
    · replace hF := hF.2 hc1
      refine Ok.batch 6 [(2, .bool false)] (by kernel_rfl) ?_
      refine Ok.nil ?_
      refine Ok.thenN ?_
      refine Ok.reval 2 rfl (show (.bool false : Value) = .bool ((!(xs == ([] : List UInt8))) && (scontS ([32, 108, 101, 116, 32, 102, 110, 32, 105, 102, 32, 101, 108, 115, 101, 32, 119, 104, 105, 108, 101, 32, 102, 111, 114, 32, 111, 102, 32, 114, 101, 116, 117, 114, 110, 32, 98, 114, 101, 97, 107, 32, 99, 111, 110, 116, 105, 110, 117, 101, 32, 116, 104, 114, 111, 119, 32, 116, 114, 121, 32, 99, 97, 116, 99, 104, 32, 102, 105, 110, 97, 108, 108, 121, 32, 116, 114, 117, 101, 32, 102, 97, 108, 115, 101, 32, 110, 117, 108, 108, 32] : List UInt8) ((([32] : List UInt8) ++ xs) ++ ([32] : List UInt8)))) from congrArg (Value.bool) (mand_f hc1)) ?_
      exact fun a W hA hW => ⟨hA.sub (by kernel_rfl), hW, hF⟩
  ·
    clear hF
    rintro a W ⟨hA, hW, hF⟩
    refine (?_ : Ok _ _ _ _ _ _) a W hA hW
    clear hA hW
    refine Ok.ret ?_
    exact Ok.resH (vs := [.bool ((!(xs == ([] : List UInt8))) && (scontS ([32, 108, 101, 116, 32, 102, 110, 32, 105, 102, 32, 101, 108, 115, 101, 32, 119, 104, 105, 108, 101, 32, 102, 111, 114, 32, 111, 102, 32, 114, 101, 116, 117, 114, 110, 32, 98, 114, 101, 97, 107, 32, 99, 111, 110, 116, 105, 110, 117, 101, 32, 116, 104, 114, 111, 119, 32, 116, 114, 121, 32, 99, 97, 116, 99, 104, 32, 102, 105, 110, 97, 108, 108, 121, 32, 116, 114, 117, 101, 32, 102, 97, 108, 115, 101, 32, 110, 117, 108, 108, 32] : List UInt8) ((([32] : List UInt8) ++ xs) ++ ([32] : List UInt8))))]) (.inl rfl) rfl (.cons (.tmp rfl) .nil) (Gext.refl w0 g) ⟨((!(xs == ([] : List UInt8))) && (scontS ([32, 108, 101, 116, 32, 102, 110, 32, 105, 102, 32, 101, 108, 115, 101, 32, 119, 104, 105, 108, 101, 32, 102, 111, 114, 32, 111, 102, 32, 114, 101, 116, 117, 114, 110, 32, 98, 114, 101, 97, 107, 32, 99, 111, 110, 116, 105, 110, 117, 101, 32, 116, 104, 114, 111, 119, 32, 116, 114, 121, 32, 99, 97, 116, 99, 104, 32, 102, 105, 110, 97, 108, 108, 121, 32, 116, 114, 117, 101, 32, 102, 97, 108, 115, 101, 32, 110, 117, 108, 108, 32] : List UInt8) ((([32] : List UInt8) ++ xs) ++ ([32] : List UInt8)))), rfl, rfl, hF⟩
def rwordP (s : List UInt8) : Prop := s.length ≤ 1000000 ∧ ∀ c ∈ s, c ≠ 32
def rwordS (s : List UInt8) : Bool := !(s == []) && (fieldsS KW).contains s
theorem kw_text : Wd.wtext (fieldsS KW) = 32 :: (KW ++ [32]) := by decide +kernel
theorem kw_words : ∀ w ∈ fieldsS KW, ∀ c ∈ w, c ≠ 32 := by decide +kernel
theorem rword_F (s : List UInt8) (hp : rwordP s) : rwordF s (fun r => r = rwordS s) := by
  have hw : scontS (32 :: (KW ++ [32])) ((([32] : List UInt8) ++ s) ++ [32]) = (fieldsS KW).contains s := by
    rw [← kw_text]; exact Wd.contains_words s hp.2 _ kw_words
  have key : rwordj3 s (fun r => r = rwordS s) := by
    unfold rwordj3 rwordS
    rw [← hw]; rfl
  have hl := hp.1
  exact ⟨fun _ => ⟨by rw [maxLen_eq]; show 1 + s.length ≤ _; omega, by rw [maxLen_eq, List.length_append]; show (1 + s.length) + 1 ≤ _; omega, by unfold scontP; decide, key⟩, fun _ => key⟩
set_option linter.unusedVariables false in
theorem rword_c {g : Ghost} (xs : List UInt8) (hG1 : SomeInt g 1)  (hp : rwordP xs) : CallsG Tryd.prog 18 #[.string ⟨⟨xs⟩⟩] g (.bool (rwordS xs)) :=
  (rword_ok xs hG1 _ (rword_F xs hp)).gives (by rintro g' H' v _ ⟨r0, rfl, rfl, hK⟩; subst hK; rfl)
def rnbj3 (xc : Int) (K : Bool → Prop) : Prop :=
  K ((btwM (IntKind.wrap .i64 xc) 97 122) || ((btwM (IntKind.wrap .i64 xc) 65 90) || ((btwM (IntKind.wrap .i64 xc) 48 57) || (xc == 95))))
def rnbF (xc : Int) (K : Bool → Prop) : Prop :=
  (((btwM (IntKind.wrap .i64 xc) 97 122)) = true → rnbj3 xc K) ∧ (((btwM (IntKind.wrap .i64 xc) 97 122)) = false → (((btwM (IntKind.wrap .i64 xc) 65 90)) = true → rnbj3 xc K) ∧ (((btwM (IntKind.wrap .i64 xc) 65 90)) = false → rnbj3 xc K))
set_option maxHeartbeats 4000000 in
set_option maxRecDepth 100000 in
set_option linter.unusedVariables false in
theorem rnb_ok {g : Ghost} (xc : Int) (K : Bool → Prop)
    (hF : rnbF xc K) : CallsH Tryd.prog 17 #[.int .u8 xc] g [] (fun g' H' v => ∃ (r0 : Bool), v = .bool r0 ∧ H' = [] ∧ K r0) := by
  refine CallsH.enter 20 [(0, .int .u8 xc)] Tryd.func17 rfl (by kernel_rfl) (by kernel_rfl) (by kernel_rfl) fun w0 => ?_
  refine Ok.seq ?_
  refine Ok.region ?_
  refine Ok.batch 1 [(0, .int .u8 xc)] (by kernel_rfl) ?_
  refine Ok.nil ?_
  refine Ok.thenN ?_
  refine Ok.cut (fun a W => ∃ gj3 : Ghost, Gext w0 g gj3 ∧ StA 20 [(2, .bool ((btwM (IntKind.wrap .i64 xc) 97 122) || ((btwM (IntKind.wrap .i64 xc) 65 90) || ((btwM (IntKind.wrap .i64 xc) 48 57) || (xc == 95)))))] a ∧ StW w0 [] gj3 W ∧ rnbj3 xc K) ?_ ?_
  ·
    refine Ok.region ?_
    refine Ok.batch 2 [(0, .int .u8 xc), (4, .int .i64 (IntKind.wrap .i64 xc))] (by kernel_rfl) ?_
    refine Ok.op rfl (OpOk.callG (v := .bool (btwM (IntKind.wrap .i64 xc) 97 122)) (enters (by kernel_rfl) (fun _ => by kernel_rfl)) (fun W hW => btw_c (IntKind.wrap .i64 xc) 97 122) rfl ?_)
    refine Ok.batch 1 [(0, .int .u8 xc), (6, .bool (btwM (IntKind.wrap .i64 xc) 97 122))] (by kernel_rfl) ?_
    refine Ok.boolAt 6 ((btwM (IntKind.wrap .i64 xc) 97 122)) rfl (fun hc1 => ?_) (fun hc1 => ?_)
    · replace hF := hF.1 hc1
      refine Ok.batch 14 [(2, .bool true)] (by kernel_rfl) ?_
      refine Ok.nil ?_
      refine Ok.thenN ?_
      refine Ok.reval 2 rfl (show (.bool true : Value) = .bool ((btwM (IntKind.wrap .i64 xc) 97 122) || ((btwM (IntKind.wrap .i64 xc) 65 90) || ((btwM (IntKind.wrap .i64 xc) 48 57) || (xc == 95)))) from congrArg (Value.bool) (mor_t hc1)) ?_
      exact fun a W hA hW => ⟨g, (Gext.refl w0 g), hA.sub (by kernel_rfl), hW, hF⟩
    · replace hF := hF.2 hc1
      refine Ok.batch 2 [(0, .int .u8 xc), (6, .bool false), (8, .int .i64 (IntKind.wrap .i64 xc))] (by kernel_rfl) ?_
      refine Ok.opYes (j := 3) (d := 6) (want := false) (b := false) rfl (by kernel_rfl) (by kernel_rfl) rfl (OpOk.callG (v := .bool (btwM (IntKind.wrap .i64 xc) 65 90)) (enters (by kernel_rfl) (fun _ => by kernel_rfl)) (fun W hW => btw_c (IntKind.wrap .i64 xc) 65 90) rfl ?_)
      refine Ok.batch 2 [(0, .int .u8 xc), (11, .bool (btwM (IntKind.wrap .i64 xc) 65 90))] (by kernel_rfl) ?_
      refine Ok.boolAt 11 ((btwM (IntKind.wrap .i64 xc) 65 90)) rfl (fun hc2 => ?_) (fun hc2 => ?_)
      · replace hF := hF.1 hc2
        refine Ok.batch 9 [(2, .bool true)] (by kernel_rfl) ?_
        refine Ok.nil ?_
        refine Ok.thenN ?_
        refine Ok.reval 2 rfl (show (.bool true : Value) = .bool ((btwM (IntKind.wrap .i64 xc) 97 122) || ((btwM (IntKind.wrap .i64 xc) 65 90) || ((btwM (IntKind.wrap .i64 xc) 48 57) || (xc == 95)))) from congrArg (Value.bool) ((Eq.trans (mor_t hc2) (mor_f hc1)))) ?_
        exact fun a W hA hW => ⟨g, (Gext.refl w0 g), hA.sub (by kernel_rfl), hW, hF⟩
      · replace hF := hF.2 hc2
        refine Ok.batch 2 [(0, .int .u8 xc), (11, .bool false), (13, .int .i64 (IntKind.wrap .i64 xc))] (by kernel_rfl) ?_
        refine Ok.opYes (j := 8) (d := 11) (want := false) (b := false) rfl (by kernel_rfl) (by kernel_rfl) rfl (OpOk.callG (v := .bool (btwM (IntKind.wrap .i64 xc) 48 57)) (enters (by kernel_rfl) (fun _ => by kernel_rfl)) (fun W hW => btw_c (IntKind.wrap .i64 xc) 48 57) rfl ?_)
        refine Ok.batch 2 [(0, .int .u8 xc), (16, .bool (btwM (IntKind.wrap .i64 xc) 48 57))] (by kernel_rfl) ?_
        refine Ok.midway 3 [(19, .bool ((btwM (IntKind.wrap .i64 xc) 48 57) || (xc == 95)))] (fun hR3 => ?_) ?_
        · refine Ok.boolAt 16 ((btwM (IntKind.wrap .i64 xc) 48 57)) rfl (fun hc4 => ?_) (fun hc4 => ?_)
          · skip
            refine Ok.batch 3 [(19, .bool true)] (by kernel_rfl) ?_
            refine Ok.reval 19 rfl (show (.bool true : Value) = .bool ((btwM (IntKind.wrap .i64 xc) 48 57) || (xc == 95)) from congrArg Value.bool (mor_t hc4)) ?_
            refine Ok.batch 0 [(19, .bool ((btwM (IntKind.wrap .i64 xc) 48 57) || (xc == 95)))] (by kernel_rfl) ?_
            exact hR3
          · skip
            refine Ok.batch 3 [(19, .bool (xc == 95))] (by kernel_rfl) ?_
            refine Ok.reval 19 rfl (show (.bool (xc == 95) : Value) = .bool ((btwM (IntKind.wrap .i64 xc) 48 57) || (xc == 95)) from congrArg Value.bool (mor_f hc4)) ?_
            refine Ok.batch 0 [(19, .bool ((btwM (IntKind.wrap .i64 xc) 48 57) || (xc == 95)))] (by kernel_rfl) ?_
            exact hR3
        refine Ok.batch 1 [(2, .bool ((btwM (IntKind.wrap .i64 xc) 48 57) || (xc == 95)))] (by kernel_rfl) ?_
        refine Ok.nil ?_
        refine Ok.thenN ?_
        refine Ok.reval 2 rfl (show (.bool ((btwM (IntKind.wrap .i64 xc) 48 57) || (xc == 95)) : Value) = .bool ((btwM (IntKind.wrap .i64 xc) 97 122) || ((btwM (IntKind.wrap .i64 xc) 65 90) || ((btwM (IntKind.wrap .i64 xc) 48 57) || (xc == 95)))) from congrArg (Value.bool) ((Eq.trans (mor_f hc2) (mor_f hc1)))) ?_
        exact fun a W hA hW => ⟨g, (Gext.refl w0 g), hA.sub (by kernel_rfl), hW, hF⟩
  ·
    clear hF
    rintro a W ⟨gj3, hxj3, hA, hW, hF⟩
    refine (?_ : Ok _ _ _ _ _ _) a W hA hW
    clear hA hW
    refine Ok.ret ?_
    exact Ok.resH (vs := [.bool ((btwM (IntKind.wrap .i64 xc) 97 122) || ((btwM (IntKind.wrap .i64 xc) 65 90) || ((btwM (IntKind.wrap .i64 xc) 48 57) || (xc == 95))))]) (.inl rfl) rfl (.cons (.tmp rfl) .nil) hxj3 ⟨((btwM (IntKind.wrap .i64 xc) 97 122) || ((btwM (IntKind.wrap .i64 xc) 65 90) || ((btwM (IntKind.wrap .i64 xc) 48 57) || (xc == 95)))), rfl, rfl, hF⟩
def rnbj3M (xc : Int) : Bool := ((btwM (IntKind.wrap .i64 xc) 97 122) || ((btwM (IntKind.wrap .i64 xc) 65 90) || ((btwM (IntKind.wrap .i64 xc) 48 57) || (xc == 95))))
set_option linter.unusedSimpArgs false in
set_option linter.unusedVariables false in
theorem rnbj3_A (xc : Int) (P : Bool → Prop) (h : P (rnbj3M xc)) : rnbj3 xc (fun k0 => P k0) := by
  unfold rnbj3M at h
  unfold rnbj3
  exact h
def rnbM (xc : Int) : Bool := (rnbj3M xc)
set_option linter.unusedSimpArgs false in
set_option linter.unusedVariables false in
theorem rnbF_A (xc : Int) (P : Bool → Prop) (h : P (rnbM xc)) : rnbF xc (fun k0 => P k0) := by
  unfold rnbM at h
  unfold rnbF
  refine ⟨fun hc0 => ?_, fun hc0 => ?_⟩
  · skip
    exact rnbj3_A xc _ h
  · skip
    refine ⟨fun hc1 => ?_, fun hc1 => ?_⟩
    · skip
      exact rnbj3_A xc _ h
    · skip
      exact rnbj3_A xc _ h
theorem rnb_F (xc : Int) : rnbF xc (fun k0 => k0 = rnbM xc) :=
  rnbF_A xc (fun z => z = rnbM xc) rfl
set_option linter.unusedVariables false in
theorem rnb_c {g : Ghost} (xc : Int)  : CallsG Tryd.prog 17 #[.int .u8 xc] g (.bool (rnbM xc)) :=
  (rnb_ok xc _ (rnb_F xc)).gives (by rintro g' H' v _ ⟨r0, rfl, rfl, hK⟩; subst hK; rfl)
theorem byte_all {p : UInt8 → Bool} (h : (List.range 256).all (fun n => p (UInt8.ofNat n)) = true) (c : UInt8) : p c = true := by
  have h1 := List.all_eq_true.1 h c.toNat (by simpa using c.toNat_lt)
  simpa using h1
theorem sub1 (s : List UInt8) {i : Int} (h0 : 0 ≤ i) (h1 : i < (s.length : Int)) : (s.take (Int.toNat (i + 1))).drop (Int.toNat i) = [s.getD i.toNat 0] := by
  rw [show Int.toNat (i + 1) = i.toNat + 1 by omega, take_get (l := s) 0 (by omega), List.drop_append_of_le_length (by rw [List.length_take]; omega), List.drop_of_length_le (by rw [List.length_take]; omega)]
  rfl
theorem one_eq (c d : UInt8) : ([c] == [d]) = ((c.toNat : Int) == (d.toNat : Int)) := by
  rw [Bool.eq_iff_iff, beq_iff_eq, beq_iff_eq]
  constructor
  · intro h; injection h with h; rw [h]
  · intro h; rw [UInt8.toNat_inj.1 (show c.toNat = d.toNat by omega)]
theorem one34 (c : UInt8) : ([c] == [34]) = ((c.toNat : Int) == 34) := one_eq c 34
theorem one92 (c : UInt8) : ([c] == [92]) = ((c.toNat : Int) == 92) := one_eq c 92
def hexOk (c : UInt8) : Bool := (scontS HX [c] == decide (ibS HX (c.toNat : Int) ≥ 0)) && (idxS HX [c] == ibS HX (c.toNat : Int)) && (!decide ((c.toNat : Int) > 127) || decide (ibS HX (c.toNat : Int) < 0)) && decide (ibS HX (c.toNat : Int) < 16)
theorem hex_ok (c : UInt8) : hexOk c = true := byte_all (by decide +kernel) c
def nibOk (a b : Int) : Bool := UInt8.ofNat (Int.toNat (IntKind.wrap .u8 (IntKind.wrap .i64 (IntKind.wrap .i64 (16 * a) + b)))) == UInt8.ofNat (Int.toNat (IntKind.wrap .u8 (bitOr .i64 (IntKind.wrap .i64 (a * 2 ^ 4)) b)))
theorem nib_all : (List.range 16).all (fun n => (List.range 16).all fun m => nibOk (n : Int) (m : Int)) = true := by decide +kernel
theorem nib {a b : Int} (h1 : 0 ≤ a) (h2 : a < 16) (h3 : 0 ≤ b) (h4 : b < 16) : UInt8.ofNat (Int.toNat (IntKind.wrap .u8 (IntKind.wrap .i64 (IntKind.wrap .i64 (16 * a) + b)))) = UInt8.ofNat (Int.toNat (IntKind.wrap .u8 (bitOr .i64 (IntKind.wrap .i64 (a * 2 ^ 4)) b))) := by
  obtain ⟨n, rfl⟩ := Int.eq_ofNat_of_zero_le h1
  obtain ⟨m, rfl⟩ := Int.eq_ofNat_of_zero_le h3
  have h := List.all_eq_true.1 (List.all_eq_true.1 nib_all n (List.mem_range.2 (by omega))) m (List.mem_range.2 (by omega))
  exact beq_iff_eq.1 h
def rtaj16 (xs : List UInt8) (x6j16 : List UInt8) (x7l9 : Int) (C9 : (List UInt8) → Int → Prop) : Prop :=
  C9 x6j16 (IntKind.wrap .i64 ((if (!(((xs.take (Int.toNat (IntKind.wrap .i64 (x7l9 + 1)))).drop (Int.toNat x7l9)) == ([92] : List UInt8))) = true then x7l9 else (if ((((xs.getD (Int.toNat (IntKind.wrap .i64 (x7l9 + 1))) 0).toNat : Int) == 34) || (((xs.getD (Int.toNat (IntKind.wrap .i64 (x7l9 + 1))) 0).toNat : Int) == 92)) = true then IntKind.wrap .i64 (x7l9 + 1) else (if (((xs.getD (Int.toNat (IntKind.wrap .i64 (x7l9 + 1))) 0).toNat : Int) == 110) = true then IntKind.wrap .i64 (x7l9 + 1) else (if (((xs.getD (Int.toNat (IntKind.wrap .i64 (x7l9 + 1))) 0).toNat : Int) == 116) = true then IntKind.wrap .i64 (x7l9 + 1) else IntKind.wrap .i64 ((IntKind.wrap .i64 (x7l9 + 1)) + 2))))) + 1))
def rtaj91 (xs : List UInt8) (K : (List UInt8) → Int → Prop) (x10l81 : Int) (x11l81 : Int) (x7l9 : Int) (C81 : Int → Int → Prop) : Prop :=
  ((((decide ((IntKind.wrap .i64 ((IntKind.wrap .i64 (x7l9 + 1)) + x11l81)) ≥ (xs.length : Int))) || ((decide (((xs.getD (Int.toNat (IntKind.wrap .i64 ((IntKind.wrap .i64 (x7l9 + 1)) + x11l81))) 0).toNat : Int) > 127)) || (!(scontS ([48, 49, 50, 51, 52, 53, 54, 55, 56, 57, 97, 98, 99, 100, 101, 102] : List UInt8) ((xs.take (Int.toNat (IntKind.wrap .i64 ((IntKind.wrap .i64 ((IntKind.wrap .i64 (x7l9 + 1)) + x11l81)) + 1)))).drop (Int.toNat (IntKind.wrap .i64 ((IntKind.wrap .i64 (x7l9 + 1)) + x11l81))))))))) = true → K ([] : List UInt8) (-1)) ∧ ((((decide ((IntKind.wrap .i64 ((IntKind.wrap .i64 (x7l9 + 1)) + x11l81)) ≥ (xs.length : Int))) || ((decide (((xs.getD (Int.toNat (IntKind.wrap .i64 ((IntKind.wrap .i64 (x7l9 + 1)) + x11l81))) 0).toNat : Int) > 127)) || (!(scontS ([48, 49, 50, 51, 52, 53, 54, 55, 56, 57, 97, 98, 99, 100, 101, 102] : List UInt8) ((xs.take (Int.toNat (IntKind.wrap .i64 ((IntKind.wrap .i64 ((IntKind.wrap .i64 (x7l9 + 1)) + x11l81)) + 1)))).drop (Int.toNat (IntKind.wrap .i64 ((IntKind.wrap .i64 (x7l9 + 1)) + x11l81))))))))) = false → (0 : Int) ≤ (IntKind.wrap .i64 ((IntKind.wrap .i64 (x7l9 + 1)) + x11l81)) ∧ ((IntKind.wrap .i64 ((IntKind.wrap .i64 (x7l9 + 1)) + x11l81)) : Int) ≤ (IntKind.wrap .i64 ((IntKind.wrap .i64 ((IntKind.wrap .i64 (x7l9 + 1)) + x11l81)) + 1)) ∧ (IntKind.wrap .i64 ((IntKind.wrap .i64 ((IntKind.wrap .i64 (x7l9 + 1)) + x11l81)) + 1)) ≤ (xs.length : Int) ∧ idxP ([48, 49, 50, 51, 52, 53, 54, 55, 56, 57, 97, 98, 99, 100, 101, 102] : List UInt8) ((xs.take (Int.toNat (IntKind.wrap .i64 ((IntKind.wrap .i64 ((IntKind.wrap .i64 (x7l9 + 1)) + x11l81)) + 1)))).drop (Int.toNat (IntKind.wrap .i64 ((IntKind.wrap .i64 (x7l9 + 1)) + x11l81)))) ∧ C81 (IntKind.wrap .i64 ((IntKind.wrap .i64 (16 * x10l81)) + (idxS ([48, 49, 50, 51, 52, 53, 54, 55, 56, 57, 97, 98, 99, 100, 101, 102] : List UInt8) ((xs.take (Int.toNat (IntKind.wrap .i64 ((IntKind.wrap .i64 ((IntKind.wrap .i64 (x7l9 + 1)) + x11l81)) + 1)))).drop (Int.toNat (IntKind.wrap .i64 ((IntKind.wrap .i64 (x7l9 + 1)) + x11l81))))))) (IntKind.wrap .i64 (x11l81 + 1)))
def rtal81b (xs : List UInt8) (K : (List UInt8) → Int → Prop) (x6l9 : List UInt8) (x7l9 : Int) (C9 : (List UInt8) → Int → Prop) (x10l81 : Int) (x11l81 : Int) (C81 : Int → Int → Prop) : Prop :=
  ((decide (x11l81 < 3)) = true → ((decide ((IntKind.wrap .i64 ((IntKind.wrap .i64 (x7l9 + 1)) + x11l81)) ≥ (xs.length : Int))) = true → rtaj91 xs K x10l81 x11l81 x7l9 C81) ∧ ((decide ((IntKind.wrap .i64 ((IntKind.wrap .i64 (x7l9 + 1)) + x11l81)) ≥ (xs.length : Int))) = false → (0 : Int) ≤ (IntKind.wrap .i64 ((IntKind.wrap .i64 (x7l9 + 1)) + x11l81)) ∧ Int.toNat (IntKind.wrap .i64 ((IntKind.wrap .i64 (x7l9 + 1)) + x11l81)) < xs.length ∧ ((decide (((xs.getD (Int.toNat (IntKind.wrap .i64 ((IntKind.wrap .i64 (x7l9 + 1)) + x11l81))) 0).toNat : Int) > 127)) = true → rtaj91 xs K x10l81 x11l81 x7l9 C81) ∧ ((decide (((xs.getD (Int.toNat (IntKind.wrap .i64 ((IntKind.wrap .i64 (x7l9 + 1)) + x11l81))) 0).toNat : Int) > 127)) = false → (0 : Int) ≤ (IntKind.wrap .i64 ((IntKind.wrap .i64 (x7l9 + 1)) + x11l81)) ∧ ((IntKind.wrap .i64 ((IntKind.wrap .i64 (x7l9 + 1)) + x11l81)) : Int) ≤ (IntKind.wrap .i64 ((IntKind.wrap .i64 ((IntKind.wrap .i64 (x7l9 + 1)) + x11l81)) + 1)) ∧ (IntKind.wrap .i64 ((IntKind.wrap .i64 ((IntKind.wrap .i64 (x7l9 + 1)) + x11l81)) + 1)) ≤ (xs.length : Int) ∧ scontP ([48, 49, 50, 51, 52, 53, 54, 55, 56, 57, 97, 98, 99, 100, 101, 102] : List UInt8) ((xs.take (Int.toNat (IntKind.wrap .i64 ((IntKind.wrap .i64 ((IntKind.wrap .i64 (x7l9 + 1)) + x11l81)) + 1)))).drop (Int.toNat (IntKind.wrap .i64 ((IntKind.wrap .i64 (x7l9 + 1)) + x11l81)))) ∧ rtaj91 xs K x10l81 x11l81 x7l9 C81))) ∧ ((decide (x11l81 < 3)) = false → x6l9.length + (bytesOf ([IntKind.wrap .u8 x10l81] : List (Int))).length ≤ maxLen ∧ rtaj16 xs (x6l9 ++ (bytesOf ([IntKind.wrap .u8 x10l81] : List (Int)))) x7l9 C9)
def rtal81 (xs : List UInt8) (K : (List UInt8) → Int → Prop) (x6l9 : List UInt8) (x7l9 : Int) (C9 : (List UInt8) → Int → Prop) : Nat → Int → Int → Prop
  | 0, _, _ => False
  | k + 1, x10l81, x11l81 => rtal81b xs K x6l9 x7l9 C9 x10l81 x11l81 (rtal81 xs K x6l9 x7l9 C9 k)
def rtaj56 (xs : List UInt8) (K : (List UInt8) → Int → Prop) (e8 : UInt8) (x6l9 : List UInt8) (x7l9 : Int) (C9 : (List UInt8) → Int → Prop) : Prop :=
  (((((e8.toNat : Int) == 34) || ((e8.toNat : Int) == 92))) = true → (0 : Int) ≤ (IntKind.wrap .i64 (x7l9 + 1)) ∧ ((IntKind.wrap .i64 (x7l9 + 1)) : Int) ≤ (IntKind.wrap .i64 ((IntKind.wrap .i64 (x7l9 + 1)) + 1)) ∧ (IntKind.wrap .i64 ((IntKind.wrap .i64 (x7l9 + 1)) + 1)) ≤ (xs.length : Int) ∧ x6l9.length + ((xs.take (Int.toNat (IntKind.wrap .i64 ((IntKind.wrap .i64 (x7l9 + 1)) + 1)))).drop (Int.toNat (IntKind.wrap .i64 (x7l9 + 1)))).length ≤ maxLen ∧ rtaj16 xs (x6l9 ++ ((xs.take (Int.toNat (IntKind.wrap .i64 ((IntKind.wrap .i64 (x7l9 + 1)) + 1)))).drop (Int.toNat (IntKind.wrap .i64 (x7l9 + 1))))) x7l9 C9) ∧ (((((e8.toNat : Int) == 34) || ((e8.toNat : Int) == 92))) = false → ((((e8.toNat : Int) == 110)) = true → x6l9.length + ([10] : List UInt8).length ≤ maxLen ∧ rtaj16 xs (x6l9 ++ ([10] : List UInt8)) x7l9 C9) ∧ ((((e8.toNat : Int) == 110)) = false → ((((e8.toNat : Int) == 116)) = true → x6l9.length + ([9] : List UInt8).length ≤ maxLen ∧ rtaj16 xs (x6l9 ++ ([9] : List UInt8)) x7l9 C9) ∧ ((((e8.toNat : Int) == 116)) = false → ((((e8.toNat : Int) == 120)) = true → ∃ k, rtal81 xs K x6l9 x7l9 C9 k 0 1) ∧ ((((e8.toNat : Int) == 120)) = false → K ([] : List UInt8) (-1)))))
def rtal9b (xs : List UInt8) (K : (List UInt8) → Int → Prop) (x6l9 : List UInt8) (x7l9 : Int) (C9 : (List UInt8) → Int → Prop) : Prop :=
  ((decide (x7l9 < (xs.length : Int))) = true → (0 : Int) ≤ x7l9 ∧ (x7l9 : Int) ≤ (IntKind.wrap .i64 (x7l9 + 1)) ∧ (IntKind.wrap .i64 (x7l9 + 1)) ≤ (xs.length : Int) ∧ (((((xs.take (Int.toNat (IntKind.wrap .i64 (x7l9 + 1)))).drop (Int.toNat x7l9)) == ([34] : List UInt8))) = true → K x6l9 (IntKind.wrap .i64 (x7l9 + 1))) ∧ (((((xs.take (Int.toNat (IntKind.wrap .i64 (x7l9 + 1)))).drop (Int.toNat x7l9)) == ([34] : List UInt8))) = false → (0 : Int) ≤ x7l9 ∧ Int.toNat x7l9 < xs.length ∧ ((decide (((xs.getD (Int.toNat x7l9) 0).toNat : Int) < 32)) = true → K ([] : List UInt8) (-1)) ∧ ((decide (((xs.getD (Int.toNat x7l9) 0).toNat : Int) < 32)) = false → ((!(((xs.take (Int.toNat (IntKind.wrap .i64 (x7l9 + 1)))).drop (Int.toNat x7l9)) == ([92] : List UInt8))) = true → x6l9.length + ((xs.take (Int.toNat (IntKind.wrap .i64 (x7l9 + 1)))).drop (Int.toNat x7l9)).length ≤ maxLen ∧ rtaj16 xs (x6l9 ++ ((xs.take (Int.toNat (IntKind.wrap .i64 (x7l9 + 1)))).drop (Int.toNat x7l9))) x7l9 C9) ∧ ((!(((xs.take (Int.toNat (IntKind.wrap .i64 (x7l9 + 1)))).drop (Int.toNat x7l9)) == ([92] : List UInt8))) = false → ((((IntKind.wrap .i64 (x7l9 + 1)) == (xs.length : Int))) = true → K ([] : List UInt8) (-1)) ∧ ((((IntKind.wrap .i64 (x7l9 + 1)) == (xs.length : Int))) = false → (0 : Int) ≤ (IntKind.wrap .i64 (x7l9 + 1)) ∧ Int.toNat (IntKind.wrap .i64 (x7l9 + 1)) < xs.length ∧ (((((xs.getD (Int.toNat (IntKind.wrap .i64 (x7l9 + 1))) 0).toNat : Int) == 34)) = true → rtaj56 xs K (xs.getD (Int.toNat (IntKind.wrap .i64 (x7l9 + 1))) 0) x6l9 x7l9 C9) ∧ (((((xs.getD (Int.toNat (IntKind.wrap .i64 (x7l9 + 1))) 0).toNat : Int) == 34)) = false → rtaj56 xs K (xs.getD (Int.toNat (IntKind.wrap .i64 (x7l9 + 1))) 0) x6l9 x7l9 C9)))))) ∧ ((decide (x7l9 < (xs.length : Int))) = false → K ([] : List UInt8) (-1))
def rtal9 (xs : List UInt8) (K : (List UInt8) → Int → Prop) : Nat → (List UInt8) → Int → Prop
  | 0, _, _ => False
  | k + 1, x6l9, x7l9 => rtal9b xs K x6l9 x7l9 (rtal9 xs K k)
def rtaF (xs : List UInt8) (xat : Int) (K : (List UInt8) → Int → Prop) : Prop :=
  ∃ k, rtal9 xs K k ([] : List UInt8) (IntKind.wrap .i64 (xat + 1))
set_option maxHeartbeats 4000000 in
set_option maxRecDepth 100000 in
set_option linter.unusedVariables false in
theorem rta_ok {g : Ghost} (xs : List UInt8) (xat : Int) (hG1 : SomeInt g 1) (K : (List UInt8) → Int → Prop)
    (hF : rtaF xs xat K) : CallsH Tryd.prog 19 #[.string ⟨⟨xs⟩⟩, .int .i64 xat] g [] (fun g' H' v => ∃ (r0 : List UInt8), ∃ (r1 : Int), v = .tuple #[.string ⟨⟨r0⟩⟩, .int .i64 r1] ∧ H' = [] ∧ K r0 r1) := by
  refine CallsH.enter 124 [(0, .string ⟨⟨xs⟩⟩), (1, .int .i64 xat)] Tryd.func19 rfl (by kernel_rfl) (by kernel_rfl) (by kernel_rfl) fun w0 => ?_
  refine Ok.seq ?_
  refine Ok.region ?_
  refine Ok.batch 2 [(0, .string ⟨⟨xs⟩⟩), (1, .int .i64 xat)] (by kernel_rfl) ?_
  refine Ok.nil ?_
  refine Ok.thenN ?_
  refine Ok.seq ?_
  refine Ok.region ?_
  refine Ok.batch 1 [(0, .string ⟨⟨xs⟩⟩), (1, .int .i64 xat), (6, .string ⟨⟨([] : List UInt8)⟩⟩)] (by kernel_rfl) ?_
  refine Ok.nil ?_
  refine Ok.thenN ?_
  refine Ok.seq ?_
  refine Ok.seq ?_
  refine Ok.region ?_
  refine Ok.batch 3 [(0, .string ⟨⟨xs⟩⟩), (6, .string ⟨⟨([] : List UInt8)⟩⟩), (7, .int .i64 (IntKind.wrap .i64 (xat + 1)))] (by kernel_rfl) ?_
  refine Ok.nil ?_
  refine Ok.thenN ?_
  refine Ok.block ?_
  obtain ⟨k, hF⟩ := hF
  refine Ok.loop (fun k a W => ∃ gl9 : Ghost, Gext w0 g gl9 ∧ ∃ (x6l9 : List UInt8) (x7l9 : Int), StA 124 [(0, .string ⟨⟨xs⟩⟩), (6, .string ⟨⟨x6l9⟩⟩), (7, .int .i64 x7l9)] a ∧ StW w0 [] gl9 W ∧ rtal9 xs K k x6l9 x7l9) k ?_ ?_
  ·
    exact fun a W hA hW => ⟨g, (Gext.refl w0 g), ([] : List UInt8), IntKind.wrap .i64 (xat + 1), hA.sub (by kernel_rfl), hW, hF⟩
  ·
    clear hF
    rintro k9 a W ⟨gl9, hxl9, x6l9, x7l9, hA, hW, hF⟩
    cases k9 with
    | zero => exact (hF : False).elim
    | succ k9 =>
      refine (?_ : Ok _ _ _ _ _ _) a W hA hW
      clear hA hW
      replace hG1 := hG1.mono hxl9.1
      refine Ok.seq ?_
      refine Ok.seq ?_
      refine Ok.region ?_
      refine Ok.batch 4 [(0, .string ⟨⟨xs⟩⟩), (6, .string ⟨⟨x6l9⟩⟩), (7, .int .i64 x7l9), (17, .bool (decide (x7l9 < (xs.length : Int))))] (by kernel_rfl) ?_
      refine Ok.nil ?_
      refine Ok.thenN ?_
      refine Ok.cond (b := decide (x7l9 < (xs.length : Int))) rfl (fun hc1 => ?_) (fun hc1 => ?_)
      · replace hF := hF.1 hc1
        refine Ok.skip ?_
        refine Ok.thenN ?_
        refine Ok.cut (fun a W => ∃ gj16 : Ghost, Gext w0 gl9 gj16 ∧ ∃ (x6j16 : List UInt8), StA 124 [(0, .string ⟨⟨xs⟩⟩), (6, .string ⟨⟨x6j16⟩⟩), (7, .int .i64 (if (!(((xs.take (Int.toNat (IntKind.wrap .i64 (x7l9 + 1)))).drop (Int.toNat x7l9)) == ([92] : List UInt8))) = true then x7l9 else (if ((((xs.getD (Int.toNat (IntKind.wrap .i64 (x7l9 + 1))) 0).toNat : Int) == 34) || (((xs.getD (Int.toNat (IntKind.wrap .i64 (x7l9 + 1))) 0).toNat : Int) == 92)) = true then IntKind.wrap .i64 (x7l9 + 1) else (if (((xs.getD (Int.toNat (IntKind.wrap .i64 (x7l9 + 1))) 0).toNat : Int) == 110) = true then IntKind.wrap .i64 (x7l9 + 1) else (if (((xs.getD (Int.toNat (IntKind.wrap .i64 (x7l9 + 1))) 0).toNat : Int) == 116) = true then IntKind.wrap .i64 (x7l9 + 1) else IntKind.wrap .i64 ((IntKind.wrap .i64 (x7l9 + 1)) + 2))))))] a ∧ StW w0 [] gj16 W ∧ rtaj16 xs x6j16 x7l9 (rtal9 xs K k9)) ?_ ?_
        ·
          refine Ok.block ?_
          refine Ok.seq ?_
          refine Ok.region ?_
          refine Ok.batch 4 [(0, .string ⟨⟨xs⟩⟩), (6, .string ⟨⟨x6l9⟩⟩), (7, .int .i64 x7l9), (20, .string ⟨⟨xs⟩⟩), (21, .int .i64 x7l9), (23, .int .i64 (IntKind.wrap .i64 (x7l9 + 1)))] (by kernel_rfl) ?_
          obtain ⟨h02, h12, h22, hF⟩ := hF
          refine Ok.op rfl (OpOk.step (v := .string ⟨⟨(xs.take (Int.toNat (IntKind.wrap .i64 (x7l9 + 1)))).drop (Int.toNat x7l9)⟩⟩) (Yields.sliceStr (s := xs) (l := x7l9) (h := (IntKind.wrap .i64 (x7l9 + 1))) (by kernel_rfl) Tryd.underlying9 (.inl ⟨_, _, rfl, rfl⟩) (.inl ⟨_, _, rfl, rfl⟩) h02 h12 h22 ((xs.take (Int.toNat (IntKind.wrap .i64 (x7l9 + 1)))).drop (Int.toNat x7l9)) rfl) rfl rfl ?_)
          refine Ok.batch 1 [(0, .string ⟨⟨xs⟩⟩), (6, .string ⟨⟨x6l9⟩⟩), (7, .int .i64 x7l9), (8, .string ⟨⟨(xs.take (Int.toNat (IntKind.wrap .i64 (x7l9 + 1)))).drop (Int.toNat x7l9)⟩⟩)] (by kernel_rfl) ?_
          refine Ok.nil ?_
          refine Ok.thenN ?_
          refine Ok.seq ?_
          refine Ok.block ?_
          refine Ok.seq ?_
          refine Ok.region ?_
          refine Ok.batch 1 [(0, .string ⟨⟨xs⟩⟩), (6, .string ⟨⟨x6l9⟩⟩), (7, .int .i64 x7l9), (8, .string ⟨⟨(xs.take (Int.toNat (IntKind.wrap .i64 (x7l9 + 1)))).drop (Int.toNat x7l9)⟩⟩), (26, .string ⟨⟨(xs.take (Int.toNat (IntKind.wrap .i64 (x7l9 + 1)))).drop (Int.toNat x7l9)⟩⟩)] (by kernel_rfl) ?_
          refine Ok.op rfl (OpOk.step (v := .bool (((xs.take (Int.toNat (IntKind.wrap .i64 (x7l9 + 1)))).drop (Int.toNat x7l9)) == ([34] : List UInt8))) (Yields.strCmp (f := .eql) (a := ((xs.take (Int.toNat (IntKind.wrap .i64 (x7l9 + 1)))).drop (Int.toNat x7l9))) (b := ([34] : List UInt8)) (by kernel_rfl) (by kernel_rfl) rfl) rfl rfl ?_)
          refine Ok.batch 1 [(0, .string ⟨⟨xs⟩⟩), (6, .string ⟨⟨x6l9⟩⟩), (7, .int .i64 x7l9), (8, .string ⟨⟨(xs.take (Int.toNat (IntKind.wrap .i64 (x7l9 + 1)))).drop (Int.toNat x7l9)⟩⟩), (25, .bool (((xs.take (Int.toNat (IntKind.wrap .i64 (x7l9 + 1)))).drop (Int.toNat x7l9)) == ([34] : List UInt8)))] (by kernel_rfl) ?_
          refine Ok.nil ?_
          refine Ok.thenN ?_
          refine Ok.cond (b := (((xs.take (Int.toNat (IntKind.wrap .i64 (x7l9 + 1)))).drop (Int.toNat x7l9)) == ([34] : List UInt8))) rfl (fun hc3 => ?_) (fun hc3 => ?_)
          · replace hF := hF.1 hc3
            refine Ok.seq ?_
            refine Ok.region ?_
            refine Ok.batch 5 [(4, .string ⟨⟨x6l9⟩⟩), (5, .int .i64 (IntKind.wrap .i64 (x7l9 + 1)))] (by kernel_rfl) ?_
            refine Ok.nil ?_
            refine Ok.thenN ?_
            refine Ok.ret ?_
            refine Ok.blockR ?_
            refine Ok.thenR ?_
            refine Ok.blockR ?_
            refine Ok.thenR ?_
            refine Ok.thenR ?_
            refine Ok.blockR ?_
            refine Ok.thenR ?_
            exact Ok.resH (vs := [.string ⟨⟨x6l9⟩⟩, .int .i64 (IntKind.wrap .i64 (x7l9 + 1))]) (.inl rfl) rfl (.cons (.tmp rfl) (.cons (.tmp rfl) .nil)) hxl9 ⟨x6l9, (IntKind.wrap .i64 (x7l9 + 1)), rfl, rfl, hF⟩
          · replace hF := hF.2 hc3
            refine Ok.seq ?_
            refine Ok.region ?_
            refine Ok.batch 2 [(0, .string ⟨⟨xs⟩⟩), (6, .string ⟨⟨x6l9⟩⟩), (7, .int .i64 x7l9), (8, .string ⟨⟨(xs.take (Int.toNat (IntKind.wrap .i64 (x7l9 + 1)))).drop (Int.toNat x7l9)⟩⟩), (32, .string ⟨⟨xs⟩⟩), (33, .int .i64 x7l9)] (by kernel_rfl) ?_
            obtain ⟨h04, h14, hF⟩ := hF
            have he4 := get_of (l := xs) (0 : UInt8) h14
            generalize hg4 : (xs.getD (Int.toNat x7l9) 0) = e4 at he4 hF ⊢
            refine Ok.op rfl (OpOk.step (v := .int .u8 (e4.toNat : Int)) (Yields.indexStr (k := .i64) (i := x7l9) (s := xs) (b := e4) (by kernel_rfl) (by kernel_rfl) Tryd.underlying9 h04 he4) rfl rfl ?_)
            refine Ok.batch 2 [(0, .string ⟨⟨xs⟩⟩), (6, .string ⟨⟨x6l9⟩⟩), (7, .int .i64 x7l9), (8, .string ⟨⟨(xs.take (Int.toNat (IntKind.wrap .i64 (x7l9 + 1)))).drop (Int.toNat x7l9)⟩⟩), (31, .bool (decide ((e4.toNat : Int) < 32)))] (by kernel_rfl) ?_
            refine Ok.nil ?_
            refine Ok.thenN ?_
            refine Ok.cond (b := decide ((e4.toNat : Int) < 32)) rfl (fun hc5 => ?_) (fun hc5 => ?_)
            · replace hF := hF.1 hc5
              refine Ok.seq ?_
              refine Ok.region ?_
              refine Ok.batch 2 [(4, .string ⟨⟨([] : List UInt8)⟩⟩), (5, .int .i64 (-1))] (by kernel_rfl) ?_
              refine Ok.nil ?_
              refine Ok.thenN ?_
              refine Ok.ret ?_
              refine Ok.blockR ?_
              refine Ok.thenR ?_
              refine Ok.blockR ?_
              refine Ok.thenR ?_
              refine Ok.thenR ?_
              refine Ok.blockR ?_
              refine Ok.thenR ?_
              exact Ok.resH (vs := [.string ⟨⟨([] : List UInt8)⟩⟩, .int .i64 (-1)]) (.inl rfl) rfl (.cons (.tmp rfl) (.cons (.tmp rfl) .nil)) hxl9 ⟨([] : List UInt8), (-1), rfl, rfl, hF⟩
            · replace hF := hF.2 hc5
              refine Ok.seq ?_
              refine Ok.region ?_
              refine Ok.batch 1 [(0, .string ⟨⟨xs⟩⟩), (6, .string ⟨⟨x6l9⟩⟩), (7, .int .i64 x7l9), (8, .string ⟨⟨(xs.take (Int.toNat (IntKind.wrap .i64 (x7l9 + 1)))).drop (Int.toNat x7l9)⟩⟩), (37, .string ⟨⟨(xs.take (Int.toNat (IntKind.wrap .i64 (x7l9 + 1)))).drop (Int.toNat x7l9)⟩⟩)] (by kernel_rfl) ?_
              refine Ok.op rfl (OpOk.step (v := .bool (!(((xs.take (Int.toNat (IntKind.wrap .i64 (x7l9 + 1)))).drop (Int.toNat x7l9)) == ([92] : List UInt8)))) (Yields.strCmp (f := .neq) (a := ((xs.take (Int.toNat (IntKind.wrap .i64 (x7l9 + 1)))).drop (Int.toNat x7l9))) (b := ([92] : List UInt8)) (by kernel_rfl) (by kernel_rfl) rfl) rfl rfl ?_)
              refine Ok.batch 1 [(0, .string ⟨⟨xs⟩⟩), (6, .string ⟨⟨x6l9⟩⟩), (7, .int .i64 x7l9), (8, .string ⟨⟨(xs.take (Int.toNat (IntKind.wrap .i64 (x7l9 + 1)))).drop (Int.toNat x7l9)⟩⟩), (36, .bool (!(((xs.take (Int.toNat (IntKind.wrap .i64 (x7l9 + 1)))).drop (Int.toNat x7l9)) == ([92] : List UInt8))))] (by kernel_rfl) ?_
              refine Ok.nil ?_
              refine Ok.thenN ?_
              refine Ok.cond (b := !(((xs.take (Int.toNat (IntKind.wrap .i64 (x7l9 + 1)))).drop (Int.toNat x7l9)) == ([92] : List UInt8))) rfl (fun hc6 => ?_) (fun hc6 => ?_)
              · replace hF := hF.1 hc6
                refine Ok.seq ?_
                refine Ok.region ?_
                refine Ok.batch 2 [(0, .string ⟨⟨xs⟩⟩), (7, .int .i64 x7l9), (39, .string ⟨⟨x6l9⟩⟩), (40, .string ⟨⟨(xs.take (Int.toNat (IntKind.wrap .i64 (x7l9 + 1)))).drop (Int.toNat x7l9)⟩⟩)] (by kernel_rfl) ?_
                obtain ⟨hv, hF⟩ := hF
                refine Ok.op rfl (OpOk.step (v := .string ⟨⟨x6l9 ++ ((xs.take (Int.toNat (IntKind.wrap .i64 (x7l9 + 1)))).drop (Int.toNat x7l9))⟩⟩) (Yields.strAdd rfl rfl hv) rfl rfl ?_)
                refine Ok.batch 1 [(0, .string ⟨⟨xs⟩⟩), (6, .string ⟨⟨x6l9 ++ ((xs.take (Int.toNat (IntKind.wrap .i64 (x7l9 + 1)))).drop (Int.toNat x7l9))⟩⟩), (7, .int .i64 x7l9)] (by kernel_rfl) ?_
                refine Ok.nil ?_
                refine Ok.thenN ?_
                refine Ok.exit ?_
                refine Ok.blockMiss rfl ?_
                refine Ok.thenE ?_
                refine Ok.blockHit ?_
                refine Ok.thenN ?_
                subst hg4
                refine Ok.reval 7 rfl (show (.int .i64 x7l9 : Value) = .int .i64 (if (!(((xs.take (Int.toNat (IntKind.wrap .i64 (x7l9 + 1)))).drop (Int.toNat x7l9)) == ([92] : List UInt8))) = true then x7l9 else (if ((((xs.getD (Int.toNat (IntKind.wrap .i64 (x7l9 + 1))) 0).toNat : Int) == 34) || (((xs.getD (Int.toNat (IntKind.wrap .i64 (x7l9 + 1))) 0).toNat : Int) == 92)) = true then IntKind.wrap .i64 (x7l9 + 1) else (if (((xs.getD (Int.toNat (IntKind.wrap .i64 (x7l9 + 1))) 0).toNat : Int) == 110) = true then IntKind.wrap .i64 (x7l9 + 1) else (if (((xs.getD (Int.toNat (IntKind.wrap .i64 (x7l9 + 1))) 0).toNat : Int) == 116) = true then IntKind.wrap .i64 (x7l9 + 1) else IntKind.wrap .i64 ((IntKind.wrap .i64 (x7l9 + 1)) + 2))))) from congrArg (Value.int .i64) ((if_t hc6).symm)) ?_
                exact fun a W hA hW => ⟨gl9, (Gext.refl w0 gl9), x6l9 ++ ((xs.take (Int.toNat (IntKind.wrap .i64 (x7l9 + 1)))).drop (Int.toNat x7l9)), hA.sub (by kernel_rfl), hW, hF⟩
              · replace hF := hF.2 hc6
                refine Ok.skip ?_
                refine Ok.blockN ?_
                refine Ok.thenN ?_
                refine Ok.seq ?_
                refine Ok.region ?_
                refine Ok.batch 3 [(0, .string ⟨⟨xs⟩⟩), (6, .string ⟨⟨x6l9⟩⟩), (7, .int .i64 (IntKind.wrap .i64 (x7l9 + 1)))] (by kernel_rfl) ?_
                refine Ok.nil ?_
                refine Ok.thenN ?_
                refine Ok.seq ?_
                refine Ok.seq ?_
                refine Ok.region ?_
                refine Ok.batch 4 [(0, .string ⟨⟨xs⟩⟩), (6, .string ⟨⟨x6l9⟩⟩), (7, .int .i64 (IntKind.wrap .i64 (x7l9 + 1))), (47, .bool ((IntKind.wrap .i64 (x7l9 + 1)) == (xs.length : Int)))] (by kernel_rfl) ?_
                refine Ok.nil ?_
                refine Ok.thenN ?_
                refine Ok.cond (b := ((IntKind.wrap .i64 (x7l9 + 1)) == (xs.length : Int))) rfl (fun hc7 => ?_) (fun hc7 => ?_)
                · replace hF := hF.1 hc7
                  refine Ok.seq ?_
                  refine Ok.region ?_
                  refine Ok.batch 2 [(4, .string ⟨⟨([] : List UInt8)⟩⟩), (5, .int .i64 (-1))] (by kernel_rfl) ?_
                  refine Ok.nil ?_
                  refine Ok.thenN ?_
                  refine Ok.ret ?_
                  refine Ok.thenR ?_
                  refine Ok.blockR ?_
                  refine Ok.thenR ?_
                  refine Ok.thenR ?_
                  refine Ok.blockR ?_
                  refine Ok.thenR ?_
                  exact Ok.resH (vs := [.string ⟨⟨([] : List UInt8)⟩⟩, .int .i64 (-1)]) (.inl rfl) rfl (.cons (.tmp rfl) (.cons (.tmp rfl) .nil)) hxl9 ⟨([] : List UInt8), (-1), rfl, rfl, hF⟩
                · replace hF := hF.2 hc7
                  refine Ok.skip ?_
                  refine Ok.thenN ?_
                  refine Ok.seq ?_
                  refine Ok.region ?_
                  refine Ok.batch 2 [(0, .string ⟨⟨xs⟩⟩), (6, .string ⟨⟨x6l9⟩⟩), (7, .int .i64 (IntKind.wrap .i64 (x7l9 + 1))), (48, .string ⟨⟨xs⟩⟩), (49, .int .i64 (IntKind.wrap .i64 (x7l9 + 1)))] (by kernel_rfl) ?_
                  obtain ⟨h08, h18, hF⟩ := hF
                  have he8 := get_of (l := xs) (0 : UInt8) h18
                  generalize hg8 : (xs.getD (Int.toNat (IntKind.wrap .i64 (x7l9 + 1))) 0) = e8 at he8 hF ⊢
                  refine Ok.op rfl (OpOk.step (v := .int .u8 (e8.toNat : Int)) (Yields.indexStr (k := .i64) (i := (IntKind.wrap .i64 (x7l9 + 1))) (s := xs) (b := e8) (by kernel_rfl) (by kernel_rfl) Tryd.underlying9 h08 he8) rfl rfl ?_)
                  refine Ok.batch 1 [(0, .string ⟨⟨xs⟩⟩), (6, .string ⟨⟨x6l9⟩⟩), (7, .int .i64 (IntKind.wrap .i64 (x7l9 + 1))), (9, .int .u8 (e8.toNat : Int))] (by kernel_rfl) ?_
                  refine Ok.nil ?_
                  refine Ok.thenN ?_
                  refine Ok.seq ?_
                  refine Ok.region ?_
                  refine Ok.batch 1 [(0, .string ⟨⟨xs⟩⟩), (6, .string ⟨⟨x6l9⟩⟩), (7, .int .i64 (IntKind.wrap .i64 (x7l9 + 1))), (51, .int .u8 (e8.toNat : Int))] (by kernel_rfl) ?_
                  refine Ok.nil ?_
                  refine Ok.thenN ?_
                  refine Ok.block ?_
                  refine Ok.cut (fun a W => ∃ gj56 : Ghost, Gext w0 gl9 gj56 ∧ StA 124 [(0, .string ⟨⟨xs⟩⟩), (6, .string ⟨⟨x6l9⟩⟩), (7, .int .i64 (IntKind.wrap .i64 (x7l9 + 1))), (51, .int .u8 (e8.toNat : Int)), (52, .bool (((e8.toNat : Int) == 34) || ((e8.toNat : Int) == 92)))] a ∧ StW w0 [] gj56 W ∧ rtaj56 xs K e8 x6l9 x7l9 (rtal9 xs K k9)) ?_ ?_
                  ·
                    refine Ok.seq ?_
                    refine Ok.region ?_
                    refine Ok.batch 2 [(0, .string ⟨⟨xs⟩⟩), (6, .string ⟨⟨x6l9⟩⟩), (7, .int .i64 (IntKind.wrap .i64 (x7l9 + 1))), (51, .int .u8 (e8.toNat : Int)), (52, .bool ((e8.toNat : Int) == 34))] (by kernel_rfl) ?_
                    refine Ok.nil ?_
                    refine Ok.thenN ?_
                    refine Ok.cond (b := ((e8.toNat : Int) == 34)) rfl (fun hc24 => ?_) (fun hc24 => ?_)
                    · replace hF := hF.1 hc24
                      refine Ok.skip ?_
                      refine Ok.thenN ?_
                      refine Ok.reval 52 rfl (show (.bool ((e8.toNat : Int) == 34) : Value) = .bool (((e8.toNat : Int) == 34) || ((e8.toNat : Int) == 92)) from congrArg (Value.bool) ((Eq.trans (hc24) (mor_t hc24)))) ?_
                      exact fun a W hA hW => ⟨gl9, (Gext.refl w0 gl9), hA.sub (by kernel_rfl), hW, hF⟩
                    · replace hF := hF.2 hc24
                      refine Ok.region ?_
                      refine Ok.batch 2 [(0, .string ⟨⟨xs⟩⟩), (6, .string ⟨⟨x6l9⟩⟩), (7, .int .i64 (IntKind.wrap .i64 (x7l9 + 1))), (51, .int .u8 (e8.toNat : Int)), (52, .bool ((e8.toNat : Int) == 92))] (by kernel_rfl) ?_
                      refine Ok.nil ?_
                      refine Ok.thenN ?_
                      refine Ok.reval 52 rfl (show (.bool ((e8.toNat : Int) == 92) : Value) = .bool (((e8.toNat : Int) == 34) || ((e8.toNat : Int) == 92)) from congrArg (Value.bool) (mor_f hc24)) ?_
                      exact fun a W hA hW => ⟨gl9, (Gext.refl w0 gl9), hA.sub (by kernel_rfl), hW, hF⟩
                  ·
                    clear hF
                    rintro a W ⟨gj56, hxj56, hA, hW, hF⟩
                    refine (?_ : Ok _ _ _ _ _ _) a W hA hW
                    clear hA hW
                    replace hG1 := hG1.mono hxj56.1
                    refine Ok.cond (b := (((e8.toNat : Int) == 34) || ((e8.toNat : Int) == 92))) rfl (fun hc9 => ?_) (fun hc9 => ?_)
                    · replace hF := hF.1 hc9
                      refine Ok.region ?_
                      refine Ok.batch 5 [(0, .string ⟨⟨xs⟩⟩), (7, .int .i64 (IntKind.wrap .i64 (x7l9 + 1))), (55, .string ⟨⟨x6l9⟩⟩), (56, .string ⟨⟨xs⟩⟩), (57, .int .i64 (IntKind.wrap .i64 (x7l9 + 1))), (59, .int .i64 (IntKind.wrap .i64 ((IntKind.wrap .i64 (x7l9 + 1)) + 1)))] (by kernel_rfl) ?_
                      obtain ⟨h010, h110, h210, hF⟩ := hF
                      refine Ok.op rfl (OpOk.step (v := .string ⟨⟨(xs.take (Int.toNat (IntKind.wrap .i64 ((IntKind.wrap .i64 (x7l9 + 1)) + 1)))).drop (Int.toNat (IntKind.wrap .i64 (x7l9 + 1)))⟩⟩) (Yields.sliceStr (s := xs) (l := (IntKind.wrap .i64 (x7l9 + 1))) (h := (IntKind.wrap .i64 ((IntKind.wrap .i64 (x7l9 + 1)) + 1))) (by kernel_rfl) Tryd.underlying9 (.inl ⟨_, _, rfl, rfl⟩) (.inl ⟨_, _, rfl, rfl⟩) h010 h110 h210 ((xs.take (Int.toNat (IntKind.wrap .i64 ((IntKind.wrap .i64 (x7l9 + 1)) + 1)))).drop (Int.toNat (IntKind.wrap .i64 (x7l9 + 1)))) rfl) rfl rfl ?_)
                      obtain ⟨hv, hF⟩ := hF
                      refine Ok.op rfl (OpOk.step (v := .string ⟨⟨x6l9 ++ ((xs.take (Int.toNat (IntKind.wrap .i64 ((IntKind.wrap .i64 (x7l9 + 1)) + 1)))).drop (Int.toNat (IntKind.wrap .i64 (x7l9 + 1))))⟩⟩) (Yields.strAdd rfl rfl hv) rfl rfl ?_)
                      refine Ok.batch 1 [(0, .string ⟨⟨xs⟩⟩), (6, .string ⟨⟨x6l9 ++ ((xs.take (Int.toNat (IntKind.wrap .i64 ((IntKind.wrap .i64 (x7l9 + 1)) + 1)))).drop (Int.toNat (IntKind.wrap .i64 (x7l9 + 1))))⟩⟩), (7, .int .i64 (IntKind.wrap .i64 (x7l9 + 1)))] (by kernel_rfl) ?_
                      refine Ok.nil ?_
                      refine Ok.blockN ?_
                      refine Ok.blockN ?_
                      refine Ok.thenN ?_
                      subst hg8
                      subst hg4
                      refine Ok.reval 7 rfl (show (.int .i64 (IntKind.wrap .i64 (x7l9 + 1)) : Value) = .int .i64 (if (!(((xs.take (Int.toNat (IntKind.wrap .i64 (x7l9 + 1)))).drop (Int.toNat x7l9)) == ([92] : List UInt8))) = true then x7l9 else (if ((((xs.getD (Int.toNat (IntKind.wrap .i64 (x7l9 + 1))) 0).toNat : Int) == 34) || (((xs.getD (Int.toNat (IntKind.wrap .i64 (x7l9 + 1))) 0).toNat : Int) == 92)) = true then IntKind.wrap .i64 (x7l9 + 1) else (if (((xs.getD (Int.toNat (IntKind.wrap .i64 (x7l9 + 1))) 0).toNat : Int) == 110) = true then IntKind.wrap .i64 (x7l9 + 1) else (if (((xs.getD (Int.toNat (IntKind.wrap .i64 (x7l9 + 1))) 0).toNat : Int) == 116) = true then IntKind.wrap .i64 (x7l9 + 1) else IntKind.wrap .i64 ((IntKind.wrap .i64 (x7l9 + 1)) + 2))))) from congrArg (Value.int .i64) ((Eq.trans ((if_t hc9).symm) ((if_f hc6).symm)))) ?_
                      exact fun a W hA hW => ⟨gj56, hxj56, x6l9 ++ ((xs.take (Int.toNat (IntKind.wrap .i64 ((IntKind.wrap .i64 (x7l9 + 1)) + 1)))).drop (Int.toNat (IntKind.wrap .i64 (x7l9 + 1)))), hA.sub (by kernel_rfl), hW, hF⟩
                    · replace hF := hF.2 hc9
                      refine Ok.seq ?_
                      refine Ok.region ?_
                      refine Ok.batch 2 [(0, .string ⟨⟨xs⟩⟩), (6, .string ⟨⟨x6l9⟩⟩), (7, .int .i64 (IntKind.wrap .i64 (x7l9 + 1))), (51, .int .u8 (e8.toNat : Int)), (62, .bool ((e8.toNat : Int) == 110))] (by kernel_rfl) ?_
                      refine Ok.nil ?_
                      refine Ok.thenN ?_
                      refine Ok.cond (b := ((e8.toNat : Int) == 110)) rfl (fun hc11 => ?_) (fun hc11 => ?_)
                      · replace hF := hF.1 hc11
                        refine Ok.region ?_
                        refine Ok.batch 1 [(0, .string ⟨⟨xs⟩⟩), (7, .int .i64 (IntKind.wrap .i64 (x7l9 + 1))), (64, .string ⟨⟨x6l9⟩⟩)] (by kernel_rfl) ?_
                        obtain ⟨hv, hF⟩ := hF
                        refine Ok.op rfl (OpOk.step (v := .string ⟨⟨x6l9 ++ ([10] : List UInt8)⟩⟩) (Yields.strAdd rfl rfl hv) rfl rfl ?_)
                        refine Ok.batch 1 [(0, .string ⟨⟨xs⟩⟩), (6, .string ⟨⟨x6l9 ++ ([10] : List UInt8)⟩⟩), (7, .int .i64 (IntKind.wrap .i64 (x7l9 + 1)))] (by kernel_rfl) ?_
                        refine Ok.nil ?_
                        refine Ok.blockN ?_
                        refine Ok.blockN ?_
                        refine Ok.thenN ?_
                        subst hg8
                        subst hg4
                        refine Ok.reval 7 rfl (show (.int .i64 (IntKind.wrap .i64 (x7l9 + 1)) : Value) = .int .i64 (if (!(((xs.take (Int.toNat (IntKind.wrap .i64 (x7l9 + 1)))).drop (Int.toNat x7l9)) == ([92] : List UInt8))) = true then x7l9 else (if ((((xs.getD (Int.toNat (IntKind.wrap .i64 (x7l9 + 1))) 0).toNat : Int) == 34) || (((xs.getD (Int.toNat (IntKind.wrap .i64 (x7l9 + 1))) 0).toNat : Int) == 92)) = true then IntKind.wrap .i64 (x7l9 + 1) else (if (((xs.getD (Int.toNat (IntKind.wrap .i64 (x7l9 + 1))) 0).toNat : Int) == 110) = true then IntKind.wrap .i64 (x7l9 + 1) else (if (((xs.getD (Int.toNat (IntKind.wrap .i64 (x7l9 + 1))) 0).toNat : Int) == 116) = true then IntKind.wrap .i64 (x7l9 + 1) else IntKind.wrap .i64 ((IntKind.wrap .i64 (x7l9 + 1)) + 2))))) from congrArg (Value.int .i64) ((Eq.trans ((Eq.trans ((if_t hc11).symm) ((if_f hc9).symm))) ((if_f hc6).symm)))) ?_
                        exact fun a W hA hW => ⟨gj56, hxj56, x6l9 ++ ([10] : List UInt8), hA.sub (by kernel_rfl), hW, hF⟩
                      · replace hF := hF.2 hc11
                        refine Ok.seq ?_
                        refine Ok.region ?_
                        refine Ok.batch 2 [(0, .string ⟨⟨xs⟩⟩), (6, .string ⟨⟨x6l9⟩⟩), (7, .int .i64 (IntKind.wrap .i64 (x7l9 + 1))), (51, .int .u8 (e8.toNat : Int)), (66, .bool ((e8.toNat : Int) == 116))] (by kernel_rfl) ?_
                        refine Ok.nil ?_
                        refine Ok.thenN ?_
                        refine Ok.cond (b := ((e8.toNat : Int) == 116)) rfl (fun hc12 => ?_) (fun hc12 => ?_)
                        · replace hF := hF.1 hc12
                          refine Ok.region ?_
                          refine Ok.batch 1 [(0, .string ⟨⟨xs⟩⟩), (7, .int .i64 (IntKind.wrap .i64 (x7l9 + 1))), (68, .string ⟨⟨x6l9⟩⟩)] (by kernel_rfl) ?_
                          obtain ⟨hv, hF⟩ := hF
                          refine Ok.op rfl (OpOk.step (v := .string ⟨⟨x6l9 ++ ([9] : List UInt8)⟩⟩) (Yields.strAdd rfl rfl hv) rfl rfl ?_)
                          refine Ok.batch 1 [(0, .string ⟨⟨xs⟩⟩), (6, .string ⟨⟨x6l9 ++ ([9] : List UInt8)⟩⟩), (7, .int .i64 (IntKind.wrap .i64 (x7l9 + 1)))] (by kernel_rfl) ?_
                          refine Ok.nil ?_
                          refine Ok.blockN ?_
                          refine Ok.blockN ?_
                          refine Ok.thenN ?_
                          subst hg8
                          subst hg4
                          refine Ok.reval 7 rfl (show (.int .i64 (IntKind.wrap .i64 (x7l9 + 1)) : Value) = .int .i64 (if (!(((xs.take (Int.toNat (IntKind.wrap .i64 (x7l9 + 1)))).drop (Int.toNat x7l9)) == ([92] : List UInt8))) = true then x7l9 else (if ((((xs.getD (Int.toNat (IntKind.wrap .i64 (x7l9 + 1))) 0).toNat : Int) == 34) || (((xs.getD (Int.toNat (IntKind.wrap .i64 (x7l9 + 1))) 0).toNat : Int) == 92)) = true then IntKind.wrap .i64 (x7l9 + 1) else (if (((xs.getD (Int.toNat (IntKind.wrap .i64 (x7l9 + 1))) 0).toNat : Int) == 110) = true then IntKind.wrap .i64 (x7l9 + 1) else (if (((xs.getD (Int.toNat (IntKind.wrap .i64 (x7l9 + 1))) 0).toNat : Int) == 116) = true then IntKind.wrap .i64 (x7l9 + 1) else IntKind.wrap .i64 ((IntKind.wrap .i64 (x7l9 + 1)) + 2))))) from congrArg (Value.int .i64) ((Eq.trans ((Eq.trans ((Eq.trans ((if_t hc12).symm) ((if_f hc11).symm))) ((if_f hc9).symm))) ((if_f hc6).symm)))) ?_
                          exact fun a W hA hW => ⟨gj56, hxj56, x6l9 ++ ([9] : List UInt8), hA.sub (by kernel_rfl), hW, hF⟩
                        · replace hF := hF.2 hc12
                          refine Ok.seq ?_
                          refine Ok.region ?_
                          refine Ok.batch 2 [(0, .string ⟨⟨xs⟩⟩), (6, .string ⟨⟨x6l9⟩⟩), (7, .int .i64 (IntKind.wrap .i64 (x7l9 + 1))), (70, .bool ((e8.toNat : Int) == 120))] (by kernel_rfl) ?_
                          refine Ok.nil ?_
                          refine Ok.thenN ?_
                          refine Ok.cond (b := ((e8.toNat : Int) == 120)) rfl (fun hc13 => ?_) (fun hc13 => ?_)
                          · replace hF := hF.1 hc13
                            refine Ok.seq ?_
                            refine Ok.region ?_
                            refine Ok.batch 1 [(0, .string ⟨⟨xs⟩⟩), (6, .string ⟨⟨x6l9⟩⟩), (7, .int .i64 (IntKind.wrap .i64 (x7l9 + 1))), (10, .int .i64 0)] (by kernel_rfl) ?_
                            refine Ok.nil ?_
                            refine Ok.thenN ?_
                            refine Ok.seq ?_
                            refine Ok.seq ?_
                            refine Ok.region ?_
                            refine Ok.batch 1 [(0, .string ⟨⟨xs⟩⟩), (6, .string ⟨⟨x6l9⟩⟩), (7, .int .i64 (IntKind.wrap .i64 (x7l9 + 1))), (10, .int .i64 0), (11, .int .i64 1)] (by kernel_rfl) ?_
                            refine Ok.nil ?_
                            refine Ok.thenN ?_
                            refine Ok.block ?_
                            obtain ⟨k, hF⟩ := hF
                            refine Ok.loop (fun k a W => ∃ gl81 : Ghost, Gext w0 gj56 gl81 ∧ ∃ (x10l81 : Int) (x11l81 : Int), StA 124 [(0, .string ⟨⟨xs⟩⟩), (6, .string ⟨⟨x6l9⟩⟩), (7, .int .i64 (IntKind.wrap .i64 (x7l9 + 1))), (10, .int .i64 x10l81), (11, .int .i64 x11l81)] a ∧ StW w0 [] gl81 W ∧ rtal81 xs K x6l9 x7l9 (rtal9 xs K k9) k x10l81 x11l81) k ?_ ?_
                            ·
                              exact fun a W hA hW => ⟨gj56, (Gext.refl w0 gj56), 0, 1, hA.sub (by kernel_rfl), hW, hF⟩
                            ·
                              clear hF
                              rintro k81 a W ⟨gl81, hxl81, x10l81, x11l81, hA, hW, hF⟩
                              cases k81 with
                              | zero => exact (hF : False).elim
                              | succ k81 =>
                                refine (?_ : Ok _ _ _ _ _ _) a W hA hW
                                clear hA hW
                                replace hG1 := hG1.mono hxl81.1
                                refine Ok.seq ?_
                                refine Ok.seq ?_
                                refine Ok.region ?_
                                refine Ok.batch 2 [(0, .string ⟨⟨xs⟩⟩), (6, .string ⟨⟨x6l9⟩⟩), (7, .int .i64 (IntKind.wrap .i64 (x7l9 + 1))), (10, .int .i64 x10l81), (11, .int .i64 x11l81), (73, .bool (decide (x11l81 < 3)))] (by kernel_rfl) ?_
                                refine Ok.nil ?_
                                refine Ok.thenN ?_
                                refine Ok.cond (b := decide (x11l81 < 3)) rfl (fun hc14 => ?_) (fun hc14 => ?_)
                                · replace hF := hF.1 hc14
                                  refine Ok.skip ?_
                                  refine Ok.thenN ?_
                                  refine Ok.seq ?_
                                  refine Ok.block ?_
                                  refine Ok.seq ?_
                                  refine Ok.cut (fun a W => ∃ gj91 : Ghost, Gext w0 gl81 gj91 ∧ StA 124 [(0, .string ⟨⟨xs⟩⟩), (6, .string ⟨⟨x6l9⟩⟩), (7, .int .i64 (IntKind.wrap .i64 (x7l9 + 1))), (10, .int .i64 x10l81), (11, .int .i64 x11l81), (102, .bool ((decide ((IntKind.wrap .i64 ((IntKind.wrap .i64 (x7l9 + 1)) + x11l81)) ≥ (xs.length : Int))) || ((decide (((xs.getD (Int.toNat (IntKind.wrap .i64 ((IntKind.wrap .i64 (x7l9 + 1)) + x11l81))) 0).toNat : Int) > 127)) || (!(scontS ([48, 49, 50, 51, 52, 53, 54, 55, 56, 57, 97, 98, 99, 100, 101, 102] : List UInt8) ((xs.take (Int.toNat (IntKind.wrap .i64 ((IntKind.wrap .i64 ((IntKind.wrap .i64 (x7l9 + 1)) + x11l81)) + 1)))).drop (Int.toNat (IntKind.wrap .i64 ((IntKind.wrap .i64 (x7l9 + 1)) + x11l81)))))))))] a ∧ StW w0 [] gj91 W ∧ rtaj91 xs K x10l81 x11l81 x7l9 (rtal81 xs K x6l9 x7l9 (rtal9 xs K k9) k81)) ?_ ?_
                                  ·
                                    refine Ok.region ?_
                                    refine Ok.batch 7 [(0, .string ⟨⟨xs⟩⟩), (6, .string ⟨⟨x6l9⟩⟩), (7, .int .i64 (IntKind.wrap .i64 (x7l9 + 1))), (10, .int .i64 x10l81), (11, .int .i64 x11l81), (82, .bool (decide ((IntKind.wrap .i64 ((IntKind.wrap .i64 (x7l9 + 1)) + x11l81)) ≥ (xs.length : Int))))] (by kernel_rfl) ?_
                                    refine Ok.boolAt 82 (decide ((IntKind.wrap .i64 ((IntKind.wrap .i64 (x7l9 + 1)) + x11l81)) ≥ (xs.length : Int))) rfl (fun hc18 => ?_) (fun hc18 => ?_)
                                    · replace hF := hF.1 hc18
                                      refine Ok.batch 20 [(0, .string ⟨⟨xs⟩⟩), (6, .string ⟨⟨x6l9⟩⟩), (7, .int .i64 (IntKind.wrap .i64 (x7l9 + 1))), (10, .int .i64 x10l81), (11, .int .i64 x11l81), (102, .bool true)] (by kernel_rfl) ?_
                                      refine Ok.nil ?_
                                      refine Ok.thenN ?_
                                      refine Ok.reval 102 rfl (show (.bool true : Value) = .bool ((decide ((IntKind.wrap .i64 ((IntKind.wrap .i64 (x7l9 + 1)) + x11l81)) ≥ (xs.length : Int))) || ((decide (((xs.getD (Int.toNat (IntKind.wrap .i64 ((IntKind.wrap .i64 (x7l9 + 1)) + x11l81))) 0).toNat : Int) > 127)) || (!(scontS ([48, 49, 50, 51, 52, 53, 54, 55, 56, 57, 97, 98, 99, 100, 101, 102] : List UInt8) ((xs.take (Int.toNat (IntKind.wrap .i64 ((IntKind.wrap .i64 ((IntKind.wrap .i64 (x7l9 + 1)) + x11l81)) + 1)))).drop (Int.toNat (IntKind.wrap .i64 ((IntKind.wrap .i64 (x7l9 + 1)) + x11l81)))))))) from congrArg (Value.bool) (mor_t hc18)) ?_
                                      exact fun a W hA hW => ⟨gl81, (Gext.refl w0 gl81), hA.sub (by kernel_rfl), hW, hF⟩
                                    · replace hF := hF.2 hc18
                                      refine Ok.batch 4 [(0, .string ⟨⟨xs⟩⟩), (6, .string ⟨⟨x6l9⟩⟩), (7, .int .i64 (IntKind.wrap .i64 (x7l9 + 1))), (10, .int .i64 x10l81), (11, .int .i64 x11l81), (82, .bool false), (83, .string ⟨⟨xs⟩⟩), (86, .int .i64 (IntKind.wrap .i64 ((IntKind.wrap .i64 (x7l9 + 1)) + x11l81)))] (by kernel_rfl) ?_
                                      obtain ⟨h019, h119, hF⟩ := hF
                                      have he19 := get_of (l := xs) (0 : UInt8) h119
                                      generalize hg19 : (xs.getD (Int.toNat (IntKind.wrap .i64 ((IntKind.wrap .i64 (x7l9 + 1)) + x11l81))) 0) = e19 at he19 hF ⊢
                                      refine Ok.opYes (j := 6) (d := 82) (want := false) (b := false) rfl (by kernel_rfl) (by kernel_rfl) rfl (OpOk.step (v := .int .u8 (e19.toNat : Int)) (Yields.indexStr (k := .i64) (i := (IntKind.wrap .i64 ((IntKind.wrap .i64 (x7l9 + 1)) + x11l81))) (s := xs) (b := e19) (by kernel_rfl) (by kernel_rfl) Tryd.underlying9 h019 he19) rfl rfl ?_)
                                      refine Ok.batch 3 [(0, .string ⟨⟨xs⟩⟩), (6, .string ⟨⟨x6l9⟩⟩), (7, .int .i64 (IntKind.wrap .i64 (x7l9 + 1))), (10, .int .i64 x10l81), (11, .int .i64 x11l81), (90, .bool (decide ((e19.toNat : Int) > 127)))] (by kernel_rfl) ?_
                                      refine Ok.boolAt 90 (decide ((e19.toNat : Int) > 127)) rfl (fun hc20 => ?_) (fun hc20 => ?_)
                                      · replace hF := hF.1 hc20
                                        refine Ok.batch 12 [(0, .string ⟨⟨xs⟩⟩), (6, .string ⟨⟨x6l9⟩⟩), (7, .int .i64 (IntKind.wrap .i64 (x7l9 + 1))), (10, .int .i64 x10l81), (11, .int .i64 x11l81), (102, .bool true)] (by kernel_rfl) ?_
                                        refine Ok.nil ?_
                                        refine Ok.thenN ?_
                                        subst hg19
                                        refine Ok.reval 102 rfl (show (.bool true : Value) = .bool ((decide ((IntKind.wrap .i64 ((IntKind.wrap .i64 (x7l9 + 1)) + x11l81)) ≥ (xs.length : Int))) || ((decide (((xs.getD (Int.toNat (IntKind.wrap .i64 ((IntKind.wrap .i64 (x7l9 + 1)) + x11l81))) 0).toNat : Int) > 127)) || (!(scontS ([48, 49, 50, 51, 52, 53, 54, 55, 56, 57, 97, 98, 99, 100, 101, 102] : List UInt8) ((xs.take (Int.toNat (IntKind.wrap .i64 ((IntKind.wrap .i64 ((IntKind.wrap .i64 (x7l9 + 1)) + x11l81)) + 1)))).drop (Int.toNat (IntKind.wrap .i64 ((IntKind.wrap .i64 (x7l9 + 1)) + x11l81)))))))) from congrArg (Value.bool) ((Eq.trans (mor_t hc20) (mor_f hc18)))) ?_
                                        exact fun a W hA hW => ⟨gl81, (Gext.refl w0 gl81), hA.sub (by kernel_rfl), hW, hF⟩
                                      · replace hF := hF.2 hc20
                                        refine Ok.batch 8 [(0, .string ⟨⟨xs⟩⟩), (6, .string ⟨⟨x6l9⟩⟩), (7, .int .i64 (IntKind.wrap .i64 (x7l9 + 1))), (10, .int .i64 x10l81), (11, .int .i64 x11l81), (90, .bool false), (91, .string ⟨⟨xs⟩⟩), (94, .int .i64 (IntKind.wrap .i64 ((IntKind.wrap .i64 (x7l9 + 1)) + x11l81))), (98, .int .i64 (IntKind.wrap .i64 ((IntKind.wrap .i64 ((IntKind.wrap .i64 (x7l9 + 1)) + x11l81)) + 1)))] (by kernel_rfl) ?_
                                        obtain ⟨h021, h121, h221, hF⟩ := hF
                                        refine Ok.opYes (j := 14) (d := 90) (want := false) (b := false) rfl (by kernel_rfl) (by kernel_rfl) rfl (OpOk.step (v := .string ⟨⟨(xs.take (Int.toNat (IntKind.wrap .i64 ((IntKind.wrap .i64 ((IntKind.wrap .i64 (x7l9 + 1)) + x11l81)) + 1)))).drop (Int.toNat (IntKind.wrap .i64 ((IntKind.wrap .i64 (x7l9 + 1)) + x11l81)))⟩⟩) (Yields.sliceStr (s := xs) (l := (IntKind.wrap .i64 ((IntKind.wrap .i64 (x7l9 + 1)) + x11l81))) (h := (IntKind.wrap .i64 ((IntKind.wrap .i64 ((IntKind.wrap .i64 (x7l9 + 1)) + x11l81)) + 1))) (by kernel_rfl) Tryd.underlying9 (.inl ⟨_, _, rfl, rfl⟩) (.inl ⟨_, _, rfl, rfl⟩) h021 h121 h221 ((xs.take (Int.toNat (IntKind.wrap .i64 ((IntKind.wrap .i64 ((IntKind.wrap .i64 (x7l9 + 1)) + x11l81)) + 1)))).drop (Int.toNat (IntKind.wrap .i64 ((IntKind.wrap .i64 (x7l9 + 1)) + x11l81)))) rfl) rfl rfl ?_)
                                        obtain ⟨hp22, hF⟩ := hF
                                        refine Ok.opYes (j := 14) (d := 90) (want := false) (b := false) rfl (by kernel_rfl) (by kernel_rfl) rfl (OpOk.callG (v := .bool (scontS ([48, 49, 50, 51, 52, 53, 54, 55, 56, 57, 97, 98, 99, 100, 101, 102] : List UInt8) ((xs.take (Int.toNat (IntKind.wrap .i64 ((IntKind.wrap .i64 ((IntKind.wrap .i64 (x7l9 + 1)) + x11l81)) + 1)))).drop (Int.toNat (IntKind.wrap .i64 ((IntKind.wrap .i64 (x7l9 + 1)) + x11l81)))))) (enters (by kernel_rfl) (fun _ => by kernel_rfl)) (fun W hW => scont_c ([48, 49, 50, 51, 52, 53, 54, 55, 56, 57, 97, 98, 99, 100, 101, 102] : List UInt8) ((xs.take (Int.toNat (IntKind.wrap .i64 ((IntKind.wrap .i64 ((IntKind.wrap .i64 (x7l9 + 1)) + x11l81)) + 1)))).drop (Int.toNat (IntKind.wrap .i64 ((IntKind.wrap .i64 (x7l9 + 1)) + x11l81)))) (hG1.mono hW.sees) hp22) rfl ?_)
                                        refine Ok.batch 2 [(0, .string ⟨⟨xs⟩⟩), (6, .string ⟨⟨x6l9⟩⟩), (7, .int .i64 (IntKind.wrap .i64 (x7l9 + 1))), (10, .int .i64 x10l81), (11, .int .i64 x11l81), (102, .bool (!(scontS ([48, 49, 50, 51, 52, 53, 54, 55, 56, 57, 97, 98, 99, 100, 101, 102] : List UInt8) ((xs.take (Int.toNat (IntKind.wrap .i64 ((IntKind.wrap .i64 ((IntKind.wrap .i64 (x7l9 + 1)) + x11l81)) + 1)))).drop (Int.toNat (IntKind.wrap .i64 ((IntKind.wrap .i64 (x7l9 + 1)) + x11l81)))))))] (by kernel_rfl) ?_
                                        refine Ok.nil ?_
                                        refine Ok.thenN ?_
                                        subst hg19
                                        refine Ok.reval 102 rfl (show (.bool (!(scontS ([48, 49, 50, 51, 52, 53, 54, 55, 56, 57, 97, 98, 99, 100, 101, 102] : List UInt8) ((xs.take (Int.toNat (IntKind.wrap .i64 ((IntKind.wrap .i64 ((IntKind.wrap .i64 (x7l9 + 1)) + x11l81)) + 1)))).drop (Int.toNat (IntKind.wrap .i64 ((IntKind.wrap .i64 (x7l9 + 1)) + x11l81)))))) : Value) = .bool ((decide ((IntKind.wrap .i64 ((IntKind.wrap .i64 (x7l9 + 1)) + x11l81)) ≥ (xs.length : Int))) || ((decide (((xs.getD (Int.toNat (IntKind.wrap .i64 ((IntKind.wrap .i64 (x7l9 + 1)) + x11l81))) 0).toNat : Int) > 127)) || (!(scontS ([48, 49, 50, 51, 52, 53, 54, 55, 56, 57, 97, 98, 99, 100, 101, 102] : List UInt8) ((xs.take (Int.toNat (IntKind.wrap .i64 ((IntKind.wrap .i64 ((IntKind.wrap .i64 (x7l9 + 1)) + x11l81)) + 1)))).drop (Int.toNat (IntKind.wrap .i64 ((IntKind.wrap .i64 (x7l9 + 1)) + x11l81)))))))) from congrArg (Value.bool) ((Eq.trans (mor_f hc20) (mor_f hc18)))) ?_
                                        exact fun a W hA hW => ⟨gl81, (Gext.refl w0 gl81), hA.sub (by kernel_rfl), hW, hF⟩
                                  ·
                                    clear hF
                                    rintro a W ⟨gj91, hxj91, hA, hW, hF⟩
                                    refine (?_ : Ok _ _ _ _ _ _) a W hA hW
                                    clear hA hW
                                    replace hG1 := hG1.mono hxj91.1
                                    refine Ok.cond (b := ((decide ((IntKind.wrap .i64 ((IntKind.wrap .i64 (x7l9 + 1)) + x11l81)) ≥ (xs.length : Int))) || ((decide (((xs.getD (Int.toNat (IntKind.wrap .i64 ((IntKind.wrap .i64 (x7l9 + 1)) + x11l81))) 0).toNat : Int) > 127)) || (!(scontS ([48, 49, 50, 51, 52, 53, 54, 55, 56, 57, 97, 98, 99, 100, 101, 102] : List UInt8) ((xs.take (Int.toNat (IntKind.wrap .i64 ((IntKind.wrap .i64 ((IntKind.wrap .i64 (x7l9 + 1)) + x11l81)) + 1)))).drop (Int.toNat (IntKind.wrap .i64 ((IntKind.wrap .i64 (x7l9 + 1)) + x11l81))))))))) rfl (fun hc15 => ?_) (fun hc15 => ?_)
                                    · replace hF := hF.1 hc15
                                      refine Ok.seq ?_
                                      refine Ok.region ?_
                                      refine Ok.batch 2 [(4, .string ⟨⟨([] : List UInt8)⟩⟩), (5, .int .i64 (-1))] (by kernel_rfl) ?_
                                      refine Ok.nil ?_
                                      refine Ok.thenN ?_
                                      refine Ok.ret ?_
                                      refine Ok.thenR ?_
                                      refine Ok.blockR ?_
                                      refine Ok.thenR ?_
                                      refine Ok.thenR ?_
                                      refine Ok.blockR ?_
                                      refine Ok.thenR ?_
                                      refine Ok.blockR ?_
                                      refine Ok.blockR ?_
                                      refine Ok.thenR ?_
                                      refine Ok.thenR ?_
                                      refine Ok.blockR ?_
                                      refine Ok.thenR ?_
                                      exact Ok.resH (vs := [.string ⟨⟨([] : List UInt8)⟩⟩, .int .i64 (-1)]) (.inl rfl) rfl (.cons (.tmp rfl) (.cons (.tmp rfl) .nil)) (((hxl9.trans hxj56).trans hxl81).trans hxj91) ⟨([] : List UInt8), (-1), rfl, rfl, hF⟩
                                    · replace hF := hF.2 hc15
                                      refine Ok.skip ?_
                                      refine Ok.thenN ?_
                                      refine Ok.region ?_
                                      refine Ok.batch 10 [(0, .string ⟨⟨xs⟩⟩), (6, .string ⟨⟨x6l9⟩⟩), (7, .int .i64 (IntKind.wrap .i64 (x7l9 + 1))), (11, .int .i64 x11l81), (104, .int .i64 (IntKind.wrap .i64 (16 * x10l81))), (105, .string ⟨⟨xs⟩⟩), (108, .int .i64 (IntKind.wrap .i64 ((IntKind.wrap .i64 (x7l9 + 1)) + x11l81))), (112, .int .i64 (IntKind.wrap .i64 ((IntKind.wrap .i64 ((IntKind.wrap .i64 (x7l9 + 1)) + x11l81)) + 1)))] (by kernel_rfl) ?_
                                      obtain ⟨h016, h116, h216, hF⟩ := hF
                                      refine Ok.op rfl (OpOk.step (v := .string ⟨⟨(xs.take (Int.toNat (IntKind.wrap .i64 ((IntKind.wrap .i64 ((IntKind.wrap .i64 (x7l9 + 1)) + x11l81)) + 1)))).drop (Int.toNat (IntKind.wrap .i64 ((IntKind.wrap .i64 (x7l9 + 1)) + x11l81)))⟩⟩) (Yields.sliceStr (s := xs) (l := (IntKind.wrap .i64 ((IntKind.wrap .i64 (x7l9 + 1)) + x11l81))) (h := (IntKind.wrap .i64 ((IntKind.wrap .i64 ((IntKind.wrap .i64 (x7l9 + 1)) + x11l81)) + 1))) (by kernel_rfl) Tryd.underlying9 (.inl ⟨_, _, rfl, rfl⟩) (.inl ⟨_, _, rfl, rfl⟩) h016 h116 h216 ((xs.take (Int.toNat (IntKind.wrap .i64 ((IntKind.wrap .i64 ((IntKind.wrap .i64 (x7l9 + 1)) + x11l81)) + 1)))).drop (Int.toNat (IntKind.wrap .i64 ((IntKind.wrap .i64 (x7l9 + 1)) + x11l81)))) rfl) rfl rfl ?_)
                                      obtain ⟨hp17, hF⟩ := hF
                                      refine Ok.op rfl (OpOk.callG (v := .int .i64 (idxS ([48, 49, 50, 51, 52, 53, 54, 55, 56, 57, 97, 98, 99, 100, 101, 102] : List UInt8) ((xs.take (Int.toNat (IntKind.wrap .i64 ((IntKind.wrap .i64 ((IntKind.wrap .i64 (x7l9 + 1)) + x11l81)) + 1)))).drop (Int.toNat (IntKind.wrap .i64 ((IntKind.wrap .i64 (x7l9 + 1)) + x11l81)))))) (enters (by kernel_rfl) (fun _ => by kernel_rfl)) (fun W hW => idx_c ([48, 49, 50, 51, 52, 53, 54, 55, 56, 57, 97, 98, 99, 100, 101, 102] : List UInt8) ((xs.take (Int.toNat (IntKind.wrap .i64 ((IntKind.wrap .i64 ((IntKind.wrap .i64 (x7l9 + 1)) + x11l81)) + 1)))).drop (Int.toNat (IntKind.wrap .i64 ((IntKind.wrap .i64 (x7l9 + 1)) + x11l81)))) (hG1.mono hW.sees) hp17) rfl ?_)
                                      refine Ok.batch 2 [(0, .string ⟨⟨xs⟩⟩), (6, .string ⟨⟨x6l9⟩⟩), (7, .int .i64 (IntKind.wrap .i64 (x7l9 + 1))), (10, .int .i64 (IntKind.wrap .i64 ((IntKind.wrap .i64 (16 * x10l81)) + (idxS ([48, 49, 50, 51, 52, 53, 54, 55, 56, 57, 97, 98, 99, 100, 101, 102] : List UInt8) ((xs.take (Int.toNat (IntKind.wrap .i64 ((IntKind.wrap .i64 ((IntKind.wrap .i64 (x7l9 + 1)) + x11l81)) + 1)))).drop (Int.toNat (IntKind.wrap .i64 ((IntKind.wrap .i64 (x7l9 + 1)) + x11l81)))))))), (11, .int .i64 x11l81)] (by kernel_rfl) ?_
                                      refine Ok.nil ?_
                                      refine Ok.blockN ?_
                                      refine Ok.thenN ?_
                                      refine Ok.region ?_
                                      refine Ok.batch 3 [(0, .string ⟨⟨xs⟩⟩), (6, .string ⟨⟨x6l9⟩⟩), (7, .int .i64 (IntKind.wrap .i64 (x7l9 + 1))), (10, .int .i64 (IntKind.wrap .i64 ((IntKind.wrap .i64 (16 * x10l81)) + (idxS ([48, 49, 50, 51, 52, 53, 54, 55, 56, 57, 97, 98, 99, 100, 101, 102] : List UInt8) ((xs.take (Int.toNat (IntKind.wrap .i64 ((IntKind.wrap .i64 ((IntKind.wrap .i64 (x7l9 + 1)) + x11l81)) + 1)))).drop (Int.toNat (IntKind.wrap .i64 ((IntKind.wrap .i64 (x7l9 + 1)) + x11l81)))))))), (11, .int .i64 (IntKind.wrap .i64 (x11l81 + 1)))] (by kernel_rfl) ?_
                                      refine Ok.nil ?_
                                      refine Ok.thenN ?_
                                      exact fun a W hA hW => ⟨k81, Nat.lt_succ_self _, gj91, (hxl81.trans hxj91), IntKind.wrap .i64 ((IntKind.wrap .i64 (16 * x10l81)) + (idxS ([48, 49, 50, 51, 52, 53, 54, 55, 56, 57, 97, 98, 99, 100, 101, 102] : List UInt8) ((xs.take (Int.toNat (IntKind.wrap .i64 ((IntKind.wrap .i64 ((IntKind.wrap .i64 (x7l9 + 1)) + x11l81)) + 1)))).drop (Int.toNat (IntKind.wrap .i64 ((IntKind.wrap .i64 (x7l9 + 1)) + x11l81)))))), IntKind.wrap .i64 (x11l81 + 1), hA.sub (by kernel_rfl), hW, hF⟩
                                · replace hF := hF.2 hc14
                                  refine Ok.exit ?_
                                  refine Ok.thenE ?_
                                  refine Ok.thenE ?_
                                  refine Ok.blockHit ?_
                                  refine Ok.thenN ?_
                                  refine Ok.seq ?_
                                  refine Ok.region ?_
                                  refine Ok.batch 3 [(0, .string ⟨⟨xs⟩⟩), (7, .int .i64 (IntKind.wrap .i64 (x7l9 + 1))), (116, .string ⟨⟨x6l9⟩⟩), (118, .int .u8 (IntKind.wrap .u8 x10l81))] (by kernel_rfl) ?_
                                  have hL23 : RepL gl81 (.int .u8) ([.int .u8 (IntKind.wrap .u8 x10l81)] : List Value) ([IntKind.wrap .u8 x10l81] : List (Int)) := (RepL.consN (c := [.int .u8 (IntKind.wrap .u8 x10l81)]) rfl rfl)
                                  refine Ok.op rfl (OpOk.lit (E := 5) (.int .u8) ([IntKind.wrap .u8 x10l81] : List (Int)) ([.int .u8 (IntKind.wrap .u8 x10l81)] : List Value) (by kernel_rfl) (by kernel_rfl) rfl (by kernel_rfl) hL23 rfl fun b23 => ?_)
                                  refine Ok.op rfl (OpOk.step (v := .string ⟨⟨(bytesOf ([IntKind.wrap .u8 x10l81] : List (Int)))⟩⟩) (Yields.strOfOwn 0 (by kernel_rfl) rfl rfl hL23 Tryd.underlying48 Tryd.underlying9 Tryd.underlying5) rfl rfl ?_)
                                  obtain ⟨hv, hF⟩ := hF
                                  refine Ok.op rfl (OpOk.step (v := .string ⟨⟨x6l9 ++ (bytesOf ([IntKind.wrap .u8 x10l81] : List (Int)))⟩⟩) (Yields.strAdd rfl rfl hv) rfl rfl ?_)
                                  refine Ok.batch 1 [(0, .string ⟨⟨xs⟩⟩), (6, .string ⟨⟨x6l9 ++ (bytesOf ([IntKind.wrap .u8 x10l81] : List (Int)))⟩⟩), (7, .int .i64 (IntKind.wrap .i64 (x7l9 + 1)))] (by kernel_rfl) ?_
                                  refine Ok.nil ?_
                                  refine Ok.thenN ?_
                                  refine Ok.region ?_
                                  refine Ok.batch 3 [(0, .string ⟨⟨xs⟩⟩), (6, .string ⟨⟨x6l9 ++ (bytesOf ([IntKind.wrap .u8 x10l81] : List (Int)))⟩⟩), (7, .int .i64 (IntKind.wrap .i64 ((IntKind.wrap .i64 (x7l9 + 1)) + 2)))] (by kernel_rfl) ?_
                                  refine Ok.nil ?_
                                  refine Ok.blockN ?_
                                  refine Ok.blockN ?_
                                  refine Ok.thenN ?_
                                  subst hg8
                                  subst hg4
                                  refine Ok.reval 7 rfl (show (.int .i64 (IntKind.wrap .i64 ((IntKind.wrap .i64 (x7l9 + 1)) + 2)) : Value) = .int .i64 (if (!(((xs.take (Int.toNat (IntKind.wrap .i64 (x7l9 + 1)))).drop (Int.toNat x7l9)) == ([92] : List UInt8))) = true then x7l9 else (if ((((xs.getD (Int.toNat (IntKind.wrap .i64 (x7l9 + 1))) 0).toNat : Int) == 34) || (((xs.getD (Int.toNat (IntKind.wrap .i64 (x7l9 + 1))) 0).toNat : Int) == 92)) = true then IntKind.wrap .i64 (x7l9 + 1) else (if (((xs.getD (Int.toNat (IntKind.wrap .i64 (x7l9 + 1))) 0).toNat : Int) == 110) = true then IntKind.wrap .i64 (x7l9 + 1) else (if (((xs.getD (Int.toNat (IntKind.wrap .i64 (x7l9 + 1))) 0).toNat : Int) == 116) = true then IntKind.wrap .i64 (x7l9 + 1) else IntKind.wrap .i64 ((IntKind.wrap .i64 (x7l9 + 1)) + 2))))) from congrArg (Value.int .i64) ((Eq.trans ((Eq.trans ((Eq.trans ((if_f hc12).symm) ((if_f hc11).symm))) ((if_f hc9).symm))) ((if_f hc6).symm)))) ?_
                                  exact fun a W hA hW => ⟨gl81, (hxj56.trans hxl81), x6l9 ++ (bytesOf ([IntKind.wrap .u8 x10l81] : List (Int))), hA.sub (by kernel_rfl), hW.sub (.cons _ .slnil), hF⟩
                          · replace hF := hF.2 hc13
                            refine Ok.seq ?_
                            refine Ok.region ?_
                            refine Ok.batch 2 [(4, .string ⟨⟨([] : List UInt8)⟩⟩), (5, .int .i64 (-1))] (by kernel_rfl) ?_
                            refine Ok.nil ?_
                            refine Ok.thenN ?_
                            refine Ok.ret ?_
                            refine Ok.blockR ?_
                            refine Ok.blockR ?_
                            refine Ok.thenR ?_
                            refine Ok.thenR ?_
                            refine Ok.blockR ?_
                            refine Ok.thenR ?_
                            exact Ok.resH (vs := [.string ⟨⟨([] : List UInt8)⟩⟩, .int .i64 (-1)]) (.inl rfl) rfl (.cons (.tmp rfl) (.cons (.tmp rfl) .nil)) (hxl9.trans hxj56) ⟨([] : List UInt8), (-1), rfl, rfl, hF⟩
        ·
          clear hF
          rintro a W ⟨gj16, hxj16, x6j16, hA, hW, hF⟩
          refine (?_ : Ok _ _ _ _ _ _) a W hA hW
          clear hA hW
          replace hG1 := hG1.mono hxj16.1
          refine Ok.region ?_
          refine Ok.batch 3 [(0, .string ⟨⟨xs⟩⟩), (6, .string ⟨⟨x6j16⟩⟩), (7, .int .i64 (IntKind.wrap .i64 ((if (!(((xs.take (Int.toNat (IntKind.wrap .i64 (x7l9 + 1)))).drop (Int.toNat x7l9)) == ([92] : List UInt8))) = true then x7l9 else (if ((((xs.getD (Int.toNat (IntKind.wrap .i64 (x7l9 + 1))) 0).toNat : Int) == 34) || (((xs.getD (Int.toNat (IntKind.wrap .i64 (x7l9 + 1))) 0).toNat : Int) == 92)) = true then IntKind.wrap .i64 (x7l9 + 1) else (if (((xs.getD (Int.toNat (IntKind.wrap .i64 (x7l9 + 1))) 0).toNat : Int) == 110) = true then IntKind.wrap .i64 (x7l9 + 1) else (if (((xs.getD (Int.toNat (IntKind.wrap .i64 (x7l9 + 1))) 0).toNat : Int) == 116) = true then IntKind.wrap .i64 (x7l9 + 1) else IntKind.wrap .i64 ((IntKind.wrap .i64 (x7l9 + 1)) + 2))))) + 1)))] (by kernel_rfl) ?_
          refine Ok.nil ?_
          refine Ok.thenN ?_
          exact fun a W hA hW => ⟨k9, Nat.lt_succ_self _, gj16, (hxl9.trans hxj16), x6j16, IntKind.wrap .i64 ((if (!(((xs.take (Int.toNat (IntKind.wrap .i64 (x7l9 + 1)))).drop (Int.toNat x7l9)) == ([92] : List UInt8))) = true then x7l9 else (if ((((xs.getD (Int.toNat (IntKind.wrap .i64 (x7l9 + 1))) 0).toNat : Int) == 34) || (((xs.getD (Int.toNat (IntKind.wrap .i64 (x7l9 + 1))) 0).toNat : Int) == 92)) = true then IntKind.wrap .i64 (x7l9 + 1) else (if (((xs.getD (Int.toNat (IntKind.wrap .i64 (x7l9 + 1))) 0).toNat : Int) == 110) = true then IntKind.wrap .i64 (x7l9 + 1) else (if (((xs.getD (Int.toNat (IntKind.wrap .i64 (x7l9 + 1))) 0).toNat : Int) == 116) = true then IntKind.wrap .i64 (x7l9 + 1) else IntKind.wrap .i64 ((IntKind.wrap .i64 (x7l9 + 1)) + 2))))) + 1), hA.sub (by kernel_rfl), hW, hF⟩
      · replace hF := hF.2 hc1
        refine Ok.exit ?_
        refine Ok.thenE ?_
        refine Ok.thenE ?_
        refine Ok.blockHit ?_
        refine Ok.thenN ?_
        refine Ok.seq ?_
        refine Ok.region ?_
        refine Ok.batch 2 [(4, .string ⟨⟨([] : List UInt8)⟩⟩), (5, .int .i64 (-1))] (by kernel_rfl) ?_
        refine Ok.nil ?_
        refine Ok.thenN ?_
        refine Ok.ret ?_
        exact Ok.resH (vs := [.string ⟨⟨([] : List UInt8)⟩⟩, .int .i64 (-1)]) (.inl rfl) rfl (.cons (.tmp rfl) (.cons (.tmp rfl) .nil)) hxl9 ⟨([] : List UInt8), (-1), rfl, rfl, hF⟩
def rtaR (t : TK × Int × RD) : List UInt8 × Int := if (t.2.1 == 0) = true then (t.1.2.2.2.1, t.2.2.2.1) else ([], -1)
def rtaS (s : List UInt8) (at_ : Int) : List UInt8 × Int := rtaR (txN s [] (s.length + 1) (at_ + 1) [])
def rtaP (s : List UInt8) (at_ : Int) : Prop := s.length ≤ 1000000 ∧ 0 ≤ at_ ∧ at_ < (s.length : Int)
theorem rta_F (s : List UInt8) (at_ : Int) (hp : rtaP s at_) : rtaF s at_ (fun r r1 => (r, r1) = rtaS s at_) := by
  obtain ⟨hl, hp0, hp1⟩ := hp
  have loop : ∀ (k : Nat) (i : Int) (acc : List UInt8), (s.length : Int) ≤ i + k → 0 ≤ i → i ≤ (s.length : Int) → (acc.length : Int) ≤ i → rtaS s at_ = rtaR (txN s [] (k + 1) i (intsOf acc)) →
      rtal9 s (fun r r1 => (r, r1) = rtaS s at_) (k + 1) acc i := by
    intro k
    induction k with
    | zero =>
      intro i acc ha hb hc hd he
      have hn : decide (i < (s.length : Int)) = false := decide_eq_false (by omega)
      rw [txN, if_f hn] at he
      exact ⟨fun h => (Bool.false_ne_true (hn.symm.trans h)).elim, fun _ => he.symm⟩
    | succ k ih =>
      intro i acc ha hb hc hd he
      rw [txN] at he
      refine ⟨fun hn => ?_, fun hn => by rw [if_f hn] at he; exact he.symm⟩
      rw [if_t hn] at he
      have hlt := of_decide_eq_true hn
      have w1 : IntKind.wrap .i64 (i + 1) = i + 1 := w64 (by omega)
      have hs := sub1 s hb hlt
      have hlen : ∀ t : List UInt8, t.length ≤ 1 → acc.length + t.length ≤ maxLen := fun t ht => by rw [maxLen_eq]; omega
      have hlen2 : ∀ c : UInt8, ((acc ++ [c]).length : Int) ≤ i + 1 := fun c => by rw [List.length_append]; simp only [List.length_cons, List.length_nil]; omega
      rw [w1, hs, one34, one92]
      refine ⟨hb, by omega, by omega, fun hq => ?_, fun hq => ?_⟩
      · rw [if_t hq] at he
        rw [he]
        show _ = (bytesOf (intsOf acc), i + 1)
        rw [bytesOf_intsOf]
      rw [if_f hq] at he
      refine ⟨hb, by omega, fun h5 => ?_, fun h5 => ?_⟩
      · rw [if_t h5] at he; exact he.symm
      rw [if_f h5] at he
      refine ⟨fun hb1 => ?_, fun hb1 => ?_⟩
      · have hb2 : (((s.getD i.toNat 0).toNat : Int) == 92) = false := by simpa using hb1
        rw [if_f hb2] at he
        refine ⟨hlen _ (Nat.le_refl _), ?_⟩
        unfold rtaj16
        rw [w1, hs, one92, if_t hb1, w1]
        exact ih (i + 1) _ (by omega) (by omega) (by omega) (hlen2 _) (by rw [he, intsOf_app]; rfl)
      have hb2 : (((s.getD i.toNat 0).toNat : Int) == 92) = true := by simpa using hb1
      rw [if_t hb2] at he
      refine ⟨fun hx => ?_, fun hx => ?_⟩
      · have hx1 : i + 1 = (s.length : Int) := beq_iff_eq.1 hx
        have hpk : (jpeekS (s, i + 1, []) 0).1 = 0 := by
          unfold jpeekS; exact if_f (decide_eq_false (by show ¬ (i + 1 + 0 < (s.length : Int)); omega))
        have hz : (jescS (s, i + 1, [])).2.1 = 0 := by unfold jescS; rw [hpk]; rfl
        rw [if_t (by rw [hz]; rfl)] at he
        exact he.symm
      have hx1 : ¬ i + 1 = (s.length : Int) := fun h => by rw [beq_iff_eq.2 h] at hx; cases hx
      have hlt2 : i + 1 < (s.length : Int) := by omega
      have w2 : IntKind.wrap .i64 (i + 1 + 1) = i + 1 + 1 := w64 (by omega)
      have hs2 := sub1 s (i := i + 1) (by omega) hlt2
      have hpk : (jpeekS (s, i + 1, []) 0).1 = ((s.getD (i + 1).toNat 0).toNat : Int) := by
        unfold jpeekS
        rw [show (((s, i + 1, []) : RD).2.1 + 0) = i + 1 from Int.add_zero _]
        exact if_t (decide_eq_true hlt2)
      have key : rtaj56 s (fun r r1 => (r, r1) = rtaS s at_) (s.getD (i + 1).toNat 0) acc i (rtal9 s (fun r r1 => (r, r1) = rtaS s at_) (k + 1)) := by
        unfold rtaj56
        rw [w1, w2, hs2]
        refine ⟨fun a => ⟨by omega, by omega, by omega, hlen _ (Nat.le_refl _), ?_⟩, fun a => ⟨fun b => ⟨hlen _ (Nat.le_refl _), ?_⟩, fun b => ⟨fun c => ⟨hlen _ (Nat.le_refl _), ?_⟩, fun c => ⟨fun d => ?_, fun d => ?_⟩⟩⟩⟩
        · have hj : jescS (s, i + 1, []) = (((s.getD (i + 1).toNat 0).toNat : Int), 1, (s, i + 1, [])) := by unfold jescS; rw [hpk, if_t a]
          rw [hj] at he
          replace he : rtaS s at_ = rtaR (txN s [] (k + 1) (i + 1 + 1) (intsOf acc ++ [((s.getD (i + 1).toNat 0).toNat : Int)])) := he
          unfold rtaj16
          rw [w1, hs, one92, if_f hb1, if_t a, w2]
          exact ih (i + 1 + 1) _ (by omega) (by omega) (by omega) (by have := hlen2 (s.getD (i + 1).toNat 0); omega) (by rw [he, intsOf_app]; rfl)
        · have hj : jescS (s, i + 1, []) = (10, 1, (s, i + 1, [])) := by unfold jescS; rw [hpk, if_f a, if_t b]
          rw [hj] at he
          replace he : rtaS s at_ = rtaR (txN s [] (k + 1) (i + 1 + 1) (intsOf acc ++ [10])) := he
          unfold rtaj16
          rw [w1, hs, one92, if_f hb1, if_f a, if_t b, w2]
          exact ih (i + 1 + 1) _ (by omega) (by omega) (by omega) (by have := hlen2 10; omega) (by rw [he, intsOf_app]; rfl)
        · have hj : jescS (s, i + 1, []) = (9, 1, (s, i + 1, [])) := by unfold jescS; rw [hpk, if_f a, if_f b, if_t c]
          rw [hj] at he
          replace he : rtaS s at_ = rtaR (txN s [] (k + 1) (i + 1 + 1) (intsOf acc ++ [9])) := he
          unfold rtaj16
          rw [w1, hs, one92, if_f hb1, if_f a, if_f b, if_t c, w2]
          exact ih (i + 1 + 1) _ (by omega) (by omega) (by omega) (by have := hlen2 9; omega) (by rw [he, intsOf_app]; rfl)
        · have hj : jescS (s, i + 1, []) = (if (decide (hexI (s, i + 1, []) 1 ≥ 0) && decide (hexI (s, i + 1, []) 2 ≥ 0)) = true then (IntKind.wrap .u8 (bitOr .i64 (IntKind.wrap .i64 (hexI (s, i + 1, []) 1 * 2 ^ 4)) (hexI (s, i + 1, []) 2)), 3, (s, i + 1, [])) else (0, 0, (s, i + 1, []))) := by
            unfold jescS; rw [hpk, if_f a, if_f b, if_f c, if_t d]
          have hbad : (decide (hexI (s, i + 1, []) 1 ≥ 0) && decide (hexI (s, i + 1, []) 2 ≥ 0)) = false → ([], -1) = rtaS s at_ := fun h => by
            rw [hj, if_f h] at he
            exact he.symm
          have stp : ∀ (x10 x11 : Int) (C : Int → Int → Prop), x11 = 1 ∨ x11 = 2 → 0 ≤ x10 → x10 ≤ 15 → (hexI (s, i + 1, []) x11 < 0 → ([], -1) = rtaS s at_) →
              (0 ≤ hexI (s, i + 1, []) x11 → hexI (s, i + 1, []) x11 < 16 → i + 1 + x11 < (s.length : Int) → C (IntKind.wrap .i64 (IntKind.wrap .i64 (16 * x10) + hexI (s, i + 1, []) x11)) (x11 + 1)) →
              rtal81b s (fun r r1 => (r, r1) = rtaS s at_) acc i (rtal9 s (fun r r1 => (r, r1) = rtaS s at_) (k + 1)) x10 x11 C := by
            intro x10 x11 C h1 h2 h3 hneg hpos
            have w3 : IntKind.wrap .i64 (i + 1 + x11) = i + 1 + x11 := w64 (by omega)
            have w4 : IntKind.wrap .i64 (i + 1 + x11 + 1) = i + 1 + x11 + 1 := w64 (by omega)
            have w5 : IntKind.wrap .i64 (x11 + 1) = x11 + 1 := w64 (by omega)
            refine ⟨fun _ => ?_, fun h => by have := of_decide_eq_false h; omega⟩
            rw [w1, w3, w4]
            by_cases hq2 : i + 1 + x11 < (s.length : Int)
            · have hs3 := sub1 s (i := i + 1 + x11) (by omega) hq2
              have hk : hexI (s, i + 1, []) x11 = ibS HX ((s.getD (i + 1 + x11).toNat 0).toNat : Int) := by
                unfold hexI
                have : (jpeekS (s, i + 1, []) x11).1 = ((s.getD (i + 1 + x11).toNat 0).toNat : Int) := by
                  unfold jpeekS
                  exact if_t (decide_eq_true hq2)
                rw [this]; rfl
              have hh := hex_ok (s.getD (i + 1 + x11).toNat 0)
              unfold hexOk at hh
              simp only [Bool.and_eq_true, beq_iff_eq, decide_eq_true_eq] at hh
              obtain ⟨⟨⟨g1, g2⟩, g3⟩, g4⟩ := hh
              rw [← hk] at g1 g2 g3 g4
              have j91 : rtaj91 s (fun r r1 => (r, r1) = rtaS s at_) x10 x11 i C := by
                unfold rtaj91
                rw [w1, w3, w4, w5, hs3]
                change ((decide (i + 1 + x11 ≥ (s.length : Int)) || (decide (((s.getD (i + 1 + x11).toNat 0).toNat : Int) > 127) || (!scontS HX [s.getD (i + 1 + x11).toNat 0]))) = true → _) ∧ ((decide (i + 1 + x11 ≥ (s.length : Int)) || (decide (((s.getD (i + 1 + x11).toNat 0).toNat : Int) > 127) || (!scontS HX [s.getD (i + 1 + x11).toNat 0]))) = false → _ ∧ _ ∧ _ ∧ _ ∧ C (IntKind.wrap .i64 (IntKind.wrap .i64 (16 * x10) + idxS HX [s.getD (i + 1 + x11).toNat 0])) _)
                rw [g1, g2, decide_eq_false (show ¬ (i + 1 + x11 ≥ (s.length : Int)) by omega), Bool.false_or]
                refine ⟨fun h => hneg ?_, fun h => ⟨by omega, by omega, by omega, by unfold idxP; decide, hpos ?_ g4 hq2⟩⟩
                · simp only [Bool.or_eq_true, Bool.not_eq_true', decide_eq_true_eq, decide_eq_false_iff_not] at h g3
                  omega
                · simp only [Bool.or_eq_false_iff, Bool.not_eq_false', decide_eq_true_eq, decide_eq_false_iff_not] at h
                  omega
              exact ⟨fun h => j91, fun h => ⟨by omega, by omega, fun _ => j91, fun _ => ⟨by omega, by omega, by omega, by unfold scontP; decide, j91⟩⟩⟩
            · have hk : hexI (s, i + 1, []) x11 < 0 := by
                unfold hexI
                have : (jpeekS (s, i + 1, []) x11).1 = 0 := by
                  unfold jpeekS
                  exact if_f (decide_eq_false hq2)
                rw [this]; decide
              have hge : decide (i + 1 + x11 ≥ (s.length : Int)) = true := decide_eq_true (by omega)
              refine ⟨fun _ => ?_, fun h => (Bool.false_ne_true (h.symm.trans hge)).elim⟩
              unfold rtaj91
              rw [w1, w3, w4, w5, hge, Bool.true_or]
              exact ⟨fun _ => hneg hk, fun h => by cases h⟩
          refine ⟨3, stp 0 1 _ (.inl rfl) (by omega) (by omega) (fun h => hbad (by rw [decide_eq_false (show ¬ (hexI (s, i + 1, []) 1 ≥ 0) by omega)]; rfl)) fun p1 p2 _ => ?_⟩
          have e1 : IntKind.wrap .i64 (IntKind.wrap .i64 (16 * 0) + hexI (s, i + 1, []) 1) = hexI (s, i + 1, []) 1 := by
            rw [show IntKind.wrap .i64 (16 * 0) = 0 from rfl, Int.zero_add]; exact w64 (by omega)
          rw [e1]
          refine stp (hexI (s, i + 1, []) 1) 2 _ (.inr rfl) p1 (by omega) (fun h => hbad (by rw [decide_eq_false (show ¬ (hexI (s, i + 1, []) 2 ≥ 0) by omega), Bool.and_false])) fun p3 p4 p5 => ?_
          refine ⟨fun h => absurd (of_decide_eq_true h) (by decide), fun _ => ⟨hlen _ (Nat.le_refl _), ?_⟩⟩
          have hj2 : jescS (s, i + 1, []) = (IntKind.wrap .u8 (bitOr .i64 (IntKind.wrap .i64 (hexI (s, i + 1, []) 1 * 2 ^ 4)) (hexI (s, i + 1, []) 2)), 3, (s, i + 1, [])) := by
            rw [hj]; exact if_t (by rw [decide_eq_true (show hexI (s, i + 1, []) 1 ≥ 0 from p1), decide_eq_true (show hexI (s, i + 1, []) 2 ≥ 0 from p3)]; rfl)
          rw [hj2] at he
          replace he : rtaS s at_ = rtaR (txN s [] (k + 1) (i + 1 + 3) (intsOf acc ++ [IntKind.wrap .u8 (bitOr .i64 (IntKind.wrap .i64 (hexI (s, i + 1, []) 1 * 2 ^ 4)) (hexI (s, i + 1, []) 2))])) := he
          unfold rtaj16
          rw [w1, hs, one92, if_f hb1, if_f a, if_f b, if_f c, w64 (x := i + 1 + 2) (by omega), w64 (x := i + 1 + 2 + 1) (by omega)]
          refine ih (i + 1 + 2 + 1) _ (by omega) (by omega) (by omega) (by rw [List.length_append]; show ((acc.length + 1 : Nat) : Int) ≤ _; omega) ?_
          have hb8 : bytesOf [IntKind.wrap .u8 (IntKind.wrap .i64 (IntKind.wrap .i64 (16 * hexI (s, i + 1, []) 1) + hexI (s, i + 1, []) 2))] = bytesOf [IntKind.wrap .u8 (bitOr .i64 (IntKind.wrap .i64 (hexI (s, i + 1, []) 1 * 2 ^ 4)) (hexI (s, i + 1, []) 2))] := by
            show [UInt8.ofNat _] = [UInt8.ofNat _]
            rw [nib p1 p2 p3 p4]
          rw [he, hb8, intsOf_app]
          have hu : 0 ≤ IntKind.wrap .u8 (bitOr .i64 (IntKind.wrap .i64 (hexI (s, i + 1, []) 1 * 2 ^ 4)) (hexI (s, i + 1, []) 2)) ∧ IntKind.wrap .u8 (bitOr .i64 (IntKind.wrap .i64 (hexI (s, i + 1, []) 1 * 2 ^ 4)) (hexI (s, i + 1, []) 2)) < 256 := by
            constructor
            · exact Int.emod_nonneg _ (by decide)
            · exact Int.emod_lt_of_pos _ (by decide)
          have hio : ∀ z : Int, 0 ≤ z ∧ z < 256 → intsOf (bytesOf [z]) = [z] := fun z hz => by
            show [((UInt8.ofNat z.toNat).toNat : Int)] = [z]
            rw [UInt8.toNat_ofNat', Nat.mod_eq_of_lt (by omega), Int.toNat_of_nonneg hz.1]
          rw [hio _ hu]
          show rtaR (txN s [] (k + 1) (i + 1 + 3) _) = rtaR (txN s [] (k + 1) (i + 1 + 2 + 1) _)
          rw [show i + 1 + 3 = i + 1 + 2 + 1 by omega]
        · have hz : (jescS (s, i + 1, [])).2.1 = 0 := by unfold jescS; rw [hpk, if_f a, if_f b, if_f c, if_f d]
          rw [if_t (by rw [hz]; rfl)] at he
          exact he.symm
      exact ⟨by omega, by omega, fun _ => key, fun _ => key⟩
  unfold rtaF
  rw [w64 (by omega)]
  exact ⟨_, loop s.length (at_ + 1) [] (by omega) (by omega) (by omega) (by show (0 : Int) ≤ _; omega) rfl⟩
set_option linter.unusedVariables false in
theorem rta_c {g : Ghost} (xs : List UInt8) (xat : Int) (hG1 : SomeInt g 1)  (hp : rtaP xs xat) : CallsG Tryd.prog 19 #[.string ⟨⟨xs⟩⟩, .int .i64 xat] g (.tuple #[.string ⟨⟨((rtaS xs xat).1)⟩⟩, .int .i64 ((rtaS xs xat).2)]) :=
  (rta_ok xs xat hG1 _ (rta_F xs xat hp)).gives (by rintro g' H' v _ ⟨r0, r1, rfl, rfl, hK⟩; obtain ⟨rfl, rfl⟩ : r0 = (rtaS xs xat).1 ∧ r1 = (rtaS xs xat).2 := ⟨congrArg (fun z => z.1) hK, congrArg (fun z => z.2) hK⟩; rfl)
def rsaj27 (xs : List UInt8) (K : (List UInt8) → Prop) : Prop :=
  ((((decide (((xs.getD (Int.toNat 0) 0).toNat : Int) < 128)) && (scontS ([61, 33, 60, 62, 43, 45, 42, 47, 37, 40, 41, 91, 93, 123, 125, 44, 59, 58, 46, 63] : List UInt8) (xs.take (Int.toNat 1))))) = true → (0 : Int) ≤ 0 ∧ (0 : Int) ≤ 1 ∧ 1 ≤ (xs.length : Int) ∧ K (xs.take (Int.toNat 1))) ∧ ((((decide (((xs.getD (Int.toNat 0) 0).toNat : Int) < 128)) && (scontS ([61, 33, 60, 62, 43, 45, 42, 47, 37, 40, 41, 91, 93, 123, 125, 44, 59, 58, 46, 63] : List UInt8) (xs.take (Int.toNat 1))))) = false → K ([] : List UInt8))
def rsal7b (xs : List UInt8) (K : (List UInt8) → Prop) (x7l7 : Int) (C7 : Int → Prop) : Prop :=
  ((decide (x7l7 < (([([61, 61] : List UInt8), ([33, 61] : List UInt8), ([60, 61] : List UInt8), ([62, 61] : List UInt8), ([38, 38] : List UInt8), ([124, 124] : List UInt8)] : List (List UInt8)).length : Int))) = true → (0 : Int) ≤ x7l7 ∧ Int.toNat x7l7 < ([([61, 61] : List UInt8), ([33, 61] : List UInt8), ([60, 61] : List UInt8), ([62, 61] : List UInt8), ([38, 38] : List UInt8), ([124, 124] : List UInt8)] : List (List UInt8)).length ∧ (((hpM xs (([([61, 61] : List UInt8), ([33, 61] : List UInt8), ([60, 61] : List UInt8), ([62, 61] : List UInt8), ([38, 38] : List UInt8), ([124, 124] : List UInt8)] : List (List UInt8)).getD (Int.toNat x7l7) default))) = true → K (([([61, 61] : List UInt8), ([33, 61] : List UInt8), ([60, 61] : List UInt8), ([62, 61] : List UInt8), ([38, 38] : List UInt8), ([124, 124] : List UInt8)] : List (List UInt8)).getD (Int.toNat x7l7) default)) ∧ (((hpM xs (([([61, 61] : List UInt8), ([33, 61] : List UInt8), ([60, 61] : List UInt8), ([62, 61] : List UInt8), ([38, 38] : List UInt8), ([124, 124] : List UInt8)] : List (List UInt8)).getD (Int.toNat x7l7) default))) = false → C7 (IntKind.wrap .i64 (x7l7 + 1)))) ∧ ((decide (x7l7 < (([([61, 61] : List UInt8), ([33, 61] : List UInt8), ([60, 61] : List UInt8), ([62, 61] : List UInt8), ([38, 38] : List UInt8), ([124, 124] : List UInt8)] : List (List UInt8)).length : Int))) = false → (0 : Int) ≤ 0 ∧ Int.toNat 0 < xs.length ∧ ((decide (((xs.getD (Int.toNat 0) 0).toNat : Int) < 128)) = true → (0 : Int) ≤ 0 ∧ (0 : Int) ≤ 1 ∧ 1 ≤ (xs.length : Int) ∧ scontP ([61, 33, 60, 62, 43, 45, 42, 47, 37, 40, 41, 91, 93, 123, 125, 44, 59, 58, 46, 63] : List UInt8) (xs.take (Int.toNat 1)) ∧ rsaj27 xs K) ∧ ((decide (((xs.getD (Int.toNat 0) 0).toNat : Int) < 128)) = false → rsaj27 xs K))
def rsal7 (xs : List UInt8) (K : (List UInt8) → Prop) : Nat → Int → Prop
  | 0, _ => False
  | k + 1, x7l7 => rsal7b xs K x7l7 (rsal7 xs K k)
def rsaF (xs : List UInt8) (K : (List UInt8) → Prop) : Prop :=
  ∃ k, rsal7 xs K k 0
set_option maxHeartbeats 4000000 in
set_option maxRecDepth 100000 in
set_option linter.unusedVariables false in
theorem rsa_ok {g : Ghost} (xs : List UInt8) (hG1 : SomeInt g 1) (K : (List UInt8) → Prop)
    (hF : rsaF xs K) : CallsH Tryd.prog 20 #[.string ⟨⟨xs⟩⟩] g [] (fun g' H' v => ∃ (r0 : List UInt8), v = .string ⟨⟨r0⟩⟩ ∧ H' = [] ∧ K r0) := by
  refine CallsH.enter 26 [(0, .string ⟨⟨xs⟩⟩)] Tryd.func20 rfl (by kernel_rfl) (by kernel_rfl) (by kernel_rfl) fun w0 => ?_
  refine Ok.seq ?_
  refine Ok.region ?_
  refine Ok.batch 1 [(0, .string ⟨⟨xs⟩⟩)] (by kernel_rfl) ?_
  refine Ok.nil ?_
  refine Ok.thenN ?_
  refine Ok.seq ?_
  refine Ok.seq ?_
  refine Ok.region ?_
  have hL1 : RepL g (.str) ([.string ⟨⟨([61, 61] : List UInt8)⟩⟩, .string ⟨⟨([33, 61] : List UInt8)⟩⟩, .string ⟨⟨([60, 61] : List UInt8)⟩⟩, .string ⟨⟨([62, 61] : List UInt8)⟩⟩, .string ⟨⟨([38, 38] : List UInt8)⟩⟩, .string ⟨⟨([124, 124] : List UInt8)⟩⟩] : List Value) ([([61, 61] : List UInt8), ([33, 61] : List UInt8), ([60, 61] : List UInt8), ([62, 61] : List UInt8), ([38, 38] : List UInt8), ([124, 124] : List UInt8)] : List (List UInt8)) := (RepL.consN (c := [.string ⟨⟨([61, 61] : List UInt8)⟩⟩]) rfl (RepL.consN (c := [.string ⟨⟨([33, 61] : List UInt8)⟩⟩]) rfl (RepL.consN (c := [.string ⟨⟨([60, 61] : List UInt8)⟩⟩]) rfl (RepL.consN (c := [.string ⟨⟨([62, 61] : List UInt8)⟩⟩]) rfl (RepL.consN (c := [.string ⟨⟨([38, 38] : List UInt8)⟩⟩]) rfl (RepL.consN (c := [.string ⟨⟨([124, 124] : List UInt8)⟩⟩]) rfl rfl))))))
  refine Ok.op rfl (OpOk.lit (E := 9) (.str) ([([61, 61] : List UInt8), ([33, 61] : List UInt8), ([60, 61] : List UInt8), ([62, 61] : List UInt8), ([38, 38] : List UInt8), ([124, 124] : List UInt8)] : List (List UInt8)) ([.string ⟨⟨([61, 61] : List UInt8)⟩⟩, .string ⟨⟨([33, 61] : List UInt8)⟩⟩, .string ⟨⟨([60, 61] : List UInt8)⟩⟩, .string ⟨⟨([62, 61] : List UInt8)⟩⟩, .string ⟨⟨([38, 38] : List UInt8)⟩⟩, .string ⟨⟨([124, 124] : List UInt8)⟩⟩] : List Value) (by kernel_rfl) (by kernel_rfl) rfl (by kernel_rfl) hL1 rfl fun b1 => ?_)
  refine Ok.batch 2 [(0, .string ⟨⟨xs⟩⟩), (5, .slice (some ⟨b1, 0, none⟩) ([([61, 61] : List UInt8), ([33, 61] : List UInt8), ([60, 61] : List UInt8), ([62, 61] : List UInt8), ([38, 38] : List UInt8), ([124, 124] : List UInt8)] : List (List UInt8)).length 6), (6, .int .i64 (([([61, 61] : List UInt8), ([33, 61] : List UInt8), ([60, 61] : List UInt8), ([62, 61] : List UInt8), ([38, 38] : List UInt8), ([124, 124] : List UInt8)] : List (List UInt8)).length : Int)), (7, .int .i64 0)] (by kernel_rfl) ?_
  refine Ok.nil ?_
  refine Ok.thenN ?_
  refine Ok.block ?_
  obtain ⟨k, hF⟩ := hF
  refine Ok.loop (fun k a W => ∃ gl7 : Ghost, Gext w0 g gl7 ∧ ∃ (x7l7 : Int), StA 26 [(0, .string ⟨⟨xs⟩⟩), (5, .slice (some ⟨b1, 0, none⟩) ([([61, 61] : List UInt8), ([33, 61] : List UInt8), ([60, 61] : List UInt8), ([62, 61] : List UInt8), ([38, 38] : List UInt8), ([124, 124] : List UInt8)] : List (List UInt8)).length 6), (6, .int .i64 (([([61, 61] : List UInt8), ([33, 61] : List UInt8), ([60, 61] : List UInt8), ([62, 61] : List UInt8), ([38, 38] : List UInt8), ([124, 124] : List UInt8)] : List (List UInt8)).length : Int)), (7, .int .i64 x7l7)] a ∧ StW w0 [.own (.slice (some ⟨b1, 0, none⟩) ([([61, 61] : List UInt8), ([33, 61] : List UInt8), ([60, 61] : List UInt8), ([62, 61] : List UInt8), ([38, 38] : List UInt8), ([124, 124] : List UInt8)] : List (List UInt8)).length 6) 9 1 ([([61, 61] : List UInt8), ([33, 61] : List UInt8), ([60, 61] : List UInt8), ([62, 61] : List UInt8), ([38, 38] : List UInt8), ([124, 124] : List UInt8)] : List (List UInt8)).length ([.string ⟨⟨([61, 61] : List UInt8)⟩⟩, .string ⟨⟨([33, 61] : List UInt8)⟩⟩, .string ⟨⟨([60, 61] : List UInt8)⟩⟩, .string ⟨⟨([62, 61] : List UInt8)⟩⟩, .string ⟨⟨([38, 38] : List UInt8)⟩⟩, .string ⟨⟨([124, 124] : List UInt8)⟩⟩] : List Value)] gl7 W ∧ rsal7 xs K k x7l7) k ?_ ?_
  ·
    exact fun a W hA hW => ⟨g, (Gext.refl w0 g), 0, hA.sub (by kernel_rfl), hW, hF⟩
  ·
    clear hF
    rintro k7 a W ⟨gl7, hxl7, x7l7, hA, hW, hF⟩
    cases k7 with
    | zero => exact (hF : False).elim
    | succ k7 =>
      refine (?_ : Ok _ _ _ _ _ _) a W hA hW
      clear hA hW
      replace hL1 := hL1.mono hxl7.1
      replace hG1 := hG1.mono hxl7.1
      refine Ok.seq ?_
      refine Ok.region ?_
      refine Ok.batch 1 [(0, .string ⟨⟨xs⟩⟩), (5, .slice (some ⟨b1, 0, none⟩) ([([61, 61] : List UInt8), ([33, 61] : List UInt8), ([60, 61] : List UInt8), ([62, 61] : List UInt8), ([38, 38] : List UInt8), ([124, 124] : List UInt8)] : List (List UInt8)).length 6), (6, .int .i64 (([([61, 61] : List UInt8), ([33, 61] : List UInt8), ([60, 61] : List UInt8), ([62, 61] : List UInt8), ([38, 38] : List UInt8), ([124, 124] : List UInt8)] : List (List UInt8)).length : Int)), (7, .int .i64 x7l7), (8, .bool (decide (x7l7 < (([([61, 61] : List UInt8), ([33, 61] : List UInt8), ([60, 61] : List UInt8), ([62, 61] : List UInt8), ([38, 38] : List UInt8), ([124, 124] : List UInt8)] : List (List UInt8)).length : Int))))] (by kernel_rfl) ?_
      refine Ok.nil ?_
      refine Ok.thenN ?_
      refine Ok.seq ?_
      refine Ok.cond (b := decide (x7l7 < (([([61, 61] : List UInt8), ([33, 61] : List UInt8), ([60, 61] : List UInt8), ([62, 61] : List UInt8), ([38, 38] : List UInt8), ([124, 124] : List UInt8)] : List (List UInt8)).length : Int))) rfl (fun hc2 => ?_) (fun hc2 => ?_)
      · replace hF := hF.1 hc2
        refine Ok.skip ?_
        refine Ok.thenN ?_
        refine Ok.seq ?_
        refine Ok.block ?_
        refine Ok.seq ?_
        refine Ok.region ?_
        obtain ⟨h04, h14, hF⟩ := hF
        have he4 := get_of (l := ([([61, 61] : List UInt8), ([33, 61] : List UInt8), ([60, 61] : List UInt8), ([62, 61] : List UInt8), ([38, 38] : List UInt8), ([124, 124] : List UInt8)] : List (List UInt8))) (default : List UInt8) h14
        generalize hg4 : (([([61, 61] : List UInt8), ([33, 61] : List UInt8), ([60, 61] : List UInt8), ([62, 61] : List UInt8), ([38, 38] : List UInt8), ([124, 124] : List UInt8)] : List (List UInt8)).getD (Int.toNat x7l7) default) = e4 at he4 hF ⊢
        refine Ok.op rfl (OpOk.indexOwn (e := .str) (q := x7l7) (el := e4) 0 rfl hL1 rfl rfl Tryd.underlying65 (by kernel_rfl) (by kernel_rfl) h04 he4 rfl fun cs3 _ hr3 hc3 => ?_)
        obtain rfl := hr3
        replace hc3 : ∀ j v, ([.string ⟨⟨e4⟩⟩] : List Value)[j]? = some v → ([.string ⟨⟨([61, 61] : List UInt8)⟩⟩, .string ⟨⟨([33, 61] : List UInt8)⟩⟩, .string ⟨⟨([60, 61] : List UInt8)⟩⟩, .string ⟨⟨([62, 61] : List UInt8)⟩⟩, .string ⟨⟨([38, 38] : List UInt8)⟩⟩, .string ⟨⟨([124, 124] : List UInt8)⟩⟩] : List Value)[Int.toNat x7l7 * 1 + j]? = some v := hc3
        refine Ok.op rfl (OpOk.step (v := .string ⟨⟨e4⟩⟩) (Yields.loadOwn 0 0 rfl hc3 rfl Tryd.underlying9 rfl (by kernel_rfl)) rfl rfl ?_)
        refine Ok.batch 1 [(0, .string ⟨⟨xs⟩⟩), (4, .string ⟨⟨e4⟩⟩), (5, .slice (some ⟨b1, 0, none⟩) ([([61, 61] : List UInt8), ([33, 61] : List UInt8), ([60, 61] : List UInt8), ([62, 61] : List UInt8), ([38, 38] : List UInt8), ([124, 124] : List UInt8)] : List (List UInt8)).length 6), (6, .int .i64 (([([61, 61] : List UInt8), ([33, 61] : List UInt8), ([60, 61] : List UInt8), ([62, 61] : List UInt8), ([38, 38] : List UInt8), ([124, 124] : List UInt8)] : List (List UInt8)).length : Int)), (7, .int .i64 x7l7)] (by kernel_rfl) ?_
        refine Ok.nil ?_
        refine Ok.thenN ?_
        refine Ok.seq ?_
        refine Ok.region ?_
        refine Ok.batch 2 [(0, .string ⟨⟨xs⟩⟩), (4, .string ⟨⟨e4⟩⟩), (5, .slice (some ⟨b1, 0, none⟩) ([([61, 61] : List UInt8), ([33, 61] : List UInt8), ([60, 61] : List UInt8), ([62, 61] : List UInt8), ([38, 38] : List UInt8), ([124, 124] : List UInt8)] : List (List UInt8)).length 6), (6, .int .i64 (([([61, 61] : List UInt8), ([33, 61] : List UInt8), ([60, 61] : List UInt8), ([62, 61] : List UInt8), ([38, 38] : List UInt8), ([124, 124] : List UInt8)] : List (List UInt8)).length : Int)), (7, .int .i64 x7l7), (11, .string ⟨⟨xs⟩⟩), (12, .string ⟨⟨e4⟩⟩)] (by kernel_rfl) ?_
        refine Ok.op rfl (OpOk.callG (v := .bool (hpM xs e4)) (enters (by kernel_rfl) (fun _ => by kernel_rfl)) (fun W hW => hp_c xs e4) rfl ?_)
        refine Ok.nil ?_
        refine Ok.thenN ?_
        refine Ok.cond (b := (hpM xs e4)) rfl (fun hc5 => ?_) (fun hc5 => ?_)
        · replace hF := hF.1 hc5
          refine Ok.seq ?_
          refine Ok.region ?_
          refine Ok.batch 2 [(2, .string ⟨⟨e4⟩⟩)] (by kernel_rfl) ?_
          refine Ok.nil ?_
          refine Ok.thenN ?_
          refine Ok.ret ?_
          refine Ok.blockR ?_
          refine Ok.thenR ?_
          refine Ok.thenR ?_
          refine Ok.blockR ?_
          refine Ok.thenR ?_
          exact Ok.resP (vs := [.string ⟨⟨e4⟩⟩]) [] [] (by decide) rfl (.inl rfl) rfl (.cons (.tmp rfl) .nil) hxl7 ⟨e4, rfl, rfl, hF⟩
        · replace hF := hF.2 hc5
          refine Ok.skip ?_
          refine Ok.blockN ?_
          refine Ok.thenN ?_
          refine Ok.region ?_
          refine Ok.batch 2 [(0, .string ⟨⟨xs⟩⟩), (5, .slice (some ⟨b1, 0, none⟩) ([([61, 61] : List UInt8), ([33, 61] : List UInt8), ([60, 61] : List UInt8), ([62, 61] : List UInt8), ([38, 38] : List UInt8), ([124, 124] : List UInt8)] : List (List UInt8)).length 6), (6, .int .i64 (([([61, 61] : List UInt8), ([33, 61] : List UInt8), ([60, 61] : List UInt8), ([62, 61] : List UInt8), ([38, 38] : List UInt8), ([124, 124] : List UInt8)] : List (List UInt8)).length : Int)), (7, .int .i64 (IntKind.wrap .i64 (x7l7 + 1)))] (by kernel_rfl) ?_
          refine Ok.nil ?_
          refine Ok.thenN ?_
          subst hg4
          exact fun a W hA hW => ⟨k7, Nat.lt_succ_self _, gl7, hxl7, IntKind.wrap .i64 (x7l7 + 1), hA.sub (by kernel_rfl), hW, hF⟩
      · replace hF := hF.2 hc2
        refine Ok.exit ?_
        refine Ok.thenE ?_
        refine Ok.thenE ?_
        refine Ok.blockHit ?_
        refine Ok.thenN ?_
        refine Ok.seq ?_
        refine Ok.cut (fun a W => ∃ gj27 : Ghost, Gext w0 gl7 gj27 ∧ StA 26 [(0, .string ⟨⟨xs⟩⟩), (23, .bool ((decide (((xs.getD (Int.toNat 0) 0).toNat : Int) < 128)) && (scontS ([61, 33, 60, 62, 43, 45, 42, 47, 37, 40, 41, 91, 93, 123, 125, 44, 59, 58, 46, 63] : List UInt8) (xs.take (Int.toNat 1)))))] a ∧ StW w0 [] gj27 W ∧ rsaj27 xs K) ?_ ?_
        ·
          refine Ok.region ?_
          refine Ok.batch 1 [(0, .string ⟨⟨xs⟩⟩), (16, .string ⟨⟨xs⟩⟩)] (by kernel_rfl) ?_
          obtain ⟨h08, h18, hF⟩ := hF
          have he8 := get_of (l := xs) (0 : UInt8) h18
          generalize hg8 : (xs.getD (Int.toNat 0) 0) = e8 at he8 hF ⊢
          refine Ok.op rfl (OpOk.step (v := .int .u8 (e8.toNat : Int)) (Yields.indexStr (k := .i64) (i := 0) (s := xs) (b := e8) (by kernel_rfl) (by kernel_rfl) Tryd.underlying9 h08 he8) rfl rfl ?_)
          refine Ok.batch 2 [(0, .string ⟨⟨xs⟩⟩), (19, .bool (decide ((e8.toNat : Int) < 128)))] (by kernel_rfl) ?_
          refine Ok.boolAt 19 (decide ((e8.toNat : Int) < 128)) rfl (fun hc9 => ?_) (fun hc9 => ?_)
          · replace hF := hF.1 hc9
            refine Ok.batch 1 [(0, .string ⟨⟨xs⟩⟩), (19, .bool true), (20, .string ⟨⟨xs⟩⟩)] (by kernel_rfl) ?_
            obtain ⟨h010, h110, h210, hF⟩ := hF
            refine Ok.opYes (j := 3) (d := 19) (want := true) (b := true) rfl (by kernel_rfl) (by kernel_rfl) rfl (OpOk.step (v := .string ⟨⟨xs.take (Int.toNat 1)⟩⟩) (Yields.sliceStr (s := xs) (l := 0) (h := 1) (by kernel_rfl) Tryd.underlying9 (.inr ⟨rfl, rfl⟩) (.inl ⟨_, _, rfl, rfl⟩) h010 h110 h210 (xs.take (Int.toNat 1)) (by simp)) rfl rfl ?_)
            obtain ⟨hp11, hF⟩ := hF
            refine Ok.opYes (j := 3) (d := 19) (want := true) (b := true) rfl (by kernel_rfl) (by kernel_rfl) rfl (OpOk.callG (v := .bool (scontS ([61, 33, 60, 62, 43, 45, 42, 47, 37, 40, 41, 91, 93, 123, 125, 44, 59, 58, 46, 63] : List UInt8) (xs.take (Int.toNat 1)))) (enters (by kernel_rfl) (fun _ => by kernel_rfl)) (fun W hW => scont_c ([61, 33, 60, 62, 43, 45, 42, 47, 37, 40, 41, 91, 93, 123, 125, 44, 59, 58, 46, 63] : List UInt8) (xs.take (Int.toNat 1)) (hG1.mono hW.sees) hp11) rfl ?_)
            refine Ok.batch 1 [(0, .string ⟨⟨xs⟩⟩), (23, .bool (scontS ([61, 33, 60, 62, 43, 45, 42, 47, 37, 40, 41, 91, 93, 123, 125, 44, 59, 58, 46, 63] : List UInt8) (xs.take (Int.toNat 1))))] (by kernel_rfl) ?_
            refine Ok.nil ?_
            refine Ok.thenN ?_
            subst hg8
            refine Ok.reval 23 rfl (show (.bool (scontS ([61, 33, 60, 62, 43, 45, 42, 47, 37, 40, 41, 91, 93, 123, 125, 44, 59, 58, 46, 63] : List UInt8) (xs.take (Int.toNat 1))) : Value) = .bool ((decide (((xs.getD (Int.toNat 0) 0).toNat : Int) < 128)) && (scontS ([61, 33, 60, 62, 43, 45, 42, 47, 37, 40, 41, 91, 93, 123, 125, 44, 59, 58, 46, 63] : List UInt8) (xs.take (Int.toNat 1)))) from congrArg (Value.bool) (mand_t hc9)) ?_
            exact fun a W hA hW => ⟨gl7, (Gext.refl w0 gl7), hA.sub (by kernel_rfl), hW.sub (.cons _ .slnil), hF⟩
          · replace hF := hF.2 hc9
            refine Ok.batch 4 [(0, .string ⟨⟨xs⟩⟩), (23, .bool false)] (by kernel_rfl) ?_
            refine Ok.nil ?_
            refine Ok.thenN ?_
            subst hg8
            refine Ok.reval 23 rfl (show (.bool false : Value) = .bool ((decide (((xs.getD (Int.toNat 0) 0).toNat : Int) < 128)) && (scontS ([61, 33, 60, 62, 43, 45, 42, 47, 37, 40, 41, 91, 93, 123, 125, 44, 59, 58, 46, 63] : List UInt8) (xs.take (Int.toNat 1)))) from congrArg (Value.bool) (mand_f hc9)) ?_
            exact fun a W hA hW => ⟨gl7, (Gext.refl w0 gl7), hA.sub (by kernel_rfl), hW.sub (.cons _ .slnil), hF⟩
        ·
          clear hF
          rintro a W ⟨gj27, hxj27, hA, hW, hF⟩
          refine (?_ : Ok _ _ _ _ _ _) a W hA hW
          clear hA hW
          replace hG1 := hG1.mono hxj27.1
          refine Ok.cond (b := ((decide (((xs.getD (Int.toNat 0) 0).toNat : Int) < 128)) && (scontS ([61, 33, 60, 62, 43, 45, 42, 47, 37, 40, 41, 91, 93, 123, 125, 44, 59, 58, 46, 63] : List UInt8) (xs.take (Int.toNat 1))))) rfl (fun hc6 => ?_) (fun hc6 => ?_)
          · replace hF := hF.1 hc6
            refine Ok.seq ?_
            refine Ok.region ?_
            refine Ok.batch 1 [(24, .string ⟨⟨xs⟩⟩)] (by kernel_rfl) ?_
            obtain ⟨h07, h17, h27, hF⟩ := hF
            refine Ok.op rfl (OpOk.step (v := .string ⟨⟨xs.take (Int.toNat 1)⟩⟩) (Yields.sliceStr (s := xs) (l := 0) (h := 1) (by kernel_rfl) Tryd.underlying9 (.inr ⟨rfl, rfl⟩) (.inl ⟨_, _, rfl, rfl⟩) h07 h17 h27 (xs.take (Int.toNat 1)) (by simp)) rfl rfl ?_)
            refine Ok.batch 1 [(2, .string ⟨⟨xs.take (Int.toNat 1)⟩⟩)] (by kernel_rfl) ?_
            refine Ok.nil ?_
            refine Ok.thenN ?_
            refine Ok.ret ?_
            refine Ok.thenR ?_
            exact Ok.resH (vs := [.string ⟨⟨xs.take (Int.toNat 1)⟩⟩]) (.inl rfl) rfl (.cons (.tmp rfl) .nil) (hxl7.trans hxj27) ⟨(xs.take (Int.toNat 1)), rfl, rfl, hF⟩
          · replace hF := hF.2 hc6
            refine Ok.skip ?_
            refine Ok.thenN ?_
            refine Ok.seq ?_
            refine Ok.region ?_
            refine Ok.batch 1 [(2, .string ⟨⟨([] : List UInt8)⟩⟩)] (by kernel_rfl) ?_
            refine Ok.nil ?_
            refine Ok.thenN ?_
            refine Ok.ret ?_
            exact Ok.resH (vs := [.string ⟨⟨([] : List UInt8)⟩⟩]) (.inl rfl) rfl (.cons (.tmp rfl) .nil) (hxl7.trans hxj27) ⟨([] : List UInt8), rfl, rfl, hF⟩
def SGL : List (List UInt8) := [[61, 61], [33, 61], [60, 61], [62, 61], [38, 38], [124, 124], [61], [33], [60], [62], [43], [45], [42], [47], [37], [40], [41], [91], [93], [123], [125], [44], [59], [58], [46], [63]]
theorem SG_l : fieldsS SG = SGL := by decide +kernel
def SG2 : List (List UInt8) := [[61, 61], [33, 61], [60, 61], [62, 61], [38, 38], [124, 124]]
def rsaS (t : List UInt8) : List UInt8 := if (decide (2 ≤ t.length) && SGL.contains (t.take 2)) = true then t.take 2 else if SGL.contains (t.take 1) = true then t.take 1 else []
def rsaP (t : List UInt8) : Prop := 1 ≤ t.length
def SG1 : List UInt8 := [61, 33, 60, 62, 43, 45, 42, 47, 37, 40, 41, 91, 93, 123, 125, 44, 59, 58, 46, 63]
theorem sg1_ok (c : UInt8) : (decide ((c.toNat : Int) < 128) && scontS SG1 [c]) = SGL.contains [c] := beq_iff_eq.1 (byte_all (p := fun c => (decide ((c.toNat : Int) < 128) && scontS SG1 [c]) == SGL.contains [c]) (by decide +kernel) c)
theorem sg2_ok (a b : UInt8) : SGL.contains [a, b] = SG2.contains [a, b] := by
  simp [SGL, SG2]
theorem hp2 (t : List UInt8) (x y : UInt8) : hpM t [x, y] = (decide (2 ≤ t.length) && (t.take 2 == [x, y])) := by
  show (decide ((t.length : Int) ≥ 2) && (t.take 2 == [x, y])) = _
  congr 1
  rw [Bool.eq_iff_iff, decide_eq_true_eq, decide_eq_true_eq]; omega
theorem take2 : ∀ t : List UInt8, 2 ≤ t.length → ∃ a b, t.take 2 = [a, b]
  | [], h => by simp at h
  | [_], h => by simp at h
  | a :: b :: _, _ => ⟨a, b, rfl⟩
theorem take1 : ∀ t : List UInt8, 1 ≤ t.length → t.take 1 = [t.getD 0 0]
  | [], h => by simp at h
  | a :: _, _ => rfl
theorem rsa_F (t : List UInt8) (hp : rsaP t) : rsaF t (fun r => r = rsaS t) := by
  unfold rsaP at hp
  have hsub : ∀ w ∈ SG2, w ∈ SGL := by decide
  have hshape : ∀ w ∈ SG2, ∃ x y, w = [x, y] := by
    intro w hw
    simp only [SG2, List.mem_cons, List.not_mem_nil, or_false] at hw
    rcases hw with rfl | rfl | rfl | rfl | rfl | rfl <;> exact ⟨_, _, rfl⟩
  have ok : ∀ w ∈ SG2, hpM t w = true → w = rsaS t := by
    intro w hw h
    obtain ⟨x, y, rfl⟩ := hshape w hw
    rw [hp2, Bool.and_eq_true, beq_iff_eq] at h
    unfold rsaS
    rw [h.1, h.2, if_t (show (true && SGL.contains [x, y]) = true by rw [Bool.true_and]; exact List.contains_iff_mem.2 (hsub _ hw))]
  have step : ∀ (j : Nat) (w : List UInt8) (C : Int → Prop), j < 6 → SG2.getD j default = w → w ∈ SG2 → (hpM t w = false → C ((j : Int) + 1)) → rsal7b t (fun r => r = rsaS t) (j : Int) C := by
    intro j w C hj hw hm hn
    refine ⟨fun _ => ⟨by omega, by rw [Int.toNat_natCast]; exact hj, ?_, ?_⟩, fun h => by have := of_decide_eq_false h; have : (j : Int) < 6 := by omega
                                                                                          exact absurd this (by assumption)⟩
    · rw [Int.toNat_natCast]
      change hpM t (SG2.getD j default) = true → SG2.getD j default = rsaS t
      rw [hw]; exact ok w hm
    · rw [Int.toNat_natCast]
      change hpM t (SG2.getD j default) = false → C (IntKind.wrap .i64 ((j : Int) + 1))
      rw [hw, w64 (by omega)]; exact hn
  refine ⟨7, step 0 [61, 61] _ (by decide) rfl (by decide) fun f0 => step 1 [33, 61] _ (by decide) rfl (by decide) fun f1 => step 2 [60, 61] _ (by decide) rfl (by decide) fun f2 => step 3 [62, 61] _ (by decide) rfl (by decide) fun f3 => step 4 [38, 38] _ (by decide) rfl (by decide) fun f4 => step 5 [124, 124] _ (by decide) rfl (by decide) fun f5 => ?_⟩
  have hno : (decide (2 ≤ t.length) && SGL.contains (t.take 2)) = false := by
    cases h2 : decide (2 ≤ t.length)
    · rfl
    · rw [Bool.true_and]
      obtain ⟨a, b, hab⟩ := take2 t (of_decide_eq_true h2)
      rw [hab, sg2_ok]
      rw [hp2, h2, Bool.true_and, hab] at f0 f1 f2 f3 f4 f5
      have g : ∀ x y : UInt8, ([a, b] == [x, y]) = false → ([x, y] : List UInt8) ≠ [a, b] := fun x y h e => by rw [e] at h; simp at h
      rw [Bool.eq_false_iff]
      intro hc
      have hm := List.contains_iff_mem.1 hc
      simp only [SG2, List.mem_cons, List.not_mem_nil, or_false] at hm
      rcases hm with h | h | h | h | h | h
      · exact g _ _ f0 h.symm
      · exact g _ _ f1 h.symm
      · exact g _ _ f2 h.symm
      · exact g _ _ f3 h.symm
      · exact g _ _ f4 h.symm
      · exact g _ _ f5 h.symm
  have key : rsaj27 t (fun r => r = rsaS t) := by
    unfold rsaj27
    have e1 : t.take (Int.toNat 1) = [t.getD 0 0] := take1 t hp
    have e0 : t.getD (Int.toNat 0) 0 = t.getD 0 0 := rfl
    rw [e1, e0]
    change ((decide (((t.getD 0 0).toNat : Int) < 128) && scontS SG1 [t.getD 0 0]) = true → _) ∧ ((decide (((t.getD 0 0).toNat : Int) < 128) && scontS SG1 [t.getD 0 0]) = false → _)
    rw [sg1_ok]
    have er : rsaS t = if SGL.contains [t.getD 0 0] = true then [t.getD 0 0] else [] := by
      unfold rsaS
      rw [if_f hno, show t.take 1 = [t.getD 0 0] from e1]
    exact ⟨fun h => ⟨by omega, by omega, by omega, by rw [er, if_t h]⟩, fun h => by rw [er, if_f h]⟩
  refine ⟨fun h => absurd (of_decide_eq_true h) (by decide), fun _ => ⟨by omega, by show 0 < t.length; omega, fun _ => ⟨by omega, by omega, by omega, by unfold scontP; decide, key⟩, fun _ => key⟩⟩
set_option linter.unusedVariables false in
theorem rsa_c {g : Ghost} (xs : List UInt8) (hG1 : SomeInt g 1)  (hp : rsaP xs) : CallsG Tryd.prog 20 #[.string ⟨⟨xs⟩⟩] g (.string ⟨⟨(rsaS xs)⟩⟩) :=
  (rsa_ok xs hG1 _ (rsa_F xs hp)).gives (by rintro g' H' v _ ⟨r0, rfl, rfl, hK⟩; subst hK; rfl)
end Go.Proofs.YtaojddkfacnddaaDoor.Jl
