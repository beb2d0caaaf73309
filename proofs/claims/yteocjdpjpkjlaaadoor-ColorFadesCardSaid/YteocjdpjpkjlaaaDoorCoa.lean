/- Colors: the program's small functions. -/
import Derived.Test.YteocjdpjpkjlaaaDoorBlc
import Derived.Test.YteocjdpjpkjlaaaDoorSpl
import Derived.Test.YteocjdpjpkjlaaaDoorTri
import Derived.Test.YteocjdpjpkjlaaaDoorByt
import Derived.Test.YteocjdpjpkjlaaaDoorMor
import Derived.Lib.AppendIntMem
import Derived.Lib.AtoiErrMem
namespace Go.Proofs.YteocjdpjpkjlaaaDoor.Co
open Go Go.Eng Go.RowKit Go.Shelf Go.Proofs Bld Sp Ti
set_option linter.unusedVariables false
def slhpj3 (xs : List UInt8) (xprefix : List UInt8) (K : Bool → Prop) : Prop :=
  K ((decide ((xs.length : Int) ≥ (xprefix.length : Int))) && ((xs.take (Int.toNat (xprefix.length : Int))) == xprefix))
def slhpF (xs : List UInt8) (xprefix : List UInt8) (K : Bool → Prop) : Prop :=
  ((decide ((xs.length : Int) ≥ (xprefix.length : Int))) = true → (0 : Int) ≤ 0 ∧ (0 : Int) ≤ (xprefix.length : Int) ∧ (xprefix.length : Int) ≤ (xs.length : Int) ∧ slhpj3 xs xprefix K) ∧ ((decide ((xs.length : Int) ≥ (xprefix.length : Int))) = false → slhpj3 xs xprefix K)
set_option maxHeartbeats 4000000 in
set_option maxRecDepth 100000 in
set_option linter.unusedVariables false in
theorem slhp_ok {g : Ghost} (xs : List UInt8) (xprefix : List UInt8) (K : Bool → Prop)
    (hF : slhpF xs xprefix K) : CallsH Tryd.prog 89 #[.string ⟨⟨xs⟩⟩, .string ⟨⟨xprefix⟩⟩] g [] (fun g' H' v => ∃ (r0 : Bool), v = .bool r0 ∧ H' = [] ∧ K r0) := by
  refine CallsH.enter 18 [(0, .string ⟨⟨xs⟩⟩), (1, .string ⟨⟨xprefix⟩⟩)] Tryd.func89 rfl (by kernel_rfl) (by kernel_rfl) (by kernel_rfl) fun w0 => ?_
  refine Ok.seq ?_
  refine Ok.region ?_
  refine Ok.batch 1 [(0, .string ⟨⟨xs⟩⟩), (1, .string ⟨⟨xprefix⟩⟩)] (by kernel_rfl) ?_
  refine Ok.nil ?_
  refine Ok.thenN ?_
  refine Ok.cut (fun a W => StA 18 [(4, .bool ((decide ((xs.length : Int) ≥ (xprefix.length : Int))) && ((xs.take (Int.toNat (xprefix.length : Int))) == xprefix)))] a ∧ StW w0 [] g W ∧ slhpj3 xs xprefix K) ?_ ?_
  ·
    refine Ok.region ?_
    refine Ok.batch 6 [(0, .string ⟨⟨xs⟩⟩), (1, .string ⟨⟨xprefix⟩⟩), (10, .bool (decide ((xs.length : Int) ≥ (xprefix.length : Int))))] (by kernel_rfl) ?_
    refine Ok.boolAt 10 (decide ((xs.length : Int) ≥ (xprefix.length : Int))) rfl (fun hc1 => ?_) (fun hc1 => ?_)
    · replace hF := hF.1 hc1
      refine Ok.batch 3 [(1, .string ⟨⟨xprefix⟩⟩), (10, .bool true), (11, .string ⟨⟨xs⟩⟩), (13, .int .i64 (xprefix.length : Int))] (by kernel_rfl) ?_
      obtain ⟨h02, h12, h22, hF⟩ := hF
      refine Ok.opYes (j := 5) (d := 10) (want := true) (b := true) rfl (by kernel_rfl) (by kernel_rfl) rfl (OpOk.step (v := .string ⟨⟨xs.take (Int.toNat (xprefix.length : Int))⟩⟩) (Yields.sliceStr (s := xs) (l := 0) (h := (xprefix.length : Int)) (by kernel_rfl) Tryd.underlying9 (.inr ⟨rfl, rfl⟩) (.inl ⟨_, _, rfl, rfl⟩) h02 h12 h22 (xs.take (Int.toNat (xprefix.length : Int))) (by simp)) rfl rfl ?_)
      refine Ok.batch 1 [(10, .bool true), (14, .string ⟨⟨xs.take (Int.toNat (xprefix.length : Int))⟩⟩), (15, .string ⟨⟨xprefix⟩⟩)] (by kernel_rfl) ?_
      refine Ok.opYes (j := 5) (d := 10) (want := true) (b := true) rfl (by kernel_rfl) (by kernel_rfl) rfl (OpOk.step (v := .bool ((xs.take (Int.toNat (xprefix.length : Int))) == xprefix)) (Yields.strCmp (f := .eql) (a := (xs.take (Int.toNat (xprefix.length : Int)))) (b := xprefix) (by kernel_rfl) (by kernel_rfl) rfl) rfl rfl ?_)
      refine Ok.batch 2 [(4, .bool ((xs.take (Int.toNat (xprefix.length : Int))) == xprefix))] (by kernel_rfl) ?_
      refine Ok.nil ?_
      refine Ok.thenN ?_
      refine Ok.reval 4 rfl (show (.bool ((xs.take (Int.toNat (xprefix.length : Int))) == xprefix) : Value) = .bool ((decide ((xs.length : Int) ≥ (xprefix.length : Int))) && ((xs.take (Int.toNat (xprefix.length : Int))) == xprefix)) from congrArg (Value.bool) (mand_t hc1)) ?_
      exact fun a W hA hW => ⟨hA.sub (by kernel_rfl), hW, hF⟩
    · replace hF := hF.2 hc1
      refine Ok.batch 8 [(4, .bool false)] (by kernel_rfl) ?_
      refine Ok.nil ?_
      refine Ok.thenN ?_
      refine Ok.reval 4 rfl (show (.bool false : Value) = .bool ((decide ((xs.length : Int) ≥ (xprefix.length : Int))) && ((xs.take (Int.toNat (xprefix.length : Int))) == xprefix)) from congrArg (Value.bool) (mand_f hc1)) ?_
      exact fun a W hA hW => ⟨hA.sub (by kernel_rfl), hW, hF⟩
  ·
    clear hF
    rintro a W ⟨hA, hW, hF⟩
    refine (?_ : Ok _ _ _ _ _ _) a W hA hW
    clear hA hW
    refine Ok.ret ?_
    exact Ok.resH (vs := [.bool ((decide ((xs.length : Int) ≥ (xprefix.length : Int))) && ((xs.take (Int.toNat (xprefix.length : Int))) == xprefix))]) (.inl rfl) rfl (.cons (.tmp rfl) .nil) (Gext.refl w0 g) ⟨((decide ((xs.length : Int) ≥ (xprefix.length : Int))) && ((xs.take (Int.toNat (xprefix.length : Int))) == xprefix)), rfl, rfl, hF⟩
def slhpj3M (xs : List UInt8) (xprefix : List UInt8) : Bool := ((decide ((xs.length : Int) ≥ (xprefix.length : Int))) && ((xs.take (Int.toNat (xprefix.length : Int))) == xprefix))
set_option linter.unusedSimpArgs false in
set_option linter.unusedVariables false in
theorem slhpj3_A (xs : List UInt8) (xprefix : List UInt8) (P : Bool → Prop) (h : P (slhpj3M xs xprefix)) : slhpj3 xs xprefix (fun k0 => P k0) := by
  unfold slhpj3M at h
  unfold slhpj3
  exact h
def slhpM (xs : List UInt8) (xprefix : List UInt8) : Bool := (slhpj3M xs xprefix)
set_option linter.unusedSimpArgs false in
set_option linter.unusedVariables false in
theorem slhpF_A (xs : List UInt8) (xprefix : List UInt8) (P : Bool → Prop) (h : P (slhpM xs xprefix)) : slhpF xs xprefix (fun k0 => P k0) := by
  unfold slhpM at h
  unfold slhpF
  refine ⟨fun hc0 => ?_, fun hc0 => ?_⟩
  · skip
    have hd0 := of_decide_eq_true hc0
    refine ⟨?_, ?_, ?_, ?_⟩
    · first | omega | assumption | exact trivial | (have h0 := List.length_pos_iff.mpr (by assumption); omega) | (simp; omega) | (simp at *; omega)
    · first | omega | assumption | exact trivial | (have h0 := List.length_pos_iff.mpr (by assumption); omega) | (simp; omega) | (simp at *; omega)
    · first | omega | assumption | exact trivial | (have h0 := List.length_pos_iff.mpr (by assumption); omega) | (simp; omega) | (simp at *; omega)
    exact slhpj3_A xs xprefix _ h
  · skip
    have hd0 := of_decide_eq_false hc0
    exact slhpj3_A xs xprefix _ h
theorem slhp_F (xs : List UInt8) (xprefix : List UInt8) : slhpF xs xprefix (fun k0 => k0 = slhpM xs xprefix) :=
  slhpF_A xs xprefix (fun z => z = slhpM xs xprefix) rfl
set_option linter.unusedVariables false in
theorem slhp_c {g : Ghost} (xs : List UInt8) (xprefix : List UInt8)  : CallsG Tryd.prog 89 #[.string ⟨⟨xs⟩⟩, .string ⟨⟨xprefix⟩⟩] g (.bool (slhpM xs xprefix)) :=
  (slhp_ok xs xprefix _ (slhp_F xs xprefix)).gives (by rintro g' H' v _ ⟨r0, rfl, rfl, hK⟩; subst hK; rfl)
theorem hp_le {s p : List UInt8} (h : slhpM s p = true) : (p.length : Int) ≤ (s.length : Int) := by
  have h : (decide ((s.length : Int) ≥ (p.length : Int)) && ((s.take (Int.toNat (p.length : Int))) == p)) = true := h
  rw [Bool.and_eq_true, decide_eq_true_eq] at h
  omega
theorem hp_le' {s p : List UInt8} (h : (!(slhpM s p)) = false) : (p.length : Int) ≤ (s.length : Int) := hp_le (by simpa using h)
def hsP (s _ : List UInt8) : Prop := s.length ≤ 281474976710656
def slhsj3 (xs : List UInt8) (xsuffix : List UInt8) (K : Bool → Prop) : Prop :=
  K ((decide ((xs.length : Int) ≥ (xsuffix.length : Int))) && ((xs.drop (Int.toNat (IntKind.wrap .i64 ((xs.length : Int) - (xsuffix.length : Int))))) == xsuffix))
def slhsF (xs : List UInt8) (xsuffix : List UInt8) (K : Bool → Prop) : Prop :=
  ((decide ((xs.length : Int) ≥ (xsuffix.length : Int))) = true → (0 : Int) ≤ (IntKind.wrap .i64 ((xs.length : Int) - (xsuffix.length : Int))) ∧ ((IntKind.wrap .i64 ((xs.length : Int) - (xsuffix.length : Int))) : Int) ≤ (xs.length : Int) ∧ (xs.length : Int) ≤ (xs.length : Int) ∧ slhsj3 xs xsuffix K) ∧ ((decide ((xs.length : Int) ≥ (xsuffix.length : Int))) = false → slhsj3 xs xsuffix K)
set_option maxHeartbeats 4000000 in
set_option maxRecDepth 100000 in
set_option linter.unusedVariables false in
theorem slhs_ok {g : Ghost} (xs : List UInt8) (xsuffix : List UInt8) (K : Bool → Prop)
    (hF : slhsF xs xsuffix K) : CallsH Tryd.prog 72 #[.string ⟨⟨xs⟩⟩, .string ⟨⟨xsuffix⟩⟩] g [] (fun g' H' v => ∃ (r0 : Bool), v = .bool r0 ∧ H' = [] ∧ K r0) := by
  refine CallsH.enter 21 [(0, .string ⟨⟨xs⟩⟩), (1, .string ⟨⟨xsuffix⟩⟩)] Tryd.func72 rfl (by kernel_rfl) (by kernel_rfl) (by kernel_rfl) fun w0 => ?_
  refine Ok.seq ?_
  refine Ok.region ?_
  refine Ok.batch 1 [(0, .string ⟨⟨xs⟩⟩), (1, .string ⟨⟨xsuffix⟩⟩)] (by kernel_rfl) ?_
  refine Ok.nil ?_
  refine Ok.thenN ?_
  refine Ok.cut (fun a W => StA 21 [(4, .bool ((decide ((xs.length : Int) ≥ (xsuffix.length : Int))) && ((xs.drop (Int.toNat (IntKind.wrap .i64 ((xs.length : Int) - (xsuffix.length : Int))))) == xsuffix)))] a ∧ StW w0 [] g W ∧ slhsj3 xs xsuffix K) ?_ ?_
  ·
    refine Ok.region ?_
    refine Ok.batch 6 [(0, .string ⟨⟨xs⟩⟩), (1, .string ⟨⟨xsuffix⟩⟩), (10, .bool (decide ((xs.length : Int) ≥ (xsuffix.length : Int))))] (by kernel_rfl) ?_
    refine Ok.boolAt 10 (decide ((xs.length : Int) ≥ (xsuffix.length : Int))) rfl (fun hc1 => ?_) (fun hc1 => ?_)
    · replace hF := hF.1 hc1
      refine Ok.batch 6 [(1, .string ⟨⟨xsuffix⟩⟩), (10, .bool true), (11, .string ⟨⟨xs⟩⟩), (16, .int .i64 (IntKind.wrap .i64 ((xs.length : Int) - (xsuffix.length : Int))))] (by kernel_rfl) ?_
      obtain ⟨h02, h12, h22, hF⟩ := hF
      refine Ok.opYes (j := 5) (d := 10) (want := true) (b := true) rfl (by kernel_rfl) (by kernel_rfl) rfl (OpOk.step (v := .string ⟨⟨xs.drop (Int.toNat (IntKind.wrap .i64 ((xs.length : Int) - (xsuffix.length : Int))))⟩⟩) (Yields.sliceStr (s := xs) (l := (IntKind.wrap .i64 ((xs.length : Int) - (xsuffix.length : Int)))) (h := (xs.length : Int)) (by kernel_rfl) Tryd.underlying9 (.inl ⟨_, _, rfl, rfl⟩) (.inr ⟨rfl, rfl⟩) h02 h12 h22 (xs.drop (Int.toNat (IntKind.wrap .i64 ((xs.length : Int) - (xsuffix.length : Int))))) (by rw [show ((xs.length : Int)).toNat = xs.length from Int.toNat_natCast _, List.take_length])) rfl rfl ?_)
      refine Ok.batch 1 [(10, .bool true), (17, .string ⟨⟨xs.drop (Int.toNat (IntKind.wrap .i64 ((xs.length : Int) - (xsuffix.length : Int))))⟩⟩), (18, .string ⟨⟨xsuffix⟩⟩)] (by kernel_rfl) ?_
      refine Ok.opYes (j := 5) (d := 10) (want := true) (b := true) rfl (by kernel_rfl) (by kernel_rfl) rfl (OpOk.step (v := .bool ((xs.drop (Int.toNat (IntKind.wrap .i64 ((xs.length : Int) - (xsuffix.length : Int))))) == xsuffix)) (Yields.strCmp (f := .eql) (a := (xs.drop (Int.toNat (IntKind.wrap .i64 ((xs.length : Int) - (xsuffix.length : Int)))))) (b := xsuffix) (by kernel_rfl) (by kernel_rfl) rfl) rfl rfl ?_)
      refine Ok.batch 2 [(4, .bool ((xs.drop (Int.toNat (IntKind.wrap .i64 ((xs.length : Int) - (xsuffix.length : Int))))) == xsuffix))] (by kernel_rfl) ?_
      refine Ok.nil ?_
      refine Ok.thenN ?_
      refine Ok.reval 4 rfl (show (.bool ((xs.drop (Int.toNat (IntKind.wrap .i64 ((xs.length : Int) - (xsuffix.length : Int))))) == xsuffix) : Value) = .bool ((decide ((xs.length : Int) ≥ (xsuffix.length : Int))) && ((xs.drop (Int.toNat (IntKind.wrap .i64 ((xs.length : Int) - (xsuffix.length : Int))))) == xsuffix)) from congrArg (Value.bool) (mand_t hc1)) ?_
      exact fun a W hA hW => ⟨hA.sub (by kernel_rfl), hW, hF⟩
    · replace hF := hF.2 hc1
      refine Ok.batch 11 [(4, .bool false)] (by kernel_rfl) ?_
      refine Ok.nil ?_
      refine Ok.thenN ?_
      refine Ok.reval 4 rfl (show (.bool false : Value) = .bool ((decide ((xs.length : Int) ≥ (xsuffix.length : Int))) && ((xs.drop (Int.toNat (IntKind.wrap .i64 ((xs.length : Int) - (xsuffix.length : Int))))) == xsuffix)) from congrArg (Value.bool) (mand_f hc1)) ?_
      exact fun a W hA hW => ⟨hA.sub (by kernel_rfl), hW, hF⟩
  ·
    clear hF
    rintro a W ⟨hA, hW, hF⟩
    refine (?_ : Ok _ _ _ _ _ _) a W hA hW
    clear hA hW
    refine Ok.ret ?_
    exact Ok.resH (vs := [.bool ((decide ((xs.length : Int) ≥ (xsuffix.length : Int))) && ((xs.drop (Int.toNat (IntKind.wrap .i64 ((xs.length : Int) - (xsuffix.length : Int))))) == xsuffix))]) (.inl rfl) rfl (.cons (.tmp rfl) .nil) (Gext.refl w0 g) ⟨((decide ((xs.length : Int) ≥ (xsuffix.length : Int))) && ((xs.drop (Int.toNat (IntKind.wrap .i64 ((xs.length : Int) - (xsuffix.length : Int))))) == xsuffix)), rfl, rfl, hF⟩
def slhsj3M (xs : List UInt8) (xsuffix : List UInt8) : Bool := ((decide ((xs.length : Int) ≥ (xsuffix.length : Int))) && ((xs.drop (Int.toNat (IntKind.wrap .i64 ((xs.length : Int) - (xsuffix.length : Int))))) == xsuffix))
set_option linter.unusedSimpArgs false in
set_option linter.unusedVariables false in
theorem slhsj3_A (xs : List UInt8) (xsuffix : List UInt8) (P : Bool → Prop) (h : P (slhsj3M xs xsuffix)) : slhsj3 xs xsuffix (fun k0 => P k0) := by
  unfold slhsj3M at h
  unfold slhsj3
  exact h
def slhsM (xs : List UInt8) (xsuffix : List UInt8) : Bool := (slhsj3M xs xsuffix)
set_option linter.unusedSimpArgs false in
set_option linter.unusedVariables false in
theorem slhsF_A (xs : List UInt8) (xsuffix : List UInt8) (hp : hsP xs xsuffix) (P : Bool → Prop) (h : P (slhsM xs xsuffix)) : slhsF xs xsuffix (fun k0 => P k0) := by
  unfold slhsM at h
  unfold slhsF
  refine ⟨fun hc0 => ?_, fun hc0 => ?_⟩
  · skip
    have hd0 := of_decide_eq_true hc0
    refine ⟨?_, ?_, ?_, ?_⟩
    · first | exact hp_le' (by assumption) | exact hp_le (by assumption) | exact hp | (unfold hsP at hp; rw [w64 (by omega)]; omega) | omega | assumption | exact trivial | (have h0 := List.length_pos_iff.mpr (by assumption); omega) | (simp; omega) | (simp at *; omega)
    · first | exact hp_le' (by assumption) | exact hp_le (by assumption) | exact hp | (unfold hsP at hp; rw [w64 (by omega)]; omega) | omega | assumption | exact trivial | (have h0 := List.length_pos_iff.mpr (by assumption); omega) | (simp; omega) | (simp at *; omega)
    · first | exact hp_le' (by assumption) | exact hp_le (by assumption) | exact hp | (unfold hsP at hp; rw [w64 (by omega)]; omega) | omega | assumption | exact trivial | (have h0 := List.length_pos_iff.mpr (by assumption); omega) | (simp; omega) | (simp at *; omega)
    exact slhsj3_A xs xsuffix _ h
  · skip
    have hd0 := of_decide_eq_false hc0
    exact slhsj3_A xs xsuffix _ h
theorem slhs_F (xs : List UInt8) (xsuffix : List UInt8) (hp : hsP xs xsuffix) : slhsF xs xsuffix (fun k0 => k0 = slhsM xs xsuffix) :=
  slhsF_A xs xsuffix hp (fun z => z = slhsM xs xsuffix) rfl
set_option linter.unusedVariables false in
theorem slhs_c {g : Ghost} (xs : List UInt8) (xsuffix : List UInt8)  (hp : hsP xs xsuffix) : CallsG Tryd.prog 72 #[.string ⟨⟨xs⟩⟩, .string ⟨⟨xsuffix⟩⟩] g (.bool (slhsM xs xsuffix)) :=
  (slhs_ok xs xsuffix _ (slhs_F xs xsuffix hp)).gives (by rintro g' H' v _ ⟨r0, rfl, rfl, hK⟩; subst hK; rfl)
def hsfF (xs : List UInt8) (xsuffix : List UInt8) (K : Bool → Prop) : Prop :=
  hsP xs xsuffix ∧ K (slhsM xs xsuffix)
set_option maxHeartbeats 4000000 in
set_option maxRecDepth 100000 in
set_option linter.unusedVariables false in
theorem hsf_ok {g : Ghost} (xs : List UInt8) (xsuffix : List UInt8) (K : Bool → Prop)
    (hF : hsfF xs xsuffix K) : CallsH Tryd.prog 46 #[.string ⟨⟨xs⟩⟩, .string ⟨⟨xsuffix⟩⟩] g [] (fun g' H' v => ∃ (r0 : Bool), v = .bool r0 ∧ H' = [] ∧ K r0) := by
  refine CallsH.enter 8 [(0, .string ⟨⟨xs⟩⟩), (1, .string ⟨⟨xsuffix⟩⟩)] Tryd.func46 rfl (by kernel_rfl) (by kernel_rfl) (by kernel_rfl) fun w0 => ?_
  refine Ok.seq ?_
  refine Ok.region ?_
  refine Ok.batch 1 [(0, .string ⟨⟨xs⟩⟩), (1, .string ⟨⟨xsuffix⟩⟩)] (by kernel_rfl) ?_
  refine Ok.nil ?_
  refine Ok.thenN ?_
  refine Ok.seq ?_
  refine Ok.region ?_
  refine Ok.batch 2 [(5, .string ⟨⟨xs⟩⟩), (6, .string ⟨⟨xsuffix⟩⟩)] (by kernel_rfl) ?_
  obtain ⟨hp1, hF⟩ := hF
  refine Ok.op rfl (OpOk.callG (v := .bool (slhsM xs xsuffix)) (enters (by kernel_rfl) (fun _ => by kernel_rfl)) (fun W hW => slhs_c xs xsuffix hp1) rfl ?_)
  refine Ok.batch 1 [(4, .bool (slhsM xs xsuffix))] (by kernel_rfl) ?_
  refine Ok.nil ?_
  refine Ok.thenN ?_
  refine Ok.ret ?_
  exact Ok.resH (vs := [.bool (slhsM xs xsuffix)]) (.inl rfl) rfl (.cons (.tmp rfl) .nil) (Gext.refl w0 g) ⟨(slhsM xs xsuffix), rfl, rfl, hF⟩
def hsfM (xs : List UInt8) (xsuffix : List UInt8) : Bool := (slhsM xs xsuffix)
set_option linter.unusedSimpArgs false in
set_option linter.unusedVariables false in
theorem hsfF_A (xs : List UInt8) (xsuffix : List UInt8) (hp : hsP xs xsuffix) (P : Bool → Prop) (h : P (hsfM xs xsuffix)) : hsfF xs xsuffix (fun k0 => P k0) := by
  unfold hsfM at h
  unfold hsfF
  refine ⟨?_, ?_⟩
  · first | exact hp_le' (by assumption) | exact hp_le (by assumption) | exact hp | (unfold hsP at hp; rw [w64 (by omega)]; omega) | omega | assumption | exact trivial | (have h0 := List.length_pos_iff.mpr (by assumption); omega) | (simp; omega) | (simp at *; omega)
  exact h
theorem hsf_F (xs : List UInt8) (xsuffix : List UInt8) (hp : hsP xs xsuffix) : hsfF xs xsuffix (fun k0 => k0 = hsfM xs xsuffix) :=
  hsfF_A xs xsuffix hp (fun z => z = hsfM xs xsuffix) rfl
set_option linter.unusedVariables false in
theorem hsf_c {g : Ghost} (xs : List UInt8) (xsuffix : List UInt8)  (hp : hsP xs xsuffix) : CallsG Tryd.prog 46 #[.string ⟨⟨xs⟩⟩, .string ⟨⟨xsuffix⟩⟩] g (.bool (hsfM xs xsuffix)) :=
  (hsf_ok xs xsuffix _ (hsf_F xs xsuffix hp)).gives (by rintro g' H' v _ ⟨r0, rfl, rfl, hK⟩; subst hK; rfl)
def sltpF (xs : List UInt8) (xprefix : List UInt8) (K : (List UInt8) → Prop) : Prop :=
  (((slhpM xs xprefix)) = true → (0 : Int) ≤ (xprefix.length : Int) ∧ ((xprefix.length : Int) : Int) ≤ (xs.length : Int) ∧ (xs.length : Int) ≤ (xs.length : Int) ∧ K (xs.drop (Int.toNat (xprefix.length : Int)))) ∧ (((slhpM xs xprefix)) = false → K xs)
set_option maxHeartbeats 4000000 in
set_option maxRecDepth 100000 in
set_option linter.unusedVariables false in
theorem sltp_ok {g : Ghost} (xs : List UInt8) (xprefix : List UInt8) (K : (List UInt8) → Prop)
    (hF : sltpF xs xprefix K) : CallsH Tryd.prog 100 #[.string ⟨⟨xs⟩⟩, .string ⟨⟨xprefix⟩⟩] g [] (fun g' H' v => ∃ (r0 : List UInt8), v = .string ⟨⟨r0⟩⟩ ∧ H' = [] ∧ K r0) := by
  refine CallsH.enter 13 [(0, .string ⟨⟨xs⟩⟩), (1, .string ⟨⟨xprefix⟩⟩)] Tryd.func100 rfl (by kernel_rfl) (by kernel_rfl) (by kernel_rfl) fun w0 => ?_
  refine Ok.seq ?_
  refine Ok.region ?_
  refine Ok.batch 1 [(0, .string ⟨⟨xs⟩⟩), (1, .string ⟨⟨xprefix⟩⟩)] (by kernel_rfl) ?_
  refine Ok.nil ?_
  refine Ok.thenN ?_
  refine Ok.seq ?_
  refine Ok.seq ?_
  refine Ok.region ?_
  refine Ok.batch 2 [(0, .string ⟨⟨xs⟩⟩), (1, .string ⟨⟨xprefix⟩⟩), (5, .string ⟨⟨xs⟩⟩), (6, .string ⟨⟨xprefix⟩⟩)] (by kernel_rfl) ?_
  refine Ok.op rfl (OpOk.callG (v := .bool (slhpM xs xprefix)) (enters (by kernel_rfl) (fun _ => by kernel_rfl)) (fun W hW => slhp_c xs xprefix) rfl ?_)
  refine Ok.nil ?_
  refine Ok.thenN ?_
  refine Ok.cond (b := (slhpM xs xprefix)) rfl (fun hc1 => ?_) (fun hc1 => ?_)
  · replace hF := hF.1 hc1
    refine Ok.seq ?_
    refine Ok.region ?_
    refine Ok.batch 3 [(8, .string ⟨⟨xs⟩⟩), (10, .int .i64 (xprefix.length : Int))] (by kernel_rfl) ?_
    obtain ⟨h02, h12, h22, hF⟩ := hF
    refine Ok.op rfl (OpOk.step (v := .string ⟨⟨xs.drop (Int.toNat (xprefix.length : Int))⟩⟩) (Yields.sliceStr (s := xs) (l := (xprefix.length : Int)) (h := (xs.length : Int)) (by kernel_rfl) Tryd.underlying9 (.inl ⟨_, _, rfl, rfl⟩) (.inr ⟨rfl, rfl⟩) h02 h12 h22 (xs.drop (Int.toNat (xprefix.length : Int))) (by rw [show ((xs.length : Int)).toNat = xs.length from Int.toNat_natCast _, List.take_length])) rfl rfl ?_)
    refine Ok.batch 1 [(4, .string ⟨⟨xs.drop (Int.toNat (xprefix.length : Int))⟩⟩)] (by kernel_rfl) ?_
    refine Ok.nil ?_
    refine Ok.thenN ?_
    refine Ok.ret ?_
    refine Ok.thenR ?_
    exact Ok.resH (vs := [.string ⟨⟨xs.drop (Int.toNat (xprefix.length : Int))⟩⟩]) (.inl rfl) rfl (.cons (.tmp rfl) .nil) (Gext.refl w0 g) ⟨(xs.drop (Int.toNat (xprefix.length : Int))), rfl, rfl, hF⟩
  · replace hF := hF.2 hc1
    refine Ok.skip ?_
    refine Ok.thenN ?_
    refine Ok.seq ?_
    refine Ok.region ?_
    refine Ok.batch 2 [(4, .string ⟨⟨xs⟩⟩)] (by kernel_rfl) ?_
    refine Ok.nil ?_
    refine Ok.thenN ?_
    refine Ok.ret ?_
    exact Ok.resH (vs := [.string ⟨⟨xs⟩⟩]) (.inl rfl) rfl (.cons (.tmp rfl) .nil) (Gext.refl w0 g) ⟨xs, rfl, rfl, hF⟩
def sltpM (xs : List UInt8) (xprefix : List UInt8) : List UInt8 := (if (slhpM xs xprefix) = true then (xs.drop (Int.toNat (xprefix.length : Int))) else xs)
set_option linter.unusedSimpArgs false in
set_option linter.unusedVariables false in
theorem sltpF_A (xs : List UInt8) (xprefix : List UInt8) (P : List UInt8 → Prop) (h : P (sltpM xs xprefix)) : sltpF xs xprefix (fun k0 => P k0) := by
  unfold sltpM at h
  unfold sltpF
  refine ⟨fun hc0 => ?_, fun hc0 => ?_⟩
  · rw [if_t hc0] at h
    refine ⟨?_, ?_, ?_, ?_⟩
    · first | exact hp_le' (by assumption) | exact hp_le (by assumption) | exact hp | (unfold hsP at hp; rw [w64 (by omega)]; omega) | omega | assumption | exact trivial | (have h0 := List.length_pos_iff.mpr (by assumption); omega) | (simp; omega) | (simp at *; omega)
    · first | exact hp_le' (by assumption) | exact hp_le (by assumption) | exact hp | (unfold hsP at hp; rw [w64 (by omega)]; omega) | omega | assumption | exact trivial | (have h0 := List.length_pos_iff.mpr (by assumption); omega) | (simp; omega) | (simp at *; omega)
    · first | exact hp_le' (by assumption) | exact hp_le (by assumption) | exact hp | (unfold hsP at hp; rw [w64 (by omega)]; omega) | omega | assumption | exact trivial | (have h0 := List.length_pos_iff.mpr (by assumption); omega) | (simp; omega) | (simp at *; omega)
    exact h
  · rw [if_f hc0] at h
    exact h
theorem sltp_F (xs : List UInt8) (xprefix : List UInt8) : sltpF xs xprefix (fun k0 => k0 = sltpM xs xprefix) :=
  sltpF_A xs xprefix (fun z => z = sltpM xs xprefix) rfl
set_option linter.unusedVariables false in
theorem sltp_c {g : Ghost} (xs : List UInt8) (xprefix : List UInt8)  : CallsG Tryd.prog 100 #[.string ⟨⟨xs⟩⟩, .string ⟨⟨xprefix⟩⟩] g (.string ⟨⟨(sltpM xs xprefix)⟩⟩) :=
  (sltp_ok xs xprefix _ (sltp_F xs xprefix)).gives (by rintro g' H' v _ ⟨r0, rfl, rfl, hK⟩; subst hK; rfl)
def tpfF (xs : List UInt8) (xprefix : List UInt8) (K : (List UInt8) → Prop) : Prop :=
  K (sltpM xs xprefix)
set_option maxHeartbeats 4000000 in
set_option maxRecDepth 100000 in
set_option linter.unusedVariables false in
theorem tpf_ok {g : Ghost} (xs : List UInt8) (xprefix : List UInt8) (K : (List UInt8) → Prop)
    (hF : tpfF xs xprefix K) : CallsH Tryd.prog 73 #[.string ⟨⟨xs⟩⟩, .string ⟨⟨xprefix⟩⟩] g [] (fun g' H' v => ∃ (r0 : List UInt8), v = .string ⟨⟨r0⟩⟩ ∧ H' = [] ∧ K r0) := by
  refine CallsH.enter 8 [(0, .string ⟨⟨xs⟩⟩), (1, .string ⟨⟨xprefix⟩⟩)] Tryd.func73 rfl (by kernel_rfl) (by kernel_rfl) (by kernel_rfl) fun w0 => ?_
  refine Ok.seq ?_
  refine Ok.region ?_
  refine Ok.batch 1 [(0, .string ⟨⟨xs⟩⟩), (1, .string ⟨⟨xprefix⟩⟩)] (by kernel_rfl) ?_
  refine Ok.nil ?_
  refine Ok.thenN ?_
  refine Ok.seq ?_
  refine Ok.region ?_
  refine Ok.batch 2 [(5, .string ⟨⟨xs⟩⟩), (6, .string ⟨⟨xprefix⟩⟩)] (by kernel_rfl) ?_
  refine Ok.op rfl (OpOk.callG (v := .string ⟨⟨(sltpM xs xprefix)⟩⟩) (enters (by kernel_rfl) (fun _ => by kernel_rfl)) (fun W hW => sltp_c xs xprefix) rfl ?_)
  refine Ok.batch 1 [(4, .string ⟨⟨(sltpM xs xprefix)⟩⟩)] (by kernel_rfl) ?_
  refine Ok.nil ?_
  refine Ok.thenN ?_
  refine Ok.ret ?_
  exact Ok.resH (vs := [.string ⟨⟨(sltpM xs xprefix)⟩⟩]) (.inl rfl) rfl (.cons (.tmp rfl) .nil) (Gext.refl w0 g) ⟨(sltpM xs xprefix), rfl, rfl, hF⟩
def tpfM (xs : List UInt8) (xprefix : List UInt8) : List UInt8 := (sltpM xs xprefix)
set_option linter.unusedSimpArgs false in
set_option linter.unusedVariables false in
theorem tpfF_A (xs : List UInt8) (xprefix : List UInt8) (P : List UInt8 → Prop) (h : P (tpfM xs xprefix)) : tpfF xs xprefix (fun k0 => P k0) := by
  unfold tpfM at h
  unfold tpfF
  exact h
theorem tpf_F (xs : List UInt8) (xprefix : List UInt8) : tpfF xs xprefix (fun k0 => k0 = tpfM xs xprefix) :=
  tpfF_A xs xprefix (fun z => z = tpfM xs xprefix) rfl
set_option linter.unusedVariables false in
theorem tpf_c {g : Ghost} (xs : List UInt8) (xprefix : List UInt8)  : CallsG Tryd.prog 73 #[.string ⟨⟨xs⟩⟩, .string ⟨⟨xprefix⟩⟩] g (.string ⟨⟨(tpfM xs xprefix)⟩⟩) :=
  (tpf_ok xs xprefix _ (tpf_F xs xprefix)).gives (by rintro g' H' v _ ⟨r0, rfl, rfl, hK⟩; subst hK; rfl)
def slcpF (xs : List UInt8) (xprefix : List UInt8) (K : (List UInt8) → Bool → Prop) : Prop :=
  ((!(slhpM xs xprefix)) = true → K xs false) ∧ ((!(slhpM xs xprefix)) = false → (0 : Int) ≤ (xprefix.length : Int) ∧ ((xprefix.length : Int) : Int) ≤ (xs.length : Int) ∧ (xs.length : Int) ≤ (xs.length : Int) ∧ K (xs.drop (Int.toNat (xprefix.length : Int))) true)
set_option maxHeartbeats 4000000 in
set_option maxRecDepth 100000 in
set_option linter.unusedVariables false in
theorem slcp_ok {g : Ghost} (xs : List UInt8) (xprefix : List UInt8) (K : (List UInt8) → Bool → Prop)
    (hF : slcpF xs xprefix K) : CallsH Tryd.prog 66 #[.string ⟨⟨xs⟩⟩, .string ⟨⟨xprefix⟩⟩] g [] (fun g' H' v => ∃ (r0 : List UInt8), ∃ (r1 : Bool), v = .tuple #[.string ⟨⟨r0⟩⟩, .bool r1] ∧ H' = [] ∧ K r0 r1) := by
  refine CallsH.enter 15 [(0, .string ⟨⟨xs⟩⟩), (1, .string ⟨⟨xprefix⟩⟩)] Tryd.func66 rfl (by kernel_rfl) (by kernel_rfl) (by kernel_rfl) fun w0 => ?_
  refine Ok.seq ?_
  refine Ok.region ?_
  refine Ok.batch 2 [(0, .string ⟨⟨xs⟩⟩), (1, .string ⟨⟨xprefix⟩⟩)] (by kernel_rfl) ?_
  refine Ok.nil ?_
  refine Ok.thenN ?_
  refine Ok.seq ?_
  refine Ok.seq ?_
  refine Ok.region ?_
  refine Ok.batch 2 [(0, .string ⟨⟨xs⟩⟩), (1, .string ⟨⟨xprefix⟩⟩), (6, .string ⟨⟨xs⟩⟩), (7, .string ⟨⟨xprefix⟩⟩)] (by kernel_rfl) ?_
  refine Ok.op rfl (OpOk.callG (v := .bool (slhpM xs xprefix)) (enters (by kernel_rfl) (fun _ => by kernel_rfl)) (fun W hW => slhp_c xs xprefix) rfl ?_)
  refine Ok.batch 1 [(0, .string ⟨⟨xs⟩⟩), (1, .string ⟨⟨xprefix⟩⟩), (9, .bool (!(slhpM xs xprefix)))] (by kernel_rfl) ?_
  refine Ok.nil ?_
  refine Ok.thenN ?_
  refine Ok.cond (b := !(slhpM xs xprefix)) rfl (fun hc1 => ?_) (fun hc1 => ?_)
  · replace hF := hF.1 hc1
    refine Ok.seq ?_
    refine Ok.region ?_
    refine Ok.batch 3 [(4, .string ⟨⟨xs⟩⟩), (5, .bool false)] (by kernel_rfl) ?_
    refine Ok.nil ?_
    refine Ok.thenN ?_
    refine Ok.ret ?_
    refine Ok.thenR ?_
    exact Ok.resH (vs := [.string ⟨⟨xs⟩⟩, .bool false]) (.inl rfl) rfl (.cons (.tmp rfl) (.cons (.tmp rfl) .nil)) (Gext.refl w0 g) ⟨xs, false, rfl, rfl, hF⟩
  · replace hF := hF.2 hc1
    refine Ok.skip ?_
    refine Ok.thenN ?_
    refine Ok.seq ?_
    refine Ok.region ?_
    refine Ok.batch 3 [(11, .string ⟨⟨xs⟩⟩), (13, .int .i64 (xprefix.length : Int))] (by kernel_rfl) ?_
    obtain ⟨h02, h12, h22, hF⟩ := hF
    refine Ok.op rfl (OpOk.step (v := .string ⟨⟨xs.drop (Int.toNat (xprefix.length : Int))⟩⟩) (Yields.sliceStr (s := xs) (l := (xprefix.length : Int)) (h := (xs.length : Int)) (by kernel_rfl) Tryd.underlying9 (.inl ⟨_, _, rfl, rfl⟩) (.inr ⟨rfl, rfl⟩) h02 h12 h22 (xs.drop (Int.toNat (xprefix.length : Int))) (by rw [show ((xs.length : Int)).toNat = xs.length from Int.toNat_natCast _, List.take_length])) rfl rfl ?_)
    refine Ok.batch 2 [(4, .string ⟨⟨xs.drop (Int.toNat (xprefix.length : Int))⟩⟩), (5, .bool true)] (by kernel_rfl) ?_
    refine Ok.nil ?_
    refine Ok.thenN ?_
    refine Ok.ret ?_
    exact Ok.resH (vs := [.string ⟨⟨xs.drop (Int.toNat (xprefix.length : Int))⟩⟩, .bool true]) (.inl rfl) rfl (.cons (.tmp rfl) (.cons (.tmp rfl) .nil)) (Gext.refl w0 g) ⟨(xs.drop (Int.toNat (xprefix.length : Int))), true, rfl, rfl, hF⟩
def slcpM (xs : List UInt8) (xprefix : List UInt8) : List UInt8 × Bool := (if (!(slhpM xs xprefix)) = true then (xs, false) else (xs.drop (Int.toNat (xprefix.length : Int)), true))
set_option linter.unusedSimpArgs false in
set_option linter.unusedVariables false in
theorem slcpF_A (xs : List UInt8) (xprefix : List UInt8) (P : List UInt8 × Bool → Prop) (h : P (slcpM xs xprefix)) : slcpF xs xprefix (fun k0 k1 => P (k0, k1)) := by
  unfold slcpM at h
  unfold slcpF
  refine ⟨fun hc0 => ?_, fun hc0 => ?_⟩
  · rw [if_t hc0] at h
    exact h
  · rw [if_f hc0] at h
    refine ⟨?_, ?_, ?_, ?_⟩
    · first | exact hp_le' (by assumption) | exact hp_le (by assumption) | exact hp | (unfold hsP at hp; rw [w64 (by omega)]; omega) | omega | assumption | exact trivial | (have h0 := List.length_pos_iff.mpr (by assumption); omega) | (simp; omega) | (simp at *; omega)
    · first | exact hp_le' (by assumption) | exact hp_le (by assumption) | exact hp | (unfold hsP at hp; rw [w64 (by omega)]; omega) | omega | assumption | exact trivial | (have h0 := List.length_pos_iff.mpr (by assumption); omega) | (simp; omega) | (simp at *; omega)
    · first | exact hp_le' (by assumption) | exact hp_le (by assumption) | exact hp | (unfold hsP at hp; rw [w64 (by omega)]; omega) | omega | assumption | exact trivial | (have h0 := List.length_pos_iff.mpr (by assumption); omega) | (simp; omega) | (simp at *; omega)
    exact h
theorem slcp_F (xs : List UInt8) (xprefix : List UInt8) : slcpF xs xprefix (fun k0 k1 => (k0, k1) = slcpM xs xprefix) :=
  slcpF_A xs xprefix (fun z => z = slcpM xs xprefix) rfl
set_option linter.unusedVariables false in
theorem slcp_c {g : Ghost} (xs : List UInt8) (xprefix : List UInt8)  : CallsG Tryd.prog 66 #[.string ⟨⟨xs⟩⟩, .string ⟨⟨xprefix⟩⟩] g (.tuple #[.string ⟨⟨((slcpM xs xprefix).1)⟩⟩, .bool ((slcpM xs xprefix).2)]) :=
  (slcp_ok xs xprefix _ (slcp_F xs xprefix)).gives (by rintro g' H' v _ ⟨r0, r1, rfl, rfl, hK⟩; obtain ⟨rfl, rfl⟩ : r0 = (slcpM xs xprefix).1 ∧ r1 = (slcpM xs xprefix).2 := ⟨congrArg (fun z => z.1) hK, congrArg (fun z => z.2) hK⟩; rfl)
def cpfF (xs : List UInt8) (xprefix : List UInt8) (K : (List UInt8) → Bool → Prop) : Prop :=
  K ((slcpM xs xprefix).1) ((slcpM xs xprefix).2)
set_option maxHeartbeats 4000000 in
set_option maxRecDepth 100000 in
set_option linter.unusedVariables false in
theorem cpf_ok {g : Ghost} (xs : List UInt8) (xprefix : List UInt8) (K : (List UInt8) → Bool → Prop)
    (hF : cpfF xs xprefix K) : CallsH Tryd.prog 44 #[.string ⟨⟨xs⟩⟩, .string ⟨⟨xprefix⟩⟩] g [] (fun g' H' v => ∃ (r0 : List UInt8), ∃ (r1 : Bool), v = .tuple #[.string ⟨⟨r0⟩⟩, .bool r1] ∧ H' = [] ∧ K r0 r1) := by
  refine CallsH.enter 11 [(0, .string ⟨⟨xs⟩⟩), (1, .string ⟨⟨xprefix⟩⟩)] Tryd.func44 rfl (by kernel_rfl) (by kernel_rfl) (by kernel_rfl) fun w0 => ?_
  refine Ok.seq ?_
  refine Ok.region ?_
  refine Ok.batch 2 [(0, .string ⟨⟨xs⟩⟩), (1, .string ⟨⟨xprefix⟩⟩)] (by kernel_rfl) ?_
  refine Ok.nil ?_
  refine Ok.thenN ?_
  refine Ok.seq ?_
  refine Ok.region ?_
  refine Ok.batch 2 [(6, .string ⟨⟨xs⟩⟩), (7, .string ⟨⟨xprefix⟩⟩)] (by kernel_rfl) ?_
  refine Ok.op rfl (OpOk.callG (v := .tuple #[.string ⟨⟨(slcpM xs xprefix).1⟩⟩, .bool ((slcpM xs xprefix).2)]) (enters (by kernel_rfl) (fun _ => by kernel_rfl)) (fun W hW => slcp_c xs xprefix) rfl ?_)
  refine Ok.batch 4 [(4, .string ⟨⟨(slcpM xs xprefix).1⟩⟩), (5, .bool ((slcpM xs xprefix).2))] (by kernel_rfl) ?_
  refine Ok.nil ?_
  refine Ok.thenN ?_
  refine Ok.ret ?_
  exact Ok.resH (vs := [.string ⟨⟨(slcpM xs xprefix).1⟩⟩, .bool ((slcpM xs xprefix).2)]) (.inl rfl) rfl (.cons (.tmp rfl) (.cons (.tmp rfl) .nil)) (Gext.refl w0 g) ⟨((slcpM xs xprefix).1), ((slcpM xs xprefix).2), rfl, rfl, hF⟩
def cpfM (xs : List UInt8) (xprefix : List UInt8) : List UInt8 × Bool := ((slcpM xs xprefix).1, (slcpM xs xprefix).2)
set_option linter.unusedSimpArgs false in
set_option linter.unusedVariables false in
theorem cpfF_A (xs : List UInt8) (xprefix : List UInt8) (P : List UInt8 × Bool → Prop) (h : P (cpfM xs xprefix)) : cpfF xs xprefix (fun k0 k1 => P (k0, k1)) := by
  unfold cpfM at h
  unfold cpfF
  exact h
theorem cpf_F (xs : List UInt8) (xprefix : List UInt8) : cpfF xs xprefix (fun k0 k1 => (k0, k1) = cpfM xs xprefix) :=
  cpfF_A xs xprefix (fun z => z = cpfM xs xprefix) rfl
set_option linter.unusedVariables false in
theorem cpf_c {g : Ghost} (xs : List UInt8) (xprefix : List UInt8)  : CallsG Tryd.prog 44 #[.string ⟨⟨xs⟩⟩, .string ⟨⟨xprefix⟩⟩] g (.tuple #[.string ⟨⟨((cpfM xs xprefix).1)⟩⟩, .bool ((cpfM xs xprefix).2)]) :=
  (cpf_ok xs xprefix _ (cpf_F xs xprefix)).gives (by rintro g' H' v _ ⟨r0, r1, rfl, rfl, hK⟩; obtain ⟨rfl, rfl⟩ : r0 = (cpfM xs xprefix).1 ∧ r1 = (cpfM xs xprefix).2 := ⟨congrArg (fun z => z.1) hK, congrArg (fun z => z.2) hK⟩; rfl)
def rptS (s : List UInt8) (c : Int) : List UInt8 := Lib.repeatL s c.toNat
def rptP (s : List UInt8) (c : Int) : Prop := 0 ≤ c ∧ c ≤ 1000 ∧ s.length ≤ 1000000
theorem rpt_c {g : Ghost} (s : List UInt8) (c : Int) (hp : rptP s c) : CallsG Tryd.prog 69 #[.string ⟨⟨s⟩⟩, .int .i64 c] g (.string ⟨⟨rptS s c⟩⟩) := fun W hW => by
  obtain ⟨h0, h1, h2⟩ := hp
  obtain ⟨n, rfl⟩ := Int.eq_ofNat_of_zero_le h0
  have hsz : (⟨⟨s⟩⟩ : ByteArray).size = s.length := rfl
  have hm : s.length * n ≤ 1000000 * 1000 := Nat.mul_le_mul h2 (by omega)
  exact Tryd.strings_Repeat ⟨⟨s⟩⟩ n W (by omega) (by rw [hsz]; omega)
def toeS (fn s : List UInt8) (b w e : Int) : Bool := false
def toeP (fn s : List UInt8) (b w e : Int) : Prop := s.length ≤ 281474976710656 ∧ (e = 1 ∨ e = 2)
theorem toe_c {g : Ghost} (fn s : List UInt8) (b w e : Int) (hG1 : SomeIf g 3) (hG2 : SomeIf g 4) (hp : toeP fn s b w e) :
    CallsH Tryd.prog 99 #[.string ⟨⟨fn⟩⟩, .string ⟨⟨s⟩⟩, .int .i64 b, .int .i64 w, .iface 137 (.int .i64 e)] g [] (fun g' H' v => ∃ (ir0 : Value), v = ir0 ∧ IfV ir0 (toeS fn s b w e) ∧ H' = []) := fun W hW => by
  obtain ⟨hl, he⟩ := hp
  rcases he with rfl | rfl
  · obtain ⟨cs, T, fz, t, p, h1, h2⟩ := hG2
    refine (Tryd.strconv_toError_range ⟨⟨fn⟩⟩ ⟨⟨s⟩⟩ b w (.iface t p) W hl (by rw [Lib.cell_of_heap (hW.ghost _ _ h1)]; exact h2) (.inr ⟨t, p, rfl⟩)).mono fun e W' ⟨N, he, _, _, hb⟩ => ?_
    exact ⟨_, g, [], he, ⟨_, rfl, ⟨_, _, rfl⟩, rfl⟩, Gext.refl _ g, hW.of_below hb⟩
  · obtain ⟨cs, T, fz, t, p, h1, h2⟩ := hG1
    refine (Tryd.strconv_toError_syntax ⟨⟨fn⟩⟩ ⟨⟨s⟩⟩ b w (.iface t p) W hl (by rw [Lib.cell_of_heap (hW.ghost _ _ h1)]; exact h2) (.inr ⟨t, p, rfl⟩)).mono fun e W' ⟨N, he, _, _, hb⟩ => ?_
    exact ⟨_, g, [], he, ⟨_, rfl, ⟨_, _, rfl⟩, rfl⟩, Gext.refl _ g, hW.of_below hb⟩
def atoiS (s : List UInt8) : Int × Bool := match Lib.atoiAll s with
  | .ok v => (v, true)
  | .range => (Lib.atoiSat s, false)
  | _ => (0, false)
def atoiP (s : List UInt8) : Prop := s.length ≤ 1000000
theorem atoi_c {g : Ghost} (s : List UInt8) (hG1 : SomeIf g 3) (hG2 : SomeIf g 4) (hp : atoiP s) :
    CallsH Tryd.prog 74 #[.string ⟨⟨s⟩⟩] g [] (fun g' H' v => ∃ (ir1 : Value), v = .tuple #[.int .i64 (atoiS s).1, ir1] ∧ IfV ir1 (atoiS s).2 ∧ H' = []) := fun W hW => by
  unfold atoiP at hp
  have hsz : (⟨⟨s⟩⟩ : ByteArray).size = s.length := rfl
  unfold atoiS
  cases h : Lib.atoiAll s with
  | ok v =>
    refine (Tryd.strconv_Atoi_ok ⟨⟨s⟩⟩ (by rw [hsz]; omega) v h W).mono fun e W' ⟨he, hw⟩ => ?_
    refine ⟨_, g, [], he, ⟨_, rfl, rfl, rfl⟩, Gext.refl _ g, ?_⟩
    rcases hw with rfl | ⟨t, rfl⟩
    · exact hW
    · exact hW.of_below (Lib.bytesWorld_below _ _ _)
  | range =>
    obtain ⟨cs, T, fz, t, p, h1, h2⟩ := hG2
    refine (Tryd.strconv_Atoi_range ⟨⟨s⟩⟩ (by rw [hsz]; omega) h (.iface t p) W (by rw [Lib.cell_of_heap (hW.ghost _ _ h1)]; exact h2) (.inr ⟨t, p, rfl⟩)).mono fun e W' ⟨N, he, _, _, hb⟩ => ?_
    exact ⟨_, g, [], he, ⟨_, rfl, ⟨_, _, rfl⟩, rfl⟩, Gext.refl _ g, hW.of_below hb⟩
  | _ =>
    obtain ⟨cs, T, fz, t, p, h1, h2⟩ := hG1
    refine (Tryd.strconv_Atoi_syntax ⟨⟨s⟩⟩ (by rw [hsz]; omega) h (.iface t p) W (by rw [Lib.cell_of_heap (hW.ghost _ _ h1)]; exact h2) (.inr ⟨t, p, rfl⟩)).mono fun e W' ⟨N, he, _, _, hb⟩ => ?_
    exact ⟨_, g, [], he, ⟨_, rfl, ⟨_, _, rfl⟩, rfl⟩, Gext.refl _ g, hW.of_below hb⟩
def DPow : List (Int) := [1, 10, 100, 1000, 10000, 100000, 1000000, 10000000, 100000000, 1000000000, 10000000000, 100000000000, 1000000000000, 10000000000000, 100000000000000, 1000000000000000, 10000000000000000, 100000000000000000, 1000000000000000000, 10000000000000000000]
def itoaS (n : Int) : List UInt8 := Lib.itoa n
def itoaP (n : Int) : Prop := -9223372036854775808 ≤ n ∧ n ≤ 9223372036854775807
theorem itoa_c {g : Ghost} (n : Int) (hG : GlobL g 2 (.int .u64) DPow) (hp : itoaP n) : CallsG Tryd.prog 63 #[.int .i64 n] g (.string ⟨⟨itoaS n⟩⟩) := fun W hW => by
  obtain ⟨xs, h1, h2⟩ := hG.var (P := Tryd.prog) hW (name := "internal/strconv.uint64pow10") (by kernel_rfl)
  have htab : Lib.TabIs Tryd.prog W "internal/strconv.uint64pow10" .u64 Lib.pow10Tab := by
    unfold Lib.TabIs
    rw [h1, repL_ints h2, show DPow = Lib.pow10Tab by decide +kernel]
  refine (Tryd.strconv_Itoa n hp.1 hp.2 W htab).mono fun e W' ⟨he, k, os, hw⟩ => ⟨he, ?_⟩
  subst hw
  exact Lib.below_grow _ W (Nat.le_refl _) k os
def sclF (xc : Int) (K : Int → Prop) : Prop :=
  K (bitOr .u8 xc 32)
set_option maxHeartbeats 4000000 in
set_option maxRecDepth 100000 in
set_option linter.unusedVariables false in
theorem scl_ok {g : Ghost} (xc : Int) (K : Int → Prop)
    (hF : sclF xc K) : CallsH Tryd.prog 125 #[.int .u8 xc] g [] (fun g' H' v => ∃ (r0 : Int), v = .int .u8 r0 ∧ H' = [] ∧ K r0) := by
  refine CallsH.enter 5 [(0, .int .u8 xc)] Tryd.func125 rfl (by kernel_rfl) (by kernel_rfl) (by kernel_rfl) fun w0 => ?_
  refine Ok.seq ?_
  refine Ok.region ?_
  refine Ok.batch 1 [(0, .int .u8 xc)] (by kernel_rfl) ?_
  refine Ok.nil ?_
  refine Ok.thenN ?_
  refine Ok.seq ?_
  refine Ok.region ?_
  refine Ok.batch 3 [(2, .int .u8 (bitOr .u8 xc 32))] (by kernel_rfl) ?_
  refine Ok.nil ?_
  refine Ok.thenN ?_
  refine Ok.ret ?_
  exact Ok.resH (vs := [.int .u8 (bitOr .u8 xc 32)]) (.inl rfl) rfl (.cons (.tmp rfl) .nil) (Gext.refl w0 g) ⟨(bitOr .u8 xc 32), rfl, rfl, hF⟩
def sclM (xc : Int) : Int := (bitOr .u8 xc 32)
set_option linter.unusedSimpArgs false in
set_option linter.unusedVariables false in
theorem sclF_A (xc : Int) (P : Int → Prop) (h : P (sclM xc)) : sclF xc (fun k0 => P k0) := by
  unfold sclM at h
  unfold sclF
  exact h
theorem scl_F (xc : Int) : sclF xc (fun k0 => k0 = sclM xc) :=
  sclF_A xc (fun z => z = sclM xc) rfl
set_option linter.unusedVariables false in
theorem scl_c {g : Ghost} (xc : Int)  : CallsG Tryd.prog 125 #[.int .u8 xc] g (.int .u8 (sclM xc)) :=
  (scl_ok xc _ (scl_F xc)).gives (by rintro g' H' v _ ⟨r0, rfl, rfl, hK⟩; subst hK; rfl)
def puij105 (xs : List UInt8) (K : Int → Int → Prop) (e5 : Int) (x13l92 : Int) (x101l92 : Int) (C92 : Int → Int → Prop) : Prop :=
  ((decide ((if ((decide (48 ≤ e5)) && (decide (e5 ≤ 57))) = true then IntKind.wrap .u8 (e5 - 48) else IntKind.wrap .u8 ((IntKind.wrap .u8 ((sclM e5) - 97)) + 10)) ≥ 16)) = true → K 0 2) ∧ ((decide ((if ((decide (48 ≤ e5)) && (decide (e5 ≤ 57))) = true then IntKind.wrap .u8 (e5 - 48) else IntKind.wrap .u8 ((IntKind.wrap .u8 ((sclM e5) - 97)) + 10)) ≥ 16)) = false → ((decide (x13l92 ≥ 1152921504606846976)) = true → K 18446744073709551615 1) ∧ ((decide (x13l92 ≥ 1152921504606846976)) = false → ((((decide ((IntKind.wrap .u64 ((IntKind.wrap .u64 (x13l92 * 16)) + (IntKind.wrap .u64 (if ((decide (48 ≤ e5)) && (decide (e5 ≤ 57))) = true then IntKind.wrap .u8 (e5 - 48) else IntKind.wrap .u8 ((IntKind.wrap .u8 ((sclM e5) - 97)) + 10))))) < (IntKind.wrap .u64 (x13l92 * 16)))) || (decide ((IntKind.wrap .u64 ((IntKind.wrap .u64 (x13l92 * 16)) + (IntKind.wrap .u64 (if ((decide (48 ≤ e5)) && (decide (e5 ≤ 57))) = true then IntKind.wrap .u8 (e5 - 48) else IntKind.wrap .u8 ((IntKind.wrap .u8 ((sclM e5) - 97)) + 10))))) > 18446744073709551615)))) = true → K 18446744073709551615 1) ∧ ((((decide ((IntKind.wrap .u64 ((IntKind.wrap .u64 (x13l92 * 16)) + (IntKind.wrap .u64 (if ((decide (48 ≤ e5)) && (decide (e5 ≤ 57))) = true then IntKind.wrap .u8 (e5 - 48) else IntKind.wrap .u8 ((IntKind.wrap .u8 ((sclM e5) - 97)) + 10))))) < (IntKind.wrap .u64 (x13l92 * 16)))) || (decide ((IntKind.wrap .u64 ((IntKind.wrap .u64 (x13l92 * 16)) + (IntKind.wrap .u64 (if ((decide (48 ≤ e5)) && (decide (e5 ≤ 57))) = true then IntKind.wrap .u8 (e5 - 48) else IntKind.wrap .u8 ((IntKind.wrap .u8 ((sclM e5) - 97)) + 10))))) > 18446744073709551615)))) = false → C92 (IntKind.wrap .u64 ((IntKind.wrap .u64 (x13l92 * 16)) + (IntKind.wrap .u64 (if ((decide (48 ≤ ((intsOf xs).getD (Int.toNat x101l92) default))) && (decide (((intsOf xs).getD (Int.toNat x101l92) default) ≤ 57))) = true then IntKind.wrap .u8 (((intsOf xs).getD (Int.toNat x101l92) default) - 48) else IntKind.wrap .u8 ((IntKind.wrap .u8 ((sclM ((intsOf xs).getD (Int.toNat x101l92) default)) - 97)) + 10))))) (IntKind.wrap .i64 (x101l92 + 1)))))
def puij117 (xs : List UInt8) (K : Int → Int → Prop) (e5 : Int) (x13l92 : Int) (x101l92 : Int) (C92 : Int → Int → Prop) : Prop :=
  ((((decide (97 ≤ (sclM e5))) && (decide ((sclM e5) ≤ 122)))) = true → puij105 xs K e5 x13l92 x101l92 C92) ∧ ((((decide (97 ≤ (sclM e5))) && (decide ((sclM e5) ≤ 122)))) = false → K 0 2)
def puil92b (xs : List UInt8) (K : Int → Int → Prop) (x13l92 : Int) (x101l92 : Int) (C92 : Int → Int → Prop) : Prop :=
  ((decide (x101l92 < ((intsOf xs).length : Int))) = true → (0 : Int) ≤ x101l92 ∧ Int.toNat x101l92 < (intsOf xs).length ∧ ((((decide (48 ≤ ((intsOf xs).getD (Int.toNat x101l92) default))) && (decide (((intsOf xs).getD (Int.toNat x101l92) default) ≤ 57)))) = true → puij105 xs K ((intsOf xs).getD (Int.toNat x101l92) default) x13l92 x101l92 C92) ∧ ((((decide (48 ≤ ((intsOf xs).getD (Int.toNat x101l92) default))) && (decide (((intsOf xs).getD (Int.toNat x101l92) default) ≤ 57)))) = false → ((decide (97 ≤ (sclM ((intsOf xs).getD (Int.toNat x101l92) default)))) = true → puij117 xs K ((intsOf xs).getD (Int.toNat x101l92) default) x13l92 x101l92 C92) ∧ ((decide (97 ≤ (sclM ((intsOf xs).getD (Int.toNat x101l92) default)))) = false → puij117 xs K ((intsOf xs).getD (Int.toNat x101l92) default) x13l92 x101l92 C92))) ∧ ((decide (x101l92 < ((intsOf xs).length : Int))) = false → K x13l92 0)
def puil92 (xs : List UInt8) (K : Int → Int → Prop) : Nat → Int → Int → Prop
  | 0, _, _ => False
  | k + 1, x13l92, x101l92 => puil92b xs K x13l92 x101l92 (puil92 xs K k)
def puiF (xs : List UInt8) (K : Int → Int → Prop) : Prop :=
  (((xs == ([] : List UInt8))) = true → K 0 2) ∧ (((xs == ([] : List UInt8))) = false → xs.length ≤ maxLen ∧ ∃ k, puil92 xs K k 0 0)
set_option maxHeartbeats 4000000 in
set_option maxRecDepth 100000 in
set_option linter.unusedVariables false in
theorem pui_ok {g : Ghost} (xs : List UInt8) (K : Int → Int → Prop)
    (hF : puiF xs K) : CallsH Tryd.prog 98 #[.string ⟨⟨xs⟩⟩, .int .i64 16, .int .i64 64] g [] (fun g' H' v => ∃ (r0 : Int), ∃ (r1 : Int), v = .tuple #[.int .u64 r0, (errV 137 r1)] ∧ H' = [] ∧ K r0 r1) := by
  refine CallsH.enter 172 [(0, .string ⟨⟨xs⟩⟩), (1, .int .i64 16), (2, .int .i64 64)] Tryd.func98 rfl (by kernel_rfl) (by kernel_rfl) (by kernel_rfl) fun w0 => ?_
  refine Ok.seq ?_
  refine Ok.region ?_
  refine Ok.batch 2 [(0, .string ⟨⟨xs⟩⟩), (1, .int .i64 16), (2, .int .i64 64)] (by kernel_rfl) ?_
  refine Ok.nil ?_
  refine Ok.thenN ?_
  refine Ok.seq ?_
  refine Ok.seq ?_
  refine Ok.region ?_
  refine Ok.batch 1 [(0, .string ⟨⟨xs⟩⟩), (1, .int .i64 16), (2, .int .i64 64), (18, .string ⟨⟨xs⟩⟩)] (by kernel_rfl) ?_
  refine Ok.op rfl (OpOk.step (v := .bool (xs == ([] : List UInt8))) (Yields.strCmp (f := .eql) (a := xs) (b := ([] : List UInt8)) (by kernel_rfl) (by kernel_rfl) rfl) rfl rfl ?_)
  refine Ok.nil ?_
  refine Ok.thenN ?_
  refine Ok.cond (b := (xs == ([] : List UInt8))) rfl (fun hc1 => ?_) (fun hc1 => ?_)
  · replace hF := hF.1 hc1
    refine Ok.seq ?_
    refine Ok.region ?_
    refine Ok.batch 3 [(6, .int .u64 0), (7, .iface 137 (.int .i64 2))] (by kernel_rfl) ?_
    refine Ok.nil ?_
    refine Ok.thenN ?_
    refine Ok.ret ?_
    refine Ok.thenR ?_
    exact Ok.resH (vs := [.int .u64 0, .iface 137 (.int .i64 2)]) (.inl rfl) rfl (.cons (.tmp rfl) (.cons (.tmp rfl) .nil)) (Gext.refl w0 g) ⟨0, 2, rfl, rfl, hF⟩
  · replace hF := hF.2 hc1
    refine Ok.skip ?_
    refine Ok.thenN ?_
    refine Ok.seq ?_
    refine Ok.region ?_
    refine Ok.batch 3 [(0, .string ⟨⟨xs⟩⟩), (1, .int .i64 16), (2, .int .i64 64), (8, .bool false)] (by kernel_rfl) ?_
    refine Ok.nil ?_
    refine Ok.thenN ?_
    refine Ok.seq ?_
    refine Ok.region ?_
    refine Ok.batch 2 [(0, .string ⟨⟨xs⟩⟩), (1, .int .i64 16), (2, .int .i64 64), (8, .bool false), (9, .string ⟨⟨xs⟩⟩)] (by kernel_rfl) ?_
    refine Ok.nil ?_
    refine Ok.thenN ?_
    refine Ok.seq ?_
    refine Ok.block ?_
    refine Ok.seq ?_
    refine Ok.region ?_
    refine Ok.batch 7 [(0, .string ⟨⟨xs⟩⟩), (1, .int .i64 16), (2, .int .i64 64), (8, .bool false), (9, .string ⟨⟨xs⟩⟩), (25, .bool true)] (by kernel_rfl) ?_
    refine Ok.nil ?_
    refine Ok.thenN ?_
    refine Ok.cond (b := true) rfl (fun _ => ?_) (fun h => by cases h)
    refine Ok.skip ?_
    refine Ok.blockN ?_
    refine Ok.thenN ?_
    refine Ok.seq ?_
    refine Ok.seq ?_
    refine Ok.region ?_
    refine Ok.batch 2 [(0, .string ⟨⟨xs⟩⟩), (1, .int .i64 16), (2, .int .i64 64), (8, .bool false), (9, .string ⟨⟨xs⟩⟩), (77, .bool false)] (by kernel_rfl) ?_
    refine Ok.nil ?_
    refine Ok.thenN ?_
    refine Ok.cond (b := false) rfl (fun h => by cases h) (fun _ => ?_)
    refine Ok.seq ?_
    refine Ok.region ?_
    refine Ok.batch 6 [(0, .string ⟨⟨xs⟩⟩), (1, .int .i64 16), (2, .int .i64 64), (8, .bool false), (9, .string ⟨⟨xs⟩⟩), (83, .bool false)] (by kernel_rfl) ?_
    refine Ok.nil ?_
    refine Ok.thenN ?_
    refine Ok.cond (b := false) rfl (fun h => by cases h) (fun _ => ?_)
    refine Ok.skip ?_
    refine Ok.thenN ?_
    refine Ok.seq ?_
    refine Ok.region ?_
    refine Ok.batch 1 [(0, .string ⟨⟨xs⟩⟩), (1, .int .i64 16), (2, .int .i64 64), (8, .bool false), (9, .string ⟨⟨xs⟩⟩)] (by kernel_rfl) ?_
    refine Ok.nil ?_
    refine Ok.thenN ?_
    refine Ok.seq ?_
    refine Ok.seq ?_
    refine Ok.region ?_
    refine Ok.batch 1 [(0, .string ⟨⟨xs⟩⟩), (1, .int .i64 16), (2, .int .i64 64), (8, .bool false), (9, .string ⟨⟨xs⟩⟩), (85, .int .i64 16)] (by kernel_rfl) ?_
    refine Ok.nil ?_
    refine Ok.thenN ?_
    refine Ok.block ?_
    refine Ok.seq ?_
    refine Ok.region ?_
    refine Ok.batch 2 [(0, .string ⟨⟨xs⟩⟩), (1, .int .i64 16), (2, .int .i64 64), (8, .bool false), (9, .string ⟨⟨xs⟩⟩), (85, .int .i64 16), (90, .bool false)] (by kernel_rfl) ?_
    refine Ok.nil ?_
    refine Ok.thenN ?_
    refine Ok.cond (b := false) rfl (fun h => by cases h) (fun _ => ?_)
    refine Ok.seq ?_
    refine Ok.region ?_
    refine Ok.batch 2 [(0, .string ⟨⟨xs⟩⟩), (1, .int .i64 16), (2, .int .i64 64), (8, .bool false), (9, .string ⟨⟨xs⟩⟩), (92, .bool true)] (by kernel_rfl) ?_
    refine Ok.nil ?_
    refine Ok.thenN ?_
    refine Ok.cond (b := true) rfl (fun _ => ?_) (fun h => by cases h)
    refine Ok.region ?_
    refine Ok.batch 1 [(0, .string ⟨⟨xs⟩⟩), (1, .int .i64 16), (2, .int .i64 64), (8, .bool false), (9, .string ⟨⟨xs⟩⟩), (10, .int .u64 1152921504606846976)] (by kernel_rfl) ?_
    refine Ok.nil ?_
    refine Ok.blockN ?_
    refine Ok.thenN ?_
    refine Ok.seq ?_
    refine Ok.region ?_
    refine Ok.batch 5 [(0, .string ⟨⟨xs⟩⟩), (1, .int .i64 16), (8, .bool false), (9, .string ⟨⟨xs⟩⟩), (10, .int .u64 1152921504606846976), (11, .int .u64 18446744073709551615)] (by kernel_rfl) ?_
    refine Ok.nil ?_
    refine Ok.thenN ?_
    refine Ok.seq ?_
    refine Ok.region ?_
    refine Ok.batch 1 [(0, .string ⟨⟨xs⟩⟩), (1, .int .i64 16), (8, .bool false), (9, .string ⟨⟨xs⟩⟩), (10, .int .u64 1152921504606846976), (11, .int .u64 18446744073709551615), (12, .bool false)] (by kernel_rfl) ?_
    refine Ok.nil ?_
    refine Ok.thenN ?_
    refine Ok.seq ?_
    refine Ok.region ?_
    refine Ok.batch 1 [(0, .string ⟨⟨xs⟩⟩), (1, .int .i64 16), (8, .bool false), (9, .string ⟨⟨xs⟩⟩), (10, .int .u64 1152921504606846976), (11, .int .u64 18446744073709551615), (12, .bool false), (13, .int .u64 0)] (by kernel_rfl) ?_
    refine Ok.nil ?_
    refine Ok.thenN ?_
    refine Ok.seq ?_
    refine Ok.seq ?_
    refine Ok.region ?_
    refine Ok.batch 1 [(1, .int .i64 16), (8, .bool false), (9, .string ⟨⟨xs⟩⟩), (10, .int .u64 1152921504606846976), (11, .int .u64 18446744073709551615), (12, .bool false), (13, .int .u64 0), (98, .string ⟨⟨xs⟩⟩)] (by kernel_rfl) ?_
    obtain ⟨hm2, hF⟩ := hF
    refine Ok.op rfl (OpOk.bytesRo (s := xs) (by kernel_rfl) Tryd.underlying9 Tryd.underlying83 Tryd.underlying5 hm2 rfl fun g2 a2 c2 hx2 hR2 => ?_)
    refine Ok.batch 2 [(1, .int .i64 16), (8, .bool false), (9, .string ⟨⟨xs⟩⟩), (10, .int .u64 1152921504606846976), (11, .int .u64 18446744073709551615), (12, .bool false), (13, .int .u64 0), (99, .slice a2 (intsOf xs).length c2), (100, .int .i64 ((intsOf xs).length : Int)), (101, .int .i64 0)] (by kernel_rfl) ?_
    refine Ok.nil ?_
    refine Ok.thenN ?_
    refine Ok.block ?_
    obtain ⟨k, hF⟩ := hF
    refine Ok.loop (fun k a W => ∃ gl92 : Ghost, Gext w0 g2 gl92 ∧ ∃ (x13l92 : Int) (x101l92 : Int), StA 172 [(1, .int .i64 16), (8, .bool false), (9, .string ⟨⟨xs⟩⟩), (10, .int .u64 1152921504606846976), (11, .int .u64 18446744073709551615), (12, .bool false), (13, .int .u64 x13l92), (99, .slice a2 (intsOf xs).length c2), (100, .int .i64 ((intsOf xs).length : Int)), (101, .int .i64 x101l92)] a ∧ StW w0 [] gl92 W ∧ puil92 xs K k x13l92 x101l92) k ?_ ?_
    ·
      exact fun a W hA hW => ⟨g2, (Gext.refl w0 g2), 0, 0, hA.sub (by kernel_rfl), hW, hF⟩
    ·
      clear hF
      rintro k92 a W ⟨gl92, hxl92, x13l92, x101l92, hA, hW, hF⟩
      cases k92 with
      | zero => exact (hF : False).elim
      | succ k92 =>
        refine (?_ : Ok _ _ _ _ _ _) a W hA hW
        clear hA hW
        replace hR2 := hR2.mono hxl92.1
        refine Ok.seq ?_
        refine Ok.region ?_
        refine Ok.batch 1 [(1, .int .i64 16), (8, .bool false), (9, .string ⟨⟨xs⟩⟩), (10, .int .u64 1152921504606846976), (11, .int .u64 18446744073709551615), (12, .bool false), (13, .int .u64 x13l92), (99, .slice a2 (intsOf xs).length c2), (100, .int .i64 ((intsOf xs).length : Int)), (101, .int .i64 x101l92), (102, .bool (decide (x101l92 < ((intsOf xs).length : Int))))] (by kernel_rfl) ?_
        refine Ok.nil ?_
        refine Ok.thenN ?_
        refine Ok.seq ?_
        refine Ok.cond (b := decide (x101l92 < ((intsOf xs).length : Int))) rfl (fun hc3 => ?_) (fun hc3 => ?_)
        · replace hF := hF.1 hc3
          refine Ok.skip ?_
          refine Ok.thenN ?_
          refine Ok.seq ?_
          refine Ok.block ?_
          refine Ok.seq ?_
          refine Ok.region ?_
          obtain ⟨h05, h15, hF⟩ := hF
          have he5 := get_of (l := (intsOf xs)) (default : Int) h15
          generalize hg5 : ((intsOf xs).getD (Int.toNat x101l92) default) = e5 at he5 hF ⊢
          refine Ok.op rfl (OpOk.indexRo (e := .int .u8) (i := x101l92) (el := e5) rfl rfl Tryd.underlying83 (by kernel_rfl) hR2 h05 he5 rfl fun q4 o4 cs4 _ hat4 hr4 => ?_)
          obtain rfl := hr4
          replace hat4 : At gl92 q4 o4 [.int .u8 e5] := hat4
          refine Ok.op rfl (OpOk.step (v := .int .u8 e5) (Yields.loadRo 0 hat4 (by kernel_rfl) Tryd.underlying5 rfl (by kernel_rfl)) rfl rfl ?_)
          refine Ok.batch 1 [(1, .int .i64 16), (8, .bool false), (9, .string ⟨⟨xs⟩⟩), (10, .int .u64 1152921504606846976), (11, .int .u64 18446744073709551615), (12, .bool false), (13, .int .u64 x13l92), (15, .int .u8 e5), (99, .slice a2 (intsOf xs).length c2), (100, .int .i64 ((intsOf xs).length : Int)), (101, .int .i64 x101l92)] (by kernel_rfl) ?_
          refine Ok.nil ?_
          refine Ok.thenN ?_
          refine Ok.seq ?_
          refine Ok.region ?_
          refine Ok.batch 1 [(1, .int .i64 16), (8, .bool false), (9, .string ⟨⟨xs⟩⟩), (10, .int .u64 1152921504606846976), (11, .int .u64 18446744073709551615), (12, .bool false), (13, .int .u64 x13l92), (15, .int .u8 e5), (99, .slice a2 (intsOf xs).length c2), (100, .int .i64 ((intsOf xs).length : Int)), (101, .int .i64 x101l92)] (by kernel_rfl) ?_
          refine Ok.nil ?_
          refine Ok.thenN ?_
          refine Ok.cut (fun a W => ∃ gj105 : Ghost, Gext w0 gl92 gj105 ∧ StA 172 [(1, .int .i64 16), (8, .bool false), (9, .string ⟨⟨xs⟩⟩), (10, .int .u64 1152921504606846976), (11, .int .u64 18446744073709551615), (12, .bool false), (13, .int .u64 x13l92), (16, .int .u8 (if ((decide (48 ≤ e5)) && (decide (e5 ≤ 57))) = true then IntKind.wrap .u8 (e5 - 48) else IntKind.wrap .u8 ((IntKind.wrap .u8 ((sclM e5) - 97)) + 10))), (99, .slice a2 (intsOf xs).length c2), (100, .int .i64 ((intsOf xs).length : Int)), (101, .int .i64 x101l92)] a ∧ StW w0 [] gj105 W ∧ puij105 xs K e5 x13l92 x101l92 (puil92 xs K k92)) ?_ ?_
          ·
            refine Ok.block ?_
            refine Ok.seq ?_
            refine Ok.region ?_
            refine Ok.batch 3 [(1, .int .i64 16), (8, .bool false), (9, .string ⟨⟨xs⟩⟩), (10, .int .u64 1152921504606846976), (11, .int .u64 18446744073709551615), (12, .bool false), (13, .int .u64 x13l92), (15, .int .u8 e5), (99, .slice a2 (intsOf xs).length c2), (100, .int .i64 ((intsOf xs).length : Int)), (101, .int .i64 x101l92), (109, .bool (e5 == 95))] (by kernel_rfl) ?_
            refine Ok.midway 2 [(1, .int .i64 16), (8, .bool false), (9, .string ⟨⟨xs⟩⟩), (10, .int .u64 1152921504606846976), (11, .int .u64 18446744073709551615), (12, .bool false), (13, .int .u64 x13l92), (15, .int .u8 e5), (99, .slice a2 (intsOf xs).length c2), (100, .int .i64 ((intsOf xs).length : Int)), (101, .int .i64 x101l92), (111, .bool false)] (fun hR11 => ?_) ?_
            · refine Ok.boolAt 109 ((e5 == 95)) rfl (fun hc12 => ?_) (fun hc12 => ?_)
              · skip
                refine Ok.batch 2 [(1, .int .i64 16), (8, .bool false), (9, .string ⟨⟨xs⟩⟩), (10, .int .u64 1152921504606846976), (11, .int .u64 18446744073709551615), (12, .bool false), (13, .int .u64 x13l92), (15, .int .u8 e5), (99, .slice a2 (intsOf xs).length c2), (100, .int .i64 ((intsOf xs).length : Int)), (101, .int .i64 x101l92), (111, .bool false)] (by kernel_rfl) ?_
                refine Ok.batch 0 [(1, .int .i64 16), (8, .bool false), (9, .string ⟨⟨xs⟩⟩), (10, .int .u64 1152921504606846976), (11, .int .u64 18446744073709551615), (12, .bool false), (13, .int .u64 x13l92), (15, .int .u8 e5), (99, .slice a2 (intsOf xs).length c2), (100, .int .i64 ((intsOf xs).length : Int)), (101, .int .i64 x101l92), (111, .bool false)] (by kernel_rfl) ?_
                exact hR11
              · skip
                refine Ok.batch 2 [(1, .int .i64 16), (8, .bool false), (9, .string ⟨⟨xs⟩⟩), (10, .int .u64 1152921504606846976), (11, .int .u64 18446744073709551615), (12, .bool false), (13, .int .u64 x13l92), (15, .int .u8 e5), (99, .slice a2 (intsOf xs).length c2), (100, .int .i64 ((intsOf xs).length : Int)), (101, .int .i64 x101l92), (111, .bool false)] (by kernel_rfl) ?_
                refine Ok.batch 0 [(1, .int .i64 16), (8, .bool false), (9, .string ⟨⟨xs⟩⟩), (10, .int .u64 1152921504606846976), (11, .int .u64 18446744073709551615), (12, .bool false), (13, .int .u64 x13l92), (15, .int .u8 e5), (99, .slice a2 (intsOf xs).length c2), (100, .int .i64 ((intsOf xs).length : Int)), (101, .int .i64 x101l92), (111, .bool false)] (by kernel_rfl) ?_
                exact hR11
            refine Ok.batch 1 [(1, .int .i64 16), (8, .bool false), (9, .string ⟨⟨xs⟩⟩), (10, .int .u64 1152921504606846976), (11, .int .u64 18446744073709551615), (12, .bool false), (13, .int .u64 x13l92), (15, .int .u8 e5), (99, .slice a2 (intsOf xs).length c2), (100, .int .i64 ((intsOf xs).length : Int)), (101, .int .i64 x101l92), (106, .bool false)] (by kernel_rfl) ?_
            refine Ok.nil ?_
            refine Ok.thenN ?_
            refine Ok.cond (b := false) rfl (fun h => by cases h) (fun _ => ?_)
            refine Ok.seq ?_
            refine Ok.region ?_
            refine Ok.batch 3 [(1, .int .i64 16), (8, .bool false), (9, .string ⟨⟨xs⟩⟩), (10, .int .u64 1152921504606846976), (11, .int .u64 18446744073709551615), (12, .bool false), (13, .int .u64 x13l92), (15, .int .u8 e5), (99, .slice a2 (intsOf xs).length c2), (100, .int .i64 ((intsOf xs).length : Int)), (101, .int .i64 x101l92), (115, .bool (decide (48 ≤ e5)))] (by kernel_rfl) ?_
            refine Ok.midway 3 [(1, .int .i64 16), (8, .bool false), (9, .string ⟨⟨xs⟩⟩), (10, .int .u64 1152921504606846976), (11, .int .u64 18446744073709551615), (12, .bool false), (13, .int .u64 x13l92), (15, .int .u8 e5), (99, .slice a2 (intsOf xs).length c2), (100, .int .i64 ((intsOf xs).length : Int)), (101, .int .i64 x101l92), (118, .bool ((decide (48 ≤ e5)) && (decide (e5 ≤ 57))))] (fun hR13 => ?_) ?_
            · refine Ok.boolAt 115 (decide (48 ≤ e5)) rfl (fun hc14 => ?_) (fun hc14 => ?_)
              · skip
                refine Ok.batch 3 [(1, .int .i64 16), (8, .bool false), (9, .string ⟨⟨xs⟩⟩), (10, .int .u64 1152921504606846976), (11, .int .u64 18446744073709551615), (12, .bool false), (13, .int .u64 x13l92), (15, .int .u8 e5), (99, .slice a2 (intsOf xs).length c2), (100, .int .i64 ((intsOf xs).length : Int)), (101, .int .i64 x101l92), (118, .bool (decide (e5 ≤ 57)))] (by kernel_rfl) ?_
                refine Ok.reval 118 rfl (show (.bool (decide (e5 ≤ 57)) : Value) = .bool ((decide (48 ≤ e5)) && (decide (e5 ≤ 57))) from congrArg Value.bool (mand_t hc14)) ?_
                refine Ok.batch 0 [(1, .int .i64 16), (8, .bool false), (9, .string ⟨⟨xs⟩⟩), (10, .int .u64 1152921504606846976), (11, .int .u64 18446744073709551615), (12, .bool false), (13, .int .u64 x13l92), (15, .int .u8 e5), (99, .slice a2 (intsOf xs).length c2), (100, .int .i64 ((intsOf xs).length : Int)), (101, .int .i64 x101l92), (118, .bool ((decide (48 ≤ e5)) && (decide (e5 ≤ 57))))] (by kernel_rfl) ?_
                exact hR13
              · skip
                refine Ok.batch 3 [(1, .int .i64 16), (8, .bool false), (9, .string ⟨⟨xs⟩⟩), (10, .int .u64 1152921504606846976), (11, .int .u64 18446744073709551615), (12, .bool false), (13, .int .u64 x13l92), (15, .int .u8 e5), (99, .slice a2 (intsOf xs).length c2), (100, .int .i64 ((intsOf xs).length : Int)), (101, .int .i64 x101l92), (118, .bool false)] (by kernel_rfl) ?_
                refine Ok.reval 118 rfl (show (.bool false : Value) = .bool ((decide (48 ≤ e5)) && (decide (e5 ≤ 57))) from congrArg Value.bool (mand_f hc14)) ?_
                refine Ok.batch 0 [(1, .int .i64 16), (8, .bool false), (9, .string ⟨⟨xs⟩⟩), (10, .int .u64 1152921504606846976), (11, .int .u64 18446744073709551615), (12, .bool false), (13, .int .u64 x13l92), (15, .int .u8 e5), (99, .slice a2 (intsOf xs).length c2), (100, .int .i64 ((intsOf xs).length : Int)), (101, .int .i64 x101l92), (118, .bool ((decide (48 ≤ e5)) && (decide (e5 ≤ 57))))] (by kernel_rfl) ?_
                exact hR13
            refine Ok.batch 1 [(1, .int .i64 16), (8, .bool false), (9, .string ⟨⟨xs⟩⟩), (10, .int .u64 1152921504606846976), (11, .int .u64 18446744073709551615), (12, .bool false), (13, .int .u64 x13l92), (15, .int .u8 e5), (99, .slice a2 (intsOf xs).length c2), (100, .int .i64 ((intsOf xs).length : Int)), (101, .int .i64 x101l92), (112, .bool ((decide (48 ≤ e5)) && (decide (e5 ≤ 57))))] (by kernel_rfl) ?_
            refine Ok.nil ?_
            refine Ok.thenN ?_
            refine Ok.cond (b := ((decide (48 ≤ e5)) && (decide (e5 ≤ 57)))) rfl (fun hc15 => ?_) (fun hc15 => ?_)
            · replace hF := hF.1 hc15
              refine Ok.region ?_
              refine Ok.batch 3 [(1, .int .i64 16), (8, .bool false), (9, .string ⟨⟨xs⟩⟩), (10, .int .u64 1152921504606846976), (11, .int .u64 18446744073709551615), (12, .bool false), (13, .int .u64 x13l92), (16, .int .u8 (IntKind.wrap .u8 (e5 - 48))), (99, .slice a2 (intsOf xs).length c2), (100, .int .i64 ((intsOf xs).length : Int)), (101, .int .i64 x101l92)] (by kernel_rfl) ?_
              refine Ok.nil ?_
              refine Ok.blockN ?_
              refine Ok.thenN ?_
              refine Ok.reval 16 rfl (show (.int .u8 (IntKind.wrap .u8 (e5 - 48)) : Value) = .int .u8 (if ((decide (48 ≤ e5)) && (decide (e5 ≤ 57))) = true then IntKind.wrap .u8 (e5 - 48) else IntKind.wrap .u8 ((IntKind.wrap .u8 ((sclM e5) - 97)) + 10)) from congrArg (Value.int .u8) ((if_t hc15).symm)) ?_
              exact fun a W hA hW => ⟨gl92, (Gext.refl w0 gl92), hA.sub (by kernel_rfl), hW, hF⟩
            · replace hF := hF.2 hc15
              refine Ok.cut (fun a W => ∃ gj117 : Ghost, Gext w0 gl92 gj117 ∧ StA 172 [(1, .int .i64 16), (8, .bool false), (9, .string ⟨⟨xs⟩⟩), (10, .int .u64 1152921504606846976), (11, .int .u64 18446744073709551615), (12, .bool false), (13, .int .u64 x13l92), (15, .int .u8 e5), (99, .slice a2 (intsOf xs).length c2), (100, .int .i64 ((intsOf xs).length : Int)), (101, .int .i64 x101l92), (121, .bool ((decide (97 ≤ (sclM e5))) && (decide ((sclM e5) ≤ 122))))] a ∧ StW w0 [] gj117 W ∧ puij117 xs K e5 x13l92 x101l92 (puil92 xs K k92)) ?_ ?_
              ·
                refine Ok.region ?_
                refine Ok.batch 1 [(1, .int .i64 16), (8, .bool false), (9, .string ⟨⟨xs⟩⟩), (10, .int .u64 1152921504606846976), (11, .int .u64 18446744073709551615), (12, .bool false), (13, .int .u64 x13l92), (15, .int .u8 e5), (99, .slice a2 (intsOf xs).length c2), (100, .int .i64 ((intsOf xs).length : Int)), (101, .int .i64 x101l92), (122, .int .u8 e5)] (by kernel_rfl) ?_
                refine Ok.op rfl (OpOk.callG (v := .int .u8 (sclM e5)) (enters (by kernel_rfl) (fun _ => by kernel_rfl)) (fun W hW => scl_c e5) rfl ?_)
                refine Ok.batch 2 [(1, .int .i64 16), (8, .bool false), (9, .string ⟨⟨xs⟩⟩), (10, .int .u64 1152921504606846976), (11, .int .u64 18446744073709551615), (12, .bool false), (13, .int .u64 x13l92), (15, .int .u8 e5), (99, .slice a2 (intsOf xs).length c2), (100, .int .i64 ((intsOf xs).length : Int)), (101, .int .i64 x101l92), (125, .bool (decide (97 ≤ (sclM e5))))] (by kernel_rfl) ?_
                refine Ok.boolAt 125 (decide (97 ≤ (sclM e5))) rfl (fun hc17 => ?_) (fun hc17 => ?_)
                · replace hF := hF.1 hc17
                  refine Ok.batch 1 [(1, .int .i64 16), (8, .bool false), (9, .string ⟨⟨xs⟩⟩), (10, .int .u64 1152921504606846976), (11, .int .u64 18446744073709551615), (12, .bool false), (13, .int .u64 x13l92), (15, .int .u8 e5), (99, .slice a2 (intsOf xs).length c2), (100, .int .i64 ((intsOf xs).length : Int)), (101, .int .i64 x101l92), (125, .bool true), (126, .int .u8 e5)] (by kernel_rfl) ?_
                  refine Ok.opYes (j := 3) (d := 125) (want := true) (b := true) rfl (by kernel_rfl) (by kernel_rfl) rfl (OpOk.callG (v := .int .u8 (sclM e5)) (enters (by kernel_rfl) (fun _ => by kernel_rfl)) (fun W hW => scl_c e5) rfl ?_)
                  refine Ok.batch 3 [(1, .int .i64 16), (8, .bool false), (9, .string ⟨⟨xs⟩⟩), (10, .int .u64 1152921504606846976), (11, .int .u64 18446744073709551615), (12, .bool false), (13, .int .u64 x13l92), (15, .int .u8 e5), (99, .slice a2 (intsOf xs).length c2), (100, .int .i64 ((intsOf xs).length : Int)), (101, .int .i64 x101l92), (121, .bool (decide ((sclM e5) ≤ 122)))] (by kernel_rfl) ?_
                  refine Ok.nil ?_
                  refine Ok.thenN ?_
                  refine Ok.reval 121 rfl (show (.bool (decide ((sclM e5) ≤ 122)) : Value) = .bool ((decide (97 ≤ (sclM e5))) && (decide ((sclM e5) ≤ 122))) from congrArg (Value.bool) (mand_t hc17)) ?_
                  exact fun a W hA hW => ⟨gl92, (Gext.refl w0 gl92), hA.sub (by kernel_rfl), hW, hF⟩
                · replace hF := hF.2 hc17
                  refine Ok.batch 5 [(1, .int .i64 16), (8, .bool false), (9, .string ⟨⟨xs⟩⟩), (10, .int .u64 1152921504606846976), (11, .int .u64 18446744073709551615), (12, .bool false), (13, .int .u64 x13l92), (15, .int .u8 e5), (99, .slice a2 (intsOf xs).length c2), (100, .int .i64 ((intsOf xs).length : Int)), (101, .int .i64 x101l92), (121, .bool false)] (by kernel_rfl) ?_
                  refine Ok.nil ?_
                  refine Ok.thenN ?_
                  refine Ok.reval 121 rfl (show (.bool false : Value) = .bool ((decide (97 ≤ (sclM e5))) && (decide ((sclM e5) ≤ 122))) from congrArg (Value.bool) (mand_f hc17)) ?_
                  exact fun a W hA hW => ⟨gl92, (Gext.refl w0 gl92), hA.sub (by kernel_rfl), hW, hF⟩
              ·
                clear hF
                rintro a W ⟨gj117, hxj117, hA, hW, hF⟩
                refine (?_ : Ok _ _ _ _ _ _) a W hA hW
                clear hA hW
                replace hR2 := hR2.mono hxj117.1
                refine Ok.cond (b := ((decide (97 ≤ (sclM e5))) && (decide ((sclM e5) ≤ 122)))) rfl (fun hc16 => ?_) (fun hc16 => ?_)
                · replace hF := hF.1 hc16
                  refine Ok.region ?_
                  refine Ok.batch 1 [(1, .int .i64 16), (8, .bool false), (9, .string ⟨⟨xs⟩⟩), (10, .int .u64 1152921504606846976), (11, .int .u64 18446744073709551615), (12, .bool false), (13, .int .u64 x13l92), (99, .slice a2 (intsOf xs).length c2), (100, .int .i64 ((intsOf xs).length : Int)), (101, .int .i64 x101l92), (130, .int .u8 e5)] (by kernel_rfl) ?_
                  refine Ok.op rfl (OpOk.callG (v := .int .u8 (sclM e5)) (enters (by kernel_rfl) (fun _ => by kernel_rfl)) (fun W hW => scl_c e5) rfl ?_)
                  refine Ok.batch 3 [(1, .int .i64 16), (8, .bool false), (9, .string ⟨⟨xs⟩⟩), (10, .int .u64 1152921504606846976), (11, .int .u64 18446744073709551615), (12, .bool false), (13, .int .u64 x13l92), (16, .int .u8 (IntKind.wrap .u8 ((IntKind.wrap .u8 ((sclM e5) - 97)) + 10))), (99, .slice a2 (intsOf xs).length c2), (100, .int .i64 ((intsOf xs).length : Int)), (101, .int .i64 x101l92)] (by kernel_rfl) ?_
                  refine Ok.nil ?_
                  refine Ok.blockN ?_
                  refine Ok.thenN ?_
                  refine Ok.reval 16 rfl (show (.int .u8 (IntKind.wrap .u8 ((IntKind.wrap .u8 ((sclM e5) - 97)) + 10)) : Value) = .int .u8 (if ((decide (48 ≤ e5)) && (decide (e5 ≤ 57))) = true then IntKind.wrap .u8 (e5 - 48) else IntKind.wrap .u8 ((IntKind.wrap .u8 ((sclM e5) - 97)) + 10)) from congrArg (Value.int .u8) ((if_f hc15).symm)) ?_
                  exact fun a W hA hW => ⟨gj117, hxj117, hA.sub (by kernel_rfl), hW, hF⟩
                · replace hF := hF.2 hc16
                  refine Ok.seq ?_
                  refine Ok.region ?_
                  refine Ok.batch 3 [(6, .int .u64 0), (7, .iface 137 (.int .i64 2))] (by kernel_rfl) ?_
                  refine Ok.nil ?_
                  refine Ok.thenN ?_
                  refine Ok.ret ?_
                  refine Ok.blockR ?_
                  refine Ok.thenR ?_
                  refine Ok.blockR ?_
                  refine Ok.thenR ?_
                  refine Ok.thenR ?_
                  refine Ok.blockR ?_
                  refine Ok.thenR ?_
                  exact Ok.resH (vs := [.int .u64 0, .iface 137 (.int .i64 2)]) (.inl rfl) rfl (.cons (.tmp rfl) (.cons (.tmp rfl) .nil)) ((hx2.trans hxl92).trans hxj117) ⟨0, 2, rfl, rfl, hF⟩
          ·
            clear hF
            rintro a W ⟨gj105, hxj105, hA, hW, hF⟩
            refine (?_ : Ok _ _ _ _ _ _) a W hA hW
            clear hA hW
            replace hR2 := hR2.mono hxj105.1
            refine Ok.seq ?_
            refine Ok.seq ?_
            refine Ok.region ?_
            refine Ok.batch 4 [(1, .int .i64 16), (8, .bool false), (9, .string ⟨⟨xs⟩⟩), (10, .int .u64 1152921504606846976), (11, .int .u64 18446744073709551615), (12, .bool false), (13, .int .u64 x13l92), (16, .int .u8 (if ((decide (48 ≤ e5)) && (decide (e5 ≤ 57))) = true then IntKind.wrap .u8 (e5 - 48) else IntKind.wrap .u8 ((IntKind.wrap .u8 ((sclM e5) - 97)) + 10))), (99, .slice a2 (intsOf xs).length c2), (100, .int .i64 ((intsOf xs).length : Int)), (101, .int .i64 x101l92), (137, .bool (decide ((if ((decide (48 ≤ e5)) && (decide (e5 ≤ 57))) = true then IntKind.wrap .u8 (e5 - 48) else IntKind.wrap .u8 ((IntKind.wrap .u8 ((sclM e5) - 97)) + 10)) ≥ 16)))] (by kernel_rfl) ?_
            refine Ok.nil ?_
            refine Ok.thenN ?_
            refine Ok.cond (b := decide ((if ((decide (48 ≤ e5)) && (decide (e5 ≤ 57))) = true then IntKind.wrap .u8 (e5 - 48) else IntKind.wrap .u8 ((IntKind.wrap .u8 ((sclM e5) - 97)) + 10)) ≥ 16)) rfl (fun hc6 => ?_) (fun hc6 => ?_)
            · replace hF := hF.1 hc6
              refine Ok.seq ?_
              refine Ok.region ?_
              refine Ok.batch 3 [(6, .int .u64 0), (7, .iface 137 (.int .i64 2))] (by kernel_rfl) ?_
              refine Ok.nil ?_
              refine Ok.thenN ?_
              refine Ok.ret ?_
              refine Ok.thenR ?_
              refine Ok.blockR ?_
              refine Ok.thenR ?_
              refine Ok.thenR ?_
              refine Ok.blockR ?_
              refine Ok.thenR ?_
              exact Ok.resH (vs := [.int .u64 0, .iface 137 (.int .i64 2)]) (.inl rfl) rfl (.cons (.tmp rfl) (.cons (.tmp rfl) .nil)) ((hx2.trans hxl92).trans hxj105) ⟨0, 2, rfl, rfl, hF⟩
            · replace hF := hF.2 hc6
              refine Ok.skip ?_
              refine Ok.thenN ?_
              refine Ok.seq ?_
              refine Ok.seq ?_
              refine Ok.region ?_
              refine Ok.batch 3 [(1, .int .i64 16), (8, .bool false), (9, .string ⟨⟨xs⟩⟩), (10, .int .u64 1152921504606846976), (11, .int .u64 18446744073709551615), (12, .bool false), (13, .int .u64 x13l92), (16, .int .u8 (if ((decide (48 ≤ e5)) && (decide (e5 ≤ 57))) = true then IntKind.wrap .u8 (e5 - 48) else IntKind.wrap .u8 ((IntKind.wrap .u8 ((sclM e5) - 97)) + 10))), (99, .slice a2 (intsOf xs).length c2), (100, .int .i64 ((intsOf xs).length : Int)), (101, .int .i64 x101l92), (141, .bool (decide (x13l92 ≥ 1152921504606846976)))] (by kernel_rfl) ?_
              refine Ok.nil ?_
              refine Ok.thenN ?_
              refine Ok.cond (b := decide (x13l92 ≥ 1152921504606846976)) rfl (fun hc7 => ?_) (fun hc7 => ?_)
              · replace hF := hF.1 hc7
                refine Ok.seq ?_
                refine Ok.region ?_
                refine Ok.batch 4 [(6, .int .u64 18446744073709551615), (7, .iface 137 (.int .i64 1))] (by kernel_rfl) ?_
                refine Ok.nil ?_
                refine Ok.thenN ?_
                refine Ok.ret ?_
                refine Ok.thenR ?_
                refine Ok.blockR ?_
                refine Ok.thenR ?_
                refine Ok.thenR ?_
                refine Ok.blockR ?_
                refine Ok.thenR ?_
                exact Ok.resH (vs := [.int .u64 18446744073709551615, .iface 137 (.int .i64 1)]) (.inl rfl) rfl (.cons (.tmp rfl) (.cons (.tmp rfl) .nil)) ((hx2.trans hxl92).trans hxj105) ⟨18446744073709551615, 1, rfl, rfl, hF⟩
              · replace hF := hF.2 hc7
                refine Ok.skip ?_
                refine Ok.thenN ?_
                refine Ok.seq ?_
                refine Ok.region ?_
                refine Ok.batch 5 [(1, .int .i64 16), (8, .bool false), (9, .string ⟨⟨xs⟩⟩), (10, .int .u64 1152921504606846976), (11, .int .u64 18446744073709551615), (12, .bool false), (13, .int .u64 (IntKind.wrap .u64 (x13l92 * 16))), (16, .int .u8 (if ((decide (48 ≤ e5)) && (decide (e5 ≤ 57))) = true then IntKind.wrap .u8 (e5 - 48) else IntKind.wrap .u8 ((IntKind.wrap .u8 ((sclM e5) - 97)) + 10))), (99, .slice a2 (intsOf xs).length c2), (100, .int .i64 ((intsOf xs).length : Int)), (101, .int .i64 x101l92)] (by kernel_rfl) ?_
                refine Ok.nil ?_
                refine Ok.thenN ?_
                refine Ok.seq ?_
                refine Ok.region ?_
                refine Ok.batch 5 [(1, .int .i64 16), (8, .bool false), (9, .string ⟨⟨xs⟩⟩), (10, .int .u64 1152921504606846976), (11, .int .u64 18446744073709551615), (12, .bool false), (13, .int .u64 (IntKind.wrap .u64 (x13l92 * 16))), (17, .int .u64 (IntKind.wrap .u64 ((IntKind.wrap .u64 (x13l92 * 16)) + (IntKind.wrap .u64 (if ((decide (48 ≤ e5)) && (decide (e5 ≤ 57))) = true then IntKind.wrap .u8 (e5 - 48) else IntKind.wrap .u8 ((IntKind.wrap .u8 ((sclM e5) - 97)) + 10)))))), (99, .slice a2 (intsOf xs).length c2), (100, .int .i64 ((intsOf xs).length : Int)), (101, .int .i64 x101l92)] (by kernel_rfl) ?_
                refine Ok.nil ?_
                refine Ok.thenN ?_
                refine Ok.seq ?_
                refine Ok.seq ?_
                refine Ok.region ?_
                refine Ok.batch 4 [(1, .int .i64 16), (8, .bool false), (9, .string ⟨⟨xs⟩⟩), (10, .int .u64 1152921504606846976), (11, .int .u64 18446744073709551615), (12, .bool false), (17, .int .u64 (IntKind.wrap .u64 ((IntKind.wrap .u64 (x13l92 * 16)) + (IntKind.wrap .u64 (if ((decide (48 ≤ e5)) && (decide (e5 ≤ 57))) = true then IntKind.wrap .u8 (e5 - 48) else IntKind.wrap .u8 ((IntKind.wrap .u8 ((sclM e5) - 97)) + 10)))))), (99, .slice a2 (intsOf xs).length c2), (100, .int .i64 ((intsOf xs).length : Int)), (101, .int .i64 x101l92), (155, .bool (decide ((IntKind.wrap .u64 ((IntKind.wrap .u64 (x13l92 * 16)) + (IntKind.wrap .u64 (if ((decide (48 ≤ e5)) && (decide (e5 ≤ 57))) = true then IntKind.wrap .u8 (e5 - 48) else IntKind.wrap .u8 ((IntKind.wrap .u8 ((sclM e5) - 97)) + 10))))) < (IntKind.wrap .u64 (x13l92 * 16)))))] (by kernel_rfl) ?_
                refine Ok.midway 4 [(1, .int .i64 16), (8, .bool false), (9, .string ⟨⟨xs⟩⟩), (10, .int .u64 1152921504606846976), (11, .int .u64 18446744073709551615), (12, .bool false), (17, .int .u64 (IntKind.wrap .u64 ((IntKind.wrap .u64 (x13l92 * 16)) + (IntKind.wrap .u64 (if ((decide (48 ≤ e5)) && (decide (e5 ≤ 57))) = true then IntKind.wrap .u8 (e5 - 48) else IntKind.wrap .u8 ((IntKind.wrap .u8 ((sclM e5) - 97)) + 10)))))), (99, .slice a2 (intsOf xs).length c2), (100, .int .i64 ((intsOf xs).length : Int)), (101, .int .i64 x101l92), (159, .bool ((decide ((IntKind.wrap .u64 ((IntKind.wrap .u64 (x13l92 * 16)) + (IntKind.wrap .u64 (if ((decide (48 ≤ e5)) && (decide (e5 ≤ 57))) = true then IntKind.wrap .u8 (e5 - 48) else IntKind.wrap .u8 ((IntKind.wrap .u8 ((sclM e5) - 97)) + 10))))) < (IntKind.wrap .u64 (x13l92 * 16)))) || (decide ((IntKind.wrap .u64 ((IntKind.wrap .u64 (x13l92 * 16)) + (IntKind.wrap .u64 (if ((decide (48 ≤ e5)) && (decide (e5 ≤ 57))) = true then IntKind.wrap .u8 (e5 - 48) else IntKind.wrap .u8 ((IntKind.wrap .u8 ((sclM e5) - 97)) + 10))))) > 18446744073709551615))))] (fun hR8 => ?_) ?_
                · refine Ok.boolAt 155 (decide ((IntKind.wrap .u64 ((IntKind.wrap .u64 (x13l92 * 16)) + (IntKind.wrap .u64 (if ((decide (48 ≤ e5)) && (decide (e5 ≤ 57))) = true then IntKind.wrap .u8 (e5 - 48) else IntKind.wrap .u8 ((IntKind.wrap .u8 ((sclM e5) - 97)) + 10))))) < (IntKind.wrap .u64 (x13l92 * 16)))) rfl (fun hc9 => ?_) (fun hc9 => ?_)
                  · skip
                    refine Ok.batch 4 [(1, .int .i64 16), (8, .bool false), (9, .string ⟨⟨xs⟩⟩), (10, .int .u64 1152921504606846976), (11, .int .u64 18446744073709551615), (12, .bool false), (17, .int .u64 (IntKind.wrap .u64 ((IntKind.wrap .u64 (x13l92 * 16)) + (IntKind.wrap .u64 (if ((decide (48 ≤ e5)) && (decide (e5 ≤ 57))) = true then IntKind.wrap .u8 (e5 - 48) else IntKind.wrap .u8 ((IntKind.wrap .u8 ((sclM e5) - 97)) + 10)))))), (99, .slice a2 (intsOf xs).length c2), (100, .int .i64 ((intsOf xs).length : Int)), (101, .int .i64 x101l92), (159, .bool true)] (by kernel_rfl) ?_
                    refine Ok.reval 159 rfl (show (.bool true : Value) = .bool ((decide ((IntKind.wrap .u64 ((IntKind.wrap .u64 (x13l92 * 16)) + (IntKind.wrap .u64 (if ((decide (48 ≤ e5)) && (decide (e5 ≤ 57))) = true then IntKind.wrap .u8 (e5 - 48) else IntKind.wrap .u8 ((IntKind.wrap .u8 ((sclM e5) - 97)) + 10))))) < (IntKind.wrap .u64 (x13l92 * 16)))) || (decide ((IntKind.wrap .u64 ((IntKind.wrap .u64 (x13l92 * 16)) + (IntKind.wrap .u64 (if ((decide (48 ≤ e5)) && (decide (e5 ≤ 57))) = true then IntKind.wrap .u8 (e5 - 48) else IntKind.wrap .u8 ((IntKind.wrap .u8 ((sclM e5) - 97)) + 10))))) > 18446744073709551615))) from congrArg Value.bool (mor_t hc9)) ?_
                    refine Ok.batch 0 [(1, .int .i64 16), (8, .bool false), (9, .string ⟨⟨xs⟩⟩), (10, .int .u64 1152921504606846976), (11, .int .u64 18446744073709551615), (12, .bool false), (17, .int .u64 (IntKind.wrap .u64 ((IntKind.wrap .u64 (x13l92 * 16)) + (IntKind.wrap .u64 (if ((decide (48 ≤ e5)) && (decide (e5 ≤ 57))) = true then IntKind.wrap .u8 (e5 - 48) else IntKind.wrap .u8 ((IntKind.wrap .u8 ((sclM e5) - 97)) + 10)))))), (99, .slice a2 (intsOf xs).length c2), (100, .int .i64 ((intsOf xs).length : Int)), (101, .int .i64 x101l92), (159, .bool ((decide ((IntKind.wrap .u64 ((IntKind.wrap .u64 (x13l92 * 16)) + (IntKind.wrap .u64 (if ((decide (48 ≤ e5)) && (decide (e5 ≤ 57))) = true then IntKind.wrap .u8 (e5 - 48) else IntKind.wrap .u8 ((IntKind.wrap .u8 ((sclM e5) - 97)) + 10))))) < (IntKind.wrap .u64 (x13l92 * 16)))) || (decide ((IntKind.wrap .u64 ((IntKind.wrap .u64 (x13l92 * 16)) + (IntKind.wrap .u64 (if ((decide (48 ≤ e5)) && (decide (e5 ≤ 57))) = true then IntKind.wrap .u8 (e5 - 48) else IntKind.wrap .u8 ((IntKind.wrap .u8 ((sclM e5) - 97)) + 10))))) > 18446744073709551615))))] (by kernel_rfl) ?_
                    exact hR8
                  · skip
                    refine Ok.batch 4 [(1, .int .i64 16), (8, .bool false), (9, .string ⟨⟨xs⟩⟩), (10, .int .u64 1152921504606846976), (11, .int .u64 18446744073709551615), (12, .bool false), (17, .int .u64 (IntKind.wrap .u64 ((IntKind.wrap .u64 (x13l92 * 16)) + (IntKind.wrap .u64 (if ((decide (48 ≤ e5)) && (decide (e5 ≤ 57))) = true then IntKind.wrap .u8 (e5 - 48) else IntKind.wrap .u8 ((IntKind.wrap .u8 ((sclM e5) - 97)) + 10)))))), (99, .slice a2 (intsOf xs).length c2), (100, .int .i64 ((intsOf xs).length : Int)), (101, .int .i64 x101l92), (159, .bool (decide ((IntKind.wrap .u64 ((IntKind.wrap .u64 (x13l92 * 16)) + (IntKind.wrap .u64 (if ((decide (48 ≤ e5)) && (decide (e5 ≤ 57))) = true then IntKind.wrap .u8 (e5 - 48) else IntKind.wrap .u8 ((IntKind.wrap .u8 ((sclM e5) - 97)) + 10))))) > 18446744073709551615)))] (by kernel_rfl) ?_
                    refine Ok.reval 159 rfl (show (.bool (decide ((IntKind.wrap .u64 ((IntKind.wrap .u64 (x13l92 * 16)) + (IntKind.wrap .u64 (if ((decide (48 ≤ e5)) && (decide (e5 ≤ 57))) = true then IntKind.wrap .u8 (e5 - 48) else IntKind.wrap .u8 ((IntKind.wrap .u8 ((sclM e5) - 97)) + 10))))) > 18446744073709551615)) : Value) = .bool ((decide ((IntKind.wrap .u64 ((IntKind.wrap .u64 (x13l92 * 16)) + (IntKind.wrap .u64 (if ((decide (48 ≤ e5)) && (decide (e5 ≤ 57))) = true then IntKind.wrap .u8 (e5 - 48) else IntKind.wrap .u8 ((IntKind.wrap .u8 ((sclM e5) - 97)) + 10))))) < (IntKind.wrap .u64 (x13l92 * 16)))) || (decide ((IntKind.wrap .u64 ((IntKind.wrap .u64 (x13l92 * 16)) + (IntKind.wrap .u64 (if ((decide (48 ≤ e5)) && (decide (e5 ≤ 57))) = true then IntKind.wrap .u8 (e5 - 48) else IntKind.wrap .u8 ((IntKind.wrap .u8 ((sclM e5) - 97)) + 10))))) > 18446744073709551615))) from congrArg Value.bool (mor_f hc9)) ?_
                    refine Ok.batch 0 [(1, .int .i64 16), (8, .bool false), (9, .string ⟨⟨xs⟩⟩), (10, .int .u64 1152921504606846976), (11, .int .u64 18446744073709551615), (12, .bool false), (17, .int .u64 (IntKind.wrap .u64 ((IntKind.wrap .u64 (x13l92 * 16)) + (IntKind.wrap .u64 (if ((decide (48 ≤ e5)) && (decide (e5 ≤ 57))) = true then IntKind.wrap .u8 (e5 - 48) else IntKind.wrap .u8 ((IntKind.wrap .u8 ((sclM e5) - 97)) + 10)))))), (99, .slice a2 (intsOf xs).length c2), (100, .int .i64 ((intsOf xs).length : Int)), (101, .int .i64 x101l92), (159, .bool ((decide ((IntKind.wrap .u64 ((IntKind.wrap .u64 (x13l92 * 16)) + (IntKind.wrap .u64 (if ((decide (48 ≤ e5)) && (decide (e5 ≤ 57))) = true then IntKind.wrap .u8 (e5 - 48) else IntKind.wrap .u8 ((IntKind.wrap .u8 ((sclM e5) - 97)) + 10))))) < (IntKind.wrap .u64 (x13l92 * 16)))) || (decide ((IntKind.wrap .u64 ((IntKind.wrap .u64 (x13l92 * 16)) + (IntKind.wrap .u64 (if ((decide (48 ≤ e5)) && (decide (e5 ≤ 57))) = true then IntKind.wrap .u8 (e5 - 48) else IntKind.wrap .u8 ((IntKind.wrap .u8 ((sclM e5) - 97)) + 10))))) > 18446744073709551615))))] (by kernel_rfl) ?_
                    exact hR8
                refine Ok.nil ?_
                refine Ok.thenN ?_
                refine Ok.cond (b := ((decide ((IntKind.wrap .u64 ((IntKind.wrap .u64 (x13l92 * 16)) + (IntKind.wrap .u64 (if ((decide (48 ≤ e5)) && (decide (e5 ≤ 57))) = true then IntKind.wrap .u8 (e5 - 48) else IntKind.wrap .u8 ((IntKind.wrap .u8 ((sclM e5) - 97)) + 10))))) < (IntKind.wrap .u64 (x13l92 * 16)))) || (decide ((IntKind.wrap .u64 ((IntKind.wrap .u64 (x13l92 * 16)) + (IntKind.wrap .u64 (if ((decide (48 ≤ e5)) && (decide (e5 ≤ 57))) = true then IntKind.wrap .u8 (e5 - 48) else IntKind.wrap .u8 ((IntKind.wrap .u8 ((sclM e5) - 97)) + 10))))) > 18446744073709551615)))) rfl (fun hc10 => ?_) (fun hc10 => ?_)
                · replace hF := hF.1 hc10
                  refine Ok.seq ?_
                  refine Ok.region ?_
                  refine Ok.batch 4 [(6, .int .u64 18446744073709551615), (7, .iface 137 (.int .i64 1))] (by kernel_rfl) ?_
                  refine Ok.nil ?_
                  refine Ok.thenN ?_
                  refine Ok.ret ?_
                  refine Ok.thenR ?_
                  refine Ok.blockR ?_
                  refine Ok.thenR ?_
                  refine Ok.thenR ?_
                  refine Ok.blockR ?_
                  refine Ok.thenR ?_
                  exact Ok.resH (vs := [.int .u64 18446744073709551615, .iface 137 (.int .i64 1)]) (.inl rfl) rfl (.cons (.tmp rfl) (.cons (.tmp rfl) .nil)) ((hx2.trans hxl92).trans hxj105) ⟨18446744073709551615, 1, rfl, rfl, hF⟩
                · replace hF := hF.2 hc10
                  refine Ok.skip ?_
                  refine Ok.thenN ?_
                  refine Ok.region ?_
                  refine Ok.batch 2 [(1, .int .i64 16), (8, .bool false), (9, .string ⟨⟨xs⟩⟩), (10, .int .u64 1152921504606846976), (11, .int .u64 18446744073709551615), (12, .bool false), (13, .int .u64 (IntKind.wrap .u64 ((IntKind.wrap .u64 (x13l92 * 16)) + (IntKind.wrap .u64 (if ((decide (48 ≤ e5)) && (decide (e5 ≤ 57))) = true then IntKind.wrap .u8 (e5 - 48) else IntKind.wrap .u8 ((IntKind.wrap .u8 ((sclM e5) - 97)) + 10)))))), (99, .slice a2 (intsOf xs).length c2), (100, .int .i64 ((intsOf xs).length : Int)), (101, .int .i64 x101l92)] (by kernel_rfl) ?_
                  refine Ok.nil ?_
                  refine Ok.blockN ?_
                  refine Ok.thenN ?_
                  refine Ok.region ?_
                  refine Ok.batch 2 [(1, .int .i64 16), (8, .bool false), (9, .string ⟨⟨xs⟩⟩), (10, .int .u64 1152921504606846976), (11, .int .u64 18446744073709551615), (12, .bool false), (13, .int .u64 (IntKind.wrap .u64 ((IntKind.wrap .u64 (x13l92 * 16)) + (IntKind.wrap .u64 (if ((decide (48 ≤ e5)) && (decide (e5 ≤ 57))) = true then IntKind.wrap .u8 (e5 - 48) else IntKind.wrap .u8 ((IntKind.wrap .u8 ((sclM e5) - 97)) + 10)))))), (99, .slice a2 (intsOf xs).length c2), (100, .int .i64 ((intsOf xs).length : Int)), (101, .int .i64 (IntKind.wrap .i64 (x101l92 + 1)))] (by kernel_rfl) ?_
                  refine Ok.nil ?_
                  refine Ok.thenN ?_
                  subst hg5
                  exact fun a W hA hW => ⟨k92, Nat.lt_succ_self _, gj105, (hxl92.trans hxj105), IntKind.wrap .u64 ((IntKind.wrap .u64 (x13l92 * 16)) + (IntKind.wrap .u64 (if ((decide (48 ≤ ((intsOf xs).getD (Int.toNat x101l92) default))) && (decide (((intsOf xs).getD (Int.toNat x101l92) default) ≤ 57))) = true then IntKind.wrap .u8 (((intsOf xs).getD (Int.toNat x101l92) default) - 48) else IntKind.wrap .u8 ((IntKind.wrap .u8 ((sclM ((intsOf xs).getD (Int.toNat x101l92) default)) - 97)) + 10)))), IntKind.wrap .i64 (x101l92 + 1), hA.sub (by kernel_rfl), hW, hF⟩
        · replace hF := hF.2 hc3
          refine Ok.exit ?_
          refine Ok.thenE ?_
          refine Ok.thenE ?_
          refine Ok.blockHit ?_
          refine Ok.thenN ?_
          refine Ok.seq ?_
          refine Ok.seq ?_
          refine Ok.region ?_
          refine Ok.batch 6 [(13, .int .u64 x13l92), (169, .bool false)] (by kernel_rfl) ?_
          refine Ok.nil ?_
          refine Ok.thenN ?_
          refine Ok.cond (b := false) rfl (fun h => by cases h) (fun _ => ?_)
          refine Ok.skip ?_
          refine Ok.thenN ?_
          refine Ok.seq ?_
          refine Ok.region ?_
          refine Ok.batch 3 [(6, .int .u64 x13l92), (7, .nilIface)] (by kernel_rfl) ?_
          refine Ok.nil ?_
          refine Ok.thenN ?_
          refine Ok.ret ?_
          exact Ok.resH (vs := [.int .u64 x13l92, .nilIface]) (.inl rfl) rfl (.cons (.tmp rfl) (.cons (.tmp rfl) .nil)) (hx2.trans hxl92) ⟨x13l92, 0, rfl, rfl, hF⟩
/-- what a sign is worth as a digit; -1: it is none -/
def hexD (c : Int) : Int := if (decide (48 ≤ c) && decide (c ≤ 57)) = true then c - 48 else if (decide (97 ≤ sclM c) && decide (sclM c ≤ 122)) = true then (if decide (sclM c - 97 + 10 ≥ 16) = true then -1 else sclM c - 97 + 10) else -1
def puiN : List Int → Int → Int × Int
  | [], n => (n, 0)
  | c :: l, n => if decide (hexD c < 0) = true then (0, 2) else if decide (n ≥ 1152921504606846976) = true then (18446744073709551615, 1) else puiN l (n * 16 + hexD c)
def puiS (s : List UInt8) : Int × Int := if (s == []) = true then (0, 2) else puiN (intsOf s) 0
def puiP (s : List UInt8) : Prop := s.length ≤ 281474976710656
def hexOk (c : UInt8) : Bool := decide (hexD (c.toNat : Int) < 16) && decide (-1 ≤ hexD (c.toNat : Int)) && decide (0 ≤ sclM (c.toNat : Int)) && decide (sclM (c.toNat : Int) < 256)
theorem byte_all {p : UInt8 → Bool} (h : (List.range 256).all (fun n => p (UInt8.ofNat n)) = true) (c : UInt8) : p c = true := by
  have h1 := List.all_eq_true.1 h c.toNat (by simpa using c.toNat_lt)
  simpa using h1
theorem hex_ok (c : UInt8) : hexOk c = true := byte_all (by decide +kernel) c
theorem u8w {x : Int} (h : 0 ≤ x ∧ x ≤ 255) : IntKind.wrap .u8 x = x := IntWalk.u8_in x h
theorem u64w {x : Int} (h : 0 ≤ x ∧ x ≤ 18446744073709551615) : IntKind.wrap .u64 x = x := by
  show x % 18446744073709551616 = x
  exact Int.emod_eq_of_lt h.1 (by omega)
theorem pui_F (s : List UInt8) (hp : puiP s) : puiF s (fun r r1 => (r, r1) = puiS s) := by
  unfold puiP at hp
  unfold puiS
  refine ⟨fun h => by rw [if_t h], fun h => ⟨by rw [maxLen_eq]; omega, ?_⟩⟩
  rw [if_f h]
  have hil : (intsOf s).length = s.length := intsOf_length s
  have loop : ∀ (k i : Nat) (n : Int), i + k = s.length → 0 ≤ n → n ≤ 18446744073709551615 → puiN (intsOf s) 0 = puiN ((intsOf s).drop i) n → puil92 s (fun r r1 => (r, r1) = puiN (intsOf s) 0) (k + 1) n (i : Int) := by
    intro k
    induction k with
    | zero =>
      intro i n h h0 h1 he
      have hn : decide ((i : Int) < ((intsOf s).length : Int)) = false := decide_eq_false (by omega)
      rw [List.drop_of_length_le (by omega)] at he
      exact ⟨fun h => (Bool.false_ne_true (hn.symm.trans h)).elim, fun _ => he.symm⟩
    | succ k ih =>
      intro i n h h0 h1 he
      have hn : decide ((i : Int) < ((intsOf s).length : Int)) = true := decide_eq_true (by omega)
      obtain ⟨c, hc⟩ : ∃ c : UInt8, (intsOf s).getD i default = (c.toNat : Int) := ⟨s.getD i 0, by simp [intsOf, List.getD_eq_getElem?_getD, show i < s.length by omega]⟩
      rw [drop_get (l := intsOf s) default (by omega), hc, puiN] at he
      have hx := hex_ok c
      unfold hexOk at hx
      simp only [Bool.and_eq_true, decide_eq_true_eq] at hx
      obtain ⟨⟨⟨x1, x2⟩, x3⟩, x4⟩ := hx
      have hcb : (c.toNat : Int) < 256 := by have := c.toNat_lt; omega
      refine ⟨fun _ => ⟨by omega, by rw [Int.toNat_natCast]; omega, ?_⟩, fun h => (Bool.false_ne_true (h.symm.trans hn)).elim⟩
      rw [Int.toNat_natCast, hc]
      have j105 : 0 ≤ hexD (c.toNat : Int) ∨ (decide (97 ≤ sclM (c.toNat : Int)) && decide (sclM (c.toNat : Int) ≤ 122)) = true → puij105 s (fun r r1 => (r, r1) = puiN (intsOf s) 0) (c.toNat : Int) n (i : Int) (puil92 s (fun r r1 => (r, r1) = puiN (intsOf s) 0) (k + 1)) := by
        intro hor
        have hd : (if (decide (48 ≤ (c.toNat : Int)) && decide ((c.toNat : Int) ≤ 57)) = true then IntKind.wrap .u8 ((c.toNat : Int) - 48) else IntKind.wrap .u8 (IntKind.wrap .u8 (sclM (c.toNat : Int) - 97) + 10)) = (if decide (hexD (c.toNat : Int) < 0) = true then (if (decide (48 ≤ (c.toNat : Int)) && decide ((c.toNat : Int) ≤ 57)) = true then IntKind.wrap .u8 ((c.toNat : Int) - 48) else IntKind.wrap .u8 (IntKind.wrap .u8 (sclM (c.toNat : Int) - 97) + 10)) else hexD (c.toNat : Int)) := by
          cases hneg : decide (hexD (c.toNat : Int) < 0)
          · have hneg := of_decide_eq_false hneg
            unfold hexD at hneg ⊢
            split
            · rename_i h1
              rw [Bool.and_eq_true, decide_eq_true_eq, decide_eq_true_eq] at h1
              rw [u8w (by omega)]; rfl
            · rename_i h1
              rw [if_neg h1] at hneg
              split at hneg
              · rename_i h2
                rw [if_pos h2]
                rw [Bool.and_eq_true, decide_eq_true_eq, decide_eq_true_eq] at h2
                split at hneg
                · omega
                · rename_i h3
                  rw [if_neg h3, u8w (x := sclM (c.toNat : Int) - 97) (by omega), u8w (by omega)]; rfl
              · omega
          · rfl
        unfold puij105
        rw [Int.toNat_natCast, hc]
        cases hneg : decide (hexD (c.toNat : Int) < 0)
        · rw [hneg] at hd he
          rw [if_f rfl] at hd he
          rw [hd]
          have hneg := of_decide_eq_false hneg
          refine ⟨fun h => absurd (of_decide_eq_true h) (by omega), fun _ => ⟨fun h => by rw [if_t h] at he; exact he.symm, fun h => ?_⟩⟩
          rw [if_f h] at he
          have hlt := of_decide_eq_false h
          rw [u64w (x := n * 16) (by omega), u64w (x := hexD (c.toNat : Int)) (by omega), u64w (x := n * 16 + hexD (c.toNat : Int)) (by omega), w64 (by omega)]
          have hno : (decide (n * 16 + hexD (c.toNat : Int) < n * 16) || decide (n * 16 + hexD (c.toNat : Int) > 18446744073709551615)) = false := by
            rw [decide_eq_false (by omega), decide_eq_false (by omega)]; rfl
          refine ⟨fun h => (Bool.false_ne_true (hno.symm.trans h)).elim, fun _ => ih (i + 1) _ (by omega) (by omega) (by omega) he⟩
        · rw [hneg, if_t rfl] at he
          have hneg := of_decide_eq_true hneg
          rcases hor with hor | hor
          · omega
          · have h3 : (decide (48 ≤ (c.toNat : Int)) && decide ((c.toNat : Int) ≤ 57)) = false := by
              rw [Bool.eq_false_iff]
              intro h3
              unfold hexD at hneg
              rw [if_pos h3] at hneg
              rw [Bool.and_eq_true, decide_eq_true_eq, decide_eq_true_eq] at h3
              omega
            have h4 := hor
            rw [Bool.and_eq_true, decide_eq_true_eq, decide_eq_true_eq] at h4
            have hge : sclM (c.toNat : Int) - 97 + 10 ≥ 16 := by
              unfold hexD at hneg
              rw [if_f h3, if_t hor] at hneg
              split at hneg
              · rename_i h5; exact of_decide_eq_true h5
              · rename_i h5; omega
            rw [h3, if_f rfl, u8w (x := sclM (c.toNat : Int) - 97) (by omega), u8w (by omega)]
            exact ⟨fun _ => he.symm, fun h => absurd hge (of_decide_eq_false h)⟩
      have j117 : (decide (48 ≤ (c.toNat : Int)) && decide ((c.toNat : Int) ≤ 57)) = false → puij117 s (fun r r1 => (r, r1) = puiN (intsOf s) 0) (c.toNat : Int) n (i : Int) (puil92 s (fun r r1 => (r, r1) = puiN (intsOf s) 0) (k + 1)) := by
        intro hnd
        refine ⟨fun h => j105 (.inr h), fun h => ?_⟩
        have : hexD (c.toNat : Int) = -1 := by unfold hexD; rw [if_f hnd, if_f h]
        rw [this, if_t (by decide)] at he
        exact he.symm
      refine ⟨fun h => j105 (.inl ?_), fun h => ⟨fun _ => j117 h, fun _ => j117 h⟩⟩
      unfold hexD
      rw [if_t h]
      rw [Bool.and_eq_true, decide_eq_true_eq, decide_eq_true_eq] at h
      omega
  exact ⟨_, loop s.length 0 0 (by omega) (by omega) (by omega) rfl⟩
set_option linter.unusedVariables false in
theorem pui_c {g : Ghost} (xs : List UInt8)  (hp : puiP xs) : CallsH Tryd.prog 98 #[.string ⟨⟨xs⟩⟩, .int .i64 16, .int .i64 64] g [] (fun g' H' v => v = .tuple #[.int .u64 ((puiS xs).1), (errV 137 ((puiS xs).2))] ∧ H' = []) :=
  (pui_ok xs _ (pui_F xs hp)).mono (by rintro g' H' v _ ⟨r0, r1, rfl, rfl, hK⟩; obtain ⟨rfl, rfl⟩ : r0 = (puiS xs).1 ∧ r1 = (puiS xs).2 := ⟨congrArg (fun z => z.1) hK, congrArg (fun z => z.2) hK⟩; exact ⟨rfl, rfl⟩)
theorem puiN_err : ∀ (l : List Int) (n : Int), (puiN l n).2 = 0 ∨ (puiN l n).2 = 1 ∨ (puiN l n).2 = 2
  | [], n => .inl rfl
  | c :: l, n => by
    rw [puiN]; repeat' split
    · exact .inr (.inr rfl)
    · exact .inr (.inl rfl)
    · exact puiN_err l _
def puF (xs : List UInt8) (K : Int → Bool → Prop) : Prop :=
  puiP xs ∧ (((((puiS xs).2) == 0)) = true → K ((puiS xs).1) true) ∧ (((((puiS xs).2) == 0)) = false → toeP ([80, 97, 114, 115, 101, 85, 105, 110, 116] : List UInt8) xs 16 64 ((puiS xs).2) ∧ (((toeS ([80, 97, 114, 115, 101, 85, 105, 110, 116] : List UInt8) xs 16 64 ((puiS xs).2))) = true → K ((puiS xs).1) true) ∧ (((toeS ([80, 97, 114, 115, 101, 85, 105, 110, 116] : List UInt8) xs 16 64 ((puiS xs).2))) = false → K ((puiS xs).1) false))
set_option maxHeartbeats 4000000 in
set_option maxRecDepth 100000 in
set_option linter.unusedVariables false in
theorem pu_ok {g : Ghost} (xs : List UInt8) (hG3 : SomeIf g 3) (hG4 : SomeIf g 4) (K : Int → Bool → Prop)
    (hF : puF xs K) : CallsH Tryd.prog 71 #[.string ⟨⟨xs⟩⟩, .int .i64 16, .int .i64 64] g [] (fun g' H' v => ∃ (r0 : Int), ∃ (r1 : Bool), ∃ (ir1 : Value), v = .tuple #[.int .u64 r0, ir1] ∧ IfV ir1 r1 ∧ H' = [] ∧ K r0 r1) := by
  refine CallsH.enter 26 [(0, .string ⟨⟨xs⟩⟩), (1, .int .i64 16), (2, .int .i64 64)] Tryd.func71 rfl (by kernel_rfl) (by kernel_rfl) (by kernel_rfl) fun w0 => ?_
  refine Ok.seq ?_
  refine Ok.region ?_
  refine Ok.batch 2 [(0, .string ⟨⟨xs⟩⟩), (1, .int .i64 16), (2, .int .i64 64)] (by kernel_rfl) ?_
  refine Ok.nil ?_
  refine Ok.thenN ?_
  refine Ok.seq ?_
  refine Ok.region ?_
  refine Ok.batch 3 [(0, .string ⟨⟨xs⟩⟩), (1, .int .i64 16), (2, .int .i64 64), (11, .string ⟨⟨xs⟩⟩), (12, .int .i64 16), (13, .int .i64 64)] (by kernel_rfl) ?_
  obtain ⟨hp1, hF⟩ := hF
  refine Ok.op rfl (OpOk.callH [] [] (enters (by kernel_rfl) (fun _ => by kernel_rfl)) rfl (pui_c xs hp1) rfl fun g2 _ _ hx2 hV2 => ?_)
  obtain ⟨rfl, rfl⟩ := hV2
  replace hG3 := hG3.mono hx2.1
  replace hG4 := hG4.mono hx2.1
  refine Ok.split (((puiS xs).2) == 0) (fun hc3 => ?_) (fun hc3 => ?_)
  · replace hF := hF.1 hc3
    refine Ok.reval 14 rfl (show (.tuple #[.int .u64 ((puiS xs).1), (errV 137 ((puiS xs).2))] : Value) = .tuple #[.int .u64 ((puiS xs).1), .nilIface] from by rw [errV_nil hc3]) ?_
    refine Ok.batch 5 [(0, .string ⟨⟨xs⟩⟩), (1, .int .i64 16), (2, .int .i64 64), (8, .int .u64 ((puiS xs).1)), (9, .nilIface)] (by kernel_rfl) ?_
    refine Ok.nil ?_
    refine Ok.thenN ?_
    refine Ok.seq ?_
    refine Ok.seq ?_
    refine Ok.region ?_
    refine Ok.batch 2 [(0, .string ⟨⟨xs⟩⟩), (1, .int .i64 16), (2, .int .i64 64), (8, .int .u64 ((puiS xs).1)), (9, .nilIface), (18, .bool false)] (by kernel_rfl) ?_
    refine Ok.nil ?_
    refine Ok.thenN ?_
    refine Ok.cond (b := false) rfl (fun h => by cases h) (fun _ => ?_)
    refine Ok.skip ?_
    refine Ok.thenN ?_
    refine Ok.seq ?_
    refine Ok.region ?_
    refine Ok.batch 3 [(6, .int .u64 ((puiS xs).1)), (7, .nilIface)] (by kernel_rfl) ?_
    refine Ok.nil ?_
    refine Ok.thenN ?_
    refine Ok.ret ?_
    exact Ok.resH (vs := [.int .u64 ((puiS xs).1), .nilIface]) (.inl rfl) rfl (.cons (.tmp rfl) (.cons (.tmp rfl) .nil)) hx2 ⟨((puiS xs).1), true, .nilIface, rfl, rfl, rfl, hF⟩
  · replace hF := hF.2 hc3
    refine Ok.reval 14 rfl (show (.tuple #[.int .u64 ((puiS xs).1), (errV 137 ((puiS xs).2))] : Value) = .tuple #[.int .u64 ((puiS xs).1), .iface 137 (.int .i64 ((puiS xs).2))] from by rw [errV_some hc3]) ?_
    refine Ok.batch 5 [(0, .string ⟨⟨xs⟩⟩), (1, .int .i64 16), (2, .int .i64 64), (8, .int .u64 ((puiS xs).1)), (9, .iface 137 (.int .i64 ((puiS xs).2)))] (by kernel_rfl) ?_
    refine Ok.nil ?_
    refine Ok.thenN ?_
    refine Ok.seq ?_
    refine Ok.seq ?_
    refine Ok.region ?_
    refine Ok.batch 2 [(0, .string ⟨⟨xs⟩⟩), (1, .int .i64 16), (2, .int .i64 64), (8, .int .u64 ((puiS xs).1)), (9, .iface 137 (.int .i64 ((puiS xs).2))), (18, .bool true)] (by kernel_rfl) ?_
    refine Ok.nil ?_
    refine Ok.thenN ?_
    refine Ok.cond (b := true) rfl (fun _ => ?_) (fun h => by cases h)
    refine Ok.seq ?_
    refine Ok.region ?_
    refine Ok.batch 5 [(19, .int .u64 ((puiS xs).1)), (20, .string ⟨⟨xs⟩⟩), (21, .int .i64 16), (22, .int .i64 64), (23, .iface 137 (.int .i64 ((puiS xs).2)))] (by kernel_rfl) ?_
    obtain ⟨hp4, hF⟩ := hF
    refine Ok.op rfl (OpOk.callH [] [] (enters (by kernel_rfl) (fun _ => by kernel_rfl)) rfl (toe_c ([80, 97, 114, 115, 101, 85, 105, 110, 116] : List UInt8) xs 16 64 ((puiS xs).2) hG3 hG4 hp4) rfl fun g5 _ _ hx5 hV5 => ?_)
    obtain ⟨i5_0, hve5, hI5_0, rfl⟩ := hV5
    replace hve5 := hve5.symm
    subst hve5
    replace hG3 := hG3.mono hx5.1
    replace hG4 := hG4.mono hx5.1
    refine Ok.split (toeS ([80, 97, 114, 115, 101, 85, 105, 110, 116] : List UInt8) xs 16 64 ((puiS xs).2)) (fun hc6 => ?_) (fun hc6 => ?_)
    · replace hF := hF.1 hc6
      replace hI5_0 : i5_0 = .nilIface := by rw [hc6] at hI5_0; exact hI5_0
      subst hI5_0
      refine Ok.batch 2 [(6, .int .u64 ((puiS xs).1)), (7, .nilIface)] (by kernel_rfl) ?_
      refine Ok.nil ?_
      refine Ok.thenN ?_
      refine Ok.ret ?_
      refine Ok.thenR ?_
      exact Ok.resH (vs := [.int .u64 ((puiS xs).1), .nilIface]) (.inl rfl) rfl (.cons (.tmp rfl) (.cons (.tmp rfl) .nil)) (hx2.trans hx5) ⟨((puiS xs).1), true, .nilIface, rfl, rfl, rfl, hF⟩
    · replace hF := hF.2 hc6
      rw [hc6] at hI5_0
      obtain ⟨t5_0, p5_0, rfl⟩ := hI5_0
      refine Ok.batch 2 [(6, .int .u64 ((puiS xs).1)), (7, .iface t5_0 p5_0)] (by kernel_rfl) ?_
      refine Ok.nil ?_
      refine Ok.thenN ?_
      refine Ok.ret ?_
      refine Ok.thenR ?_
      exact Ok.resH (vs := [.int .u64 ((puiS xs).1), .iface t5_0 p5_0]) (.inl rfl) rfl (.cons (.tmp rfl) (.cons (.tmp rfl) .nil)) (hx2.trans hx5) ⟨((puiS xs).1), false, (.iface t5_0 p5_0), rfl, ⟨_, _, rfl⟩, rfl, hF⟩
def puS (s : List UInt8) : Int × Bool := ((puiS s).1, (puiS s).2 == 0)
theorem pu_F (s : List UInt8) (hp : puiP s) : puF s (fun r r1 => (r, r1) = puS s) := by
  unfold puS
  refine ⟨hp, fun h => by rw [h], fun h => ⟨⟨by unfold puiP at hp; omega, ?_⟩, fun h2 => (by cases h2), fun _ => by rw [h]⟩⟩
  have h' : ¬ (puiS s).2 = 0 := by simpa using h
  unfold puiS at h' ⊢
  by_cases hs : (s == []) = true
  · rw [if_pos hs]; exact .inr rfl
  · rw [if_neg hs] at h' ⊢
    rcases puiN_err (intsOf s) 0 with h1 | h1 | h1
    · exact absurd h1 h'
    · exact .inl h1
    · exact .inr h1
set_option linter.unusedVariables false in
theorem pu_c {g : Ghost} (xs : List UInt8) (hG3 : SomeIf g 3) (hG4 : SomeIf g 4)  (hp : puiP xs) : CallsH Tryd.prog 71 #[.string ⟨⟨xs⟩⟩, .int .i64 16, .int .i64 64] g [] (fun g' H' v => ∃ (ir1 : Value), v = .tuple #[.int .u64 ((puS xs).1), ir1] ∧ IfV ir1 ((puS xs).2) ∧ H' = []) :=
  (pu_ok xs hG3 hG4 _ (pu_F xs hp)).mono (by rintro g' H' v _ ⟨r0, r1, ir1, rfl, hIr1, rfl, hK⟩; obtain ⟨rfl, rfl⟩ : r0 = (puS xs).1 ∧ r1 = (puS xs).2 := ⟨congrArg (fun z => z.1) hK, congrArg (fun z => z.2) hK⟩; exact ⟨ir1, rfl, hIr1, rfl⟩)
end Go.Proofs.YteocjdpjpkjlaaaDoor.Co
