/- csstok: numbers, names, and the first token of a text. -/
import Derived.Test.YtjehllphdpkjeaaGreatDoorCss
import Derived.Test.YtjehllphdpkjeaaGreatDoorTrm
namespace Go.Proofs.YtjehllphdpkjeaaGreatDoor.Css
open Go Go.Eng Bld Trm
set_option linter.unusedVariables false
def slhpj3 (xs : List UInt8) (xprefix : List UInt8) (K : Bool → Prop) : Prop :=
  K ((decide ((xs.length : Int) ≥ (xprefix.length : Int))) && ((xs.take (Int.toNat (xprefix.length : Int))) == xprefix))
def slhpF (xs : List UInt8) (xprefix : List UInt8) (K : Bool → Prop) : Prop :=
  ((decide ((xs.length : Int) ≥ (xprefix.length : Int))) = true → (0 : Int) ≤ 0 ∧ (0 : Int) ≤ (xprefix.length : Int) ∧ (xprefix.length : Int) ≤ (xs.length : Int) ∧ slhpj3 xs xprefix K) ∧ ((decide ((xs.length : Int) ≥ (xprefix.length : Int))) = false → slhpj3 xs xprefix K)
set_option maxHeartbeats 4000000 in
set_option maxRecDepth 100000 in
set_option linter.unusedVariables false in
theorem slhp_ok {g : Ghost} (xs : List UInt8) (xprefix : List UInt8) (K : Bool → Prop)
    (hF : slhpF xs xprefix K) : CallsH Tryz.prog 55 #[.string ⟨⟨xs⟩⟩, .string ⟨⟨xprefix⟩⟩] g [] (fun g' H' v => ∃ (r0 : Bool), v = .bool r0 ∧ H' = [] ∧ K r0) := by
  refine CallsH.enter 18 [(0, .string ⟨⟨xs⟩⟩), (1, .string ⟨⟨xprefix⟩⟩)] Tryz.func55 rfl (by kernel_rfl) (by kernel_rfl) (by kernel_rfl) fun w0 => ?_
  refine Ok.seq ?_
  refine Ok.region ?_
  refine Ok.batch 1 [(0, .string ⟨⟨xs⟩⟩), (1, .string ⟨⟨xprefix⟩⟩)] (by kernel_rfl) ?_
  refine Ok.nil ?_
  refine Ok.thenN ?_
  refine Ok.cut (fun a W => StA 18 [(4, .bool ((decide ((xs.length : Int) ≥ (xprefix.length : Int))) && ((xs.take (Int.toNat (xprefix.length : Int))) == xprefix)))] a ∧ StW w0 [] g W ∧ slhpj3 xs xprefix K) ?_ ?_
  ·
    refine Ok.region ?_
    refine Ok.batch 6 [(0, .string ⟨⟨xs⟩⟩), (1, .string ⟨⟨xprefix⟩⟩), (10, .bool (decide ((xs.length : Int) ≥ (xprefix.length : Int))))] (by kernel_rfl) ?_
    refine Ok.boolAt 10 (decide ((xs.length : Int) ≥ (xprefix.length : Int))) rfl (fun hc1 => ?_) (fun hc1 => ?_)
    · replace hF := hF.1 hc1
      refine Ok.batch 3 [(1, .string ⟨⟨xprefix⟩⟩), (10, .bool true), (11, .string ⟨⟨xs⟩⟩), (13, .int .i64 (xprefix.length : Int))] (by kernel_rfl) ?_
      obtain ⟨h02, h12, h22, hF⟩ := hF
      refine Ok.opYes (j := 5) (d := 10) (want := true) (b := true) rfl (by kernel_rfl) (by kernel_rfl) rfl (OpOk.step (v := .string ⟨⟨xs.take (Int.toNat (xprefix.length : Int))⟩⟩) (Yields.sliceStr (s := xs) (l := 0) (h := (xprefix.length : Int)) (by kernel_rfl) Tryz.underlying9 (.inr ⟨rfl, rfl⟩) (.inl ⟨_, _, rfl, rfl⟩) h02 h12 h22 (xs.take (Int.toNat (xprefix.length : Int))) (by simp)) rfl rfl ?_)
      refine Ok.batch 1 [(10, .bool true), (14, .string ⟨⟨xs.take (Int.toNat (xprefix.length : Int))⟩⟩), (15, .string ⟨⟨xprefix⟩⟩)] (by kernel_rfl) ?_
      refine Ok.opYes (j := 5) (d := 10) (want := true) (b := true) rfl (by kernel_rfl) (by kernel_rfl) rfl (OpOk.step (v := .bool ((xs.take (Int.toNat (xprefix.length : Int))) == xprefix)) (Yields.strCmp (f := .eql) (a := (xs.take (Int.toNat (xprefix.length : Int)))) (b := xprefix) (by kernel_rfl) (by kernel_rfl) rfl) rfl rfl ?_)
      refine Ok.batch 2 [(4, .bool ((xs.take (Int.toNat (xprefix.length : Int))) == xprefix))] (by kernel_rfl) ?_
      refine Ok.nil ?_
      refine Ok.thenN ?_
      refine Ok.reval 4 rfl (show (.bool ((xs.take (Int.toNat (xprefix.length : Int))) == xprefix) : Value) = .bool ((decide ((xs.length : Int) ≥ (xprefix.length : Int))) && ((xs.take (Int.toNat (xprefix.length : Int))) == xprefix)) from congrArg (Value.bool) (mand_t hc1)) ?_
      exact fun a W hA hW => ⟨hA.sub (by kernel_rfl), hW, hF⟩
    · replace hF := hF.2 hc1
      refine Ok.batch 8 [(4, .bool false)] (by kernel_rfl) ?_
      refine Ok.nil ?_
      refine Ok.thenN ?_
      refine Ok.reval 4 rfl (show (.bool false : Value) = .bool ((decide ((xs.length : Int) ≥ (xprefix.length : Int))) && ((xs.take (Int.toNat (xprefix.length : Int))) == xprefix)) from congrArg (Value.bool) (mand_f hc1)) ?_
      exact fun a W hA hW => ⟨hA.sub (by kernel_rfl), hW, hF⟩
  ·
    clear hF
    rintro a W ⟨hA, hW, hF⟩
    refine (?_ : Ok _ _ _ _ _ _) a W hA hW
    clear hA hW
    refine Ok.ret ?_
    exact Ok.resH (vs := [.bool ((decide ((xs.length : Int) ≥ (xprefix.length : Int))) && ((xs.take (Int.toNat (xprefix.length : Int))) == xprefix))]) (.inl rfl) rfl (.cons (.tmp rfl) .nil) (Gext.refl w0 g) ⟨((decide ((xs.length : Int) ≥ (xprefix.length : Int))) && ((xs.take (Int.toNat (xprefix.length : Int))) == xprefix)), rfl, rfl, hF⟩
def slhpj3M (xs : List UInt8) (xprefix : List UInt8) : Bool := ((decide ((xs.length : Int) ≥ (xprefix.length : Int))) && ((xs.take (Int.toNat (xprefix.length : Int))) == xprefix))
set_option linter.unusedSimpArgs false in
set_option linter.unusedVariables false in
theorem slhpj3_A (xs : List UInt8) (xprefix : List UInt8) (P : Bool → Prop) (h : P (slhpj3M xs xprefix)) : slhpj3 xs xprefix (fun k0 => P k0) := by
  unfold slhpj3M at h
  unfold slhpj3
  exact h
def slhpM (xs : List UInt8) (xprefix : List UInt8) : Bool := (slhpj3M xs xprefix)
set_option linter.unusedSimpArgs false in
set_option linter.unusedVariables false in
theorem slhpF_A (xs : List UInt8) (xprefix : List UInt8) (P : Bool → Prop) (h : P (slhpM xs xprefix)) : slhpF xs xprefix (fun k0 => P k0) := by
  unfold slhpM at h
  unfold slhpF
  refine ⟨fun hc0 => ?_, fun hc0 => ?_⟩
  · skip
    have hd0 := of_decide_eq_true hc0
    refine ⟨?_, ?_, ?_, ?_⟩
    · first | omega | assumption | exact trivial | (have h0 := List.length_pos_iff.mpr (by assumption); omega) | (simp; omega) | (simp at *; omega)
    · first | omega | assumption | exact trivial | (have h0 := List.length_pos_iff.mpr (by assumption); omega) | (simp; omega) | (simp at *; omega)
    · first | omega | assumption | exact trivial | (have h0 := List.length_pos_iff.mpr (by assumption); omega) | (simp; omega) | (simp at *; omega)
    exact slhpj3_A xs xprefix _ h
  · skip
    have hd0 := of_decide_eq_false hc0
    exact slhpj3_A xs xprefix _ h
theorem slhp_F (xs : List UInt8) (xprefix : List UInt8) : slhpF xs xprefix (fun k0 => k0 = slhpM xs xprefix) :=
  slhpF_A xs xprefix (fun z => z = slhpM xs xprefix) rfl
set_option linter.unusedVariables false in
theorem slhp_c {g : Ghost} (xs : List UInt8) (xprefix : List UInt8)  : CallsG Tryz.prog 55 #[.string ⟨⟨xs⟩⟩, .string ⟨⟨xprefix⟩⟩] g (.bool (slhpM xs xprefix)) :=
  (slhp_ok xs xprefix _ (slhp_F xs xprefix)).gives (by rintro g' H' v _ ⟨r0, rfl, rfl, hK⟩; subst hK; rfl)
def hpF (xs : List UInt8) (xprefix : List UInt8) (K : Bool → Prop) : Prop :=
  K (slhpM xs xprefix)
set_option maxHeartbeats 4000000 in
set_option maxRecDepth 100000 in
set_option linter.unusedVariables false in
theorem hp_ok {g : Ghost} (xs : List UInt8) (xprefix : List UInt8) (K : Bool → Prop)
    (hF : hpF xs xprefix K) : CallsH Tryz.prog 37 #[.string ⟨⟨xs⟩⟩, .string ⟨⟨xprefix⟩⟩] g [] (fun g' H' v => ∃ (r0 : Bool), v = .bool r0 ∧ H' = [] ∧ K r0) := by
  refine CallsH.enter 8 [(0, .string ⟨⟨xs⟩⟩), (1, .string ⟨⟨xprefix⟩⟩)] Tryz.func37 rfl (by kernel_rfl) (by kernel_rfl) (by kernel_rfl) fun w0 => ?_
  refine Ok.seq ?_
  refine Ok.region ?_
  refine Ok.batch 1 [(0, .string ⟨⟨xs⟩⟩), (1, .string ⟨⟨xprefix⟩⟩)] (by kernel_rfl) ?_
  refine Ok.nil ?_
  refine Ok.thenN ?_
  refine Ok.seq ?_
  refine Ok.region ?_
  refine Ok.batch 2 [(5, .string ⟨⟨xs⟩⟩), (6, .string ⟨⟨xprefix⟩⟩)] (by kernel_rfl) ?_
  refine Ok.op rfl (OpOk.callG (v := .bool (slhpM xs xprefix)) (enters (by kernel_rfl) (fun _ => by kernel_rfl)) (fun W hW => slhp_c xs xprefix) rfl ?_)
  refine Ok.batch 1 [(4, .bool (slhpM xs xprefix))] (by kernel_rfl) ?_
  refine Ok.nil ?_
  refine Ok.thenN ?_
  refine Ok.ret ?_
  exact Ok.resH (vs := [.bool (slhpM xs xprefix)]) (.inl rfl) rfl (.cons (.tmp rfl) .nil) (Gext.refl w0 g) ⟨(slhpM xs xprefix), rfl, rfl, hF⟩
def hpM (xs : List UInt8) (xprefix : List UInt8) : Bool := (slhpM xs xprefix)
set_option linter.unusedSimpArgs false in
set_option linter.unusedVariables false in
theorem hpF_A (xs : List UInt8) (xprefix : List UInt8) (P : Bool → Prop) (h : P (hpM xs xprefix)) : hpF xs xprefix (fun k0 => P k0) := by
  unfold hpM at h
  unfold hpF
  exact h
theorem hp_F (xs : List UInt8) (xprefix : List UInt8) : hpF xs xprefix (fun k0 => k0 = hpM xs xprefix) :=
  hpF_A xs xprefix (fun z => z = hpM xs xprefix) rfl
set_option linter.unusedVariables false in
theorem hp_c {g : Ghost} (xs : List UInt8) (xprefix : List UInt8)  : CallsG Tryz.prog 37 #[.string ⟨⟨xs⟩⟩, .string ⟨⟨xprefix⟩⟩] g (.bool (hpM xs xprefix)) :=
  (hp_ok xs xprefix _ (hp_F xs xprefix)).gives (by rintro g' H' v _ ⟨r0, rfl, rfl, hK⟩; subst hK; rfl)
theorem slhp_len {s p : List UInt8} (h : slhpM s p = true) : p.length ≤ s.length := by
  unfold slhpM slhpj3M at h
  simp at h
  omega
def slcpF (xs : List UInt8) (xprefix : List UInt8) (K : (List UInt8) → Bool → Prop) : Prop :=
  ((!(slhpM xs xprefix)) = true → K xs false) ∧ ((!(slhpM xs xprefix)) = false → (0 : Int) ≤ (xprefix.length : Int) ∧ ((xprefix.length : Int) : Int) ≤ (xs.length : Int) ∧ (xs.length : Int) ≤ (xs.length : Int) ∧ K (xs.drop (Int.toNat (xprefix.length : Int))) true)
set_option maxHeartbeats 4000000 in
set_option maxRecDepth 100000 in
set_option linter.unusedVariables false in
theorem slcp_ok {g : Ghost} (xs : List UInt8) (xprefix : List UInt8) (K : (List UInt8) → Bool → Prop)
    (hF : slcpF xs xprefix K) : CallsH Tryz.prog 45 #[.string ⟨⟨xs⟩⟩, .string ⟨⟨xprefix⟩⟩] g [] (fun g' H' v => ∃ (r0 : List UInt8), ∃ (r1 : Bool), v = .tuple #[.string ⟨⟨r0⟩⟩, .bool r1] ∧ H' = [] ∧ K r0 r1) := by
  refine CallsH.enter 15 [(0, .string ⟨⟨xs⟩⟩), (1, .string ⟨⟨xprefix⟩⟩)] Tryz.func45 rfl (by kernel_rfl) (by kernel_rfl) (by kernel_rfl) fun w0 => ?_
  refine Ok.seq ?_
  refine Ok.region ?_
  refine Ok.batch 2 [(0, .string ⟨⟨xs⟩⟩), (1, .string ⟨⟨xprefix⟩⟩)] (by kernel_rfl) ?_
  refine Ok.nil ?_
  refine Ok.thenN ?_
  refine Ok.seq ?_
  refine Ok.seq ?_
  refine Ok.region ?_
  refine Ok.batch 2 [(0, .string ⟨⟨xs⟩⟩), (1, .string ⟨⟨xprefix⟩⟩), (6, .string ⟨⟨xs⟩⟩), (7, .string ⟨⟨xprefix⟩⟩)] (by kernel_rfl) ?_
  refine Ok.op rfl (OpOk.callG (v := .bool (slhpM xs xprefix)) (enters (by kernel_rfl) (fun _ => by kernel_rfl)) (fun W hW => slhp_c xs xprefix) rfl ?_)
  refine Ok.batch 1 [(0, .string ⟨⟨xs⟩⟩), (1, .string ⟨⟨xprefix⟩⟩), (9, .bool (!(slhpM xs xprefix)))] (by kernel_rfl) ?_
  refine Ok.nil ?_
  refine Ok.thenN ?_
  refine Ok.cond (b := !(slhpM xs xprefix)) rfl (fun hc1 => ?_) (fun hc1 => ?_)
  · replace hF := hF.1 hc1
    refine Ok.seq ?_
    refine Ok.region ?_
    refine Ok.batch 3 [(4, .string ⟨⟨xs⟩⟩), (5, .bool false)] (by kernel_rfl) ?_
    refine Ok.nil ?_
    refine Ok.thenN ?_
    refine Ok.ret ?_
    refine Ok.thenR ?_
    exact Ok.resH (vs := [.string ⟨⟨xs⟩⟩, .bool false]) (.inl rfl) rfl (.cons (.tmp rfl) (.cons (.tmp rfl) .nil)) (Gext.refl w0 g) ⟨xs, false, rfl, rfl, hF⟩
  · replace hF := hF.2 hc1
    refine Ok.skip ?_
    refine Ok.thenN ?_
    refine Ok.seq ?_
    refine Ok.region ?_
    refine Ok.batch 3 [(11, .string ⟨⟨xs⟩⟩), (13, .int .i64 (xprefix.length : Int))] (by kernel_rfl) ?_
    obtain ⟨h02, h12, h22, hF⟩ := hF
    refine Ok.op rfl (OpOk.step (v := .string ⟨⟨xs.drop (Int.toNat (xprefix.length : Int))⟩⟩) (Yields.sliceStr (s := xs) (l := (xprefix.length : Int)) (h := (xs.length : Int)) (by kernel_rfl) Tryz.underlying9 (.inl ⟨_, _, rfl, rfl⟩) (.inr ⟨rfl, rfl⟩) h02 h12 h22 (xs.drop (Int.toNat (xprefix.length : Int))) (by rw [show ((xs.length : Int)).toNat = xs.length from Int.toNat_natCast _, List.take_length])) rfl rfl ?_)
    refine Ok.batch 2 [(4, .string ⟨⟨xs.drop (Int.toNat (xprefix.length : Int))⟩⟩), (5, .bool true)] (by kernel_rfl) ?_
    refine Ok.nil ?_
    refine Ok.thenN ?_
    refine Ok.ret ?_
    exact Ok.resH (vs := [.string ⟨⟨xs.drop (Int.toNat (xprefix.length : Int))⟩⟩, .bool true]) (.inl rfl) rfl (.cons (.tmp rfl) (.cons (.tmp rfl) .nil)) (Gext.refl w0 g) ⟨(xs.drop (Int.toNat (xprefix.length : Int))), true, rfl, rfl, hF⟩
def slcpM (xs : List UInt8) (xprefix : List UInt8) : List UInt8 × Bool := (if (!(slhpM xs xprefix)) = true then (xs, false) else (xs.drop (Int.toNat (xprefix.length : Int)), true))
set_option linter.unusedSimpArgs false in
set_option linter.unusedVariables false in
theorem slcpF_A (xs : List UInt8) (xprefix : List UInt8) (P : List UInt8 × Bool → Prop) (h : P (slcpM xs xprefix)) : slcpF xs xprefix (fun k0 k1 => P (k0, k1)) := by
  unfold slcpM at h
  unfold slcpF
  refine ⟨fun hc0 => ?_, fun hc0 => ?_⟩
  · rw [if_t hc0] at h
    exact h
  · rw [if_f hc0] at h
    refine ⟨?_, ?_, ?_, ?_⟩
    · first | (have h7 := slhp_len (by simpa using hc0); omega) | omega | assumption | exact trivial | (have h0 := List.length_pos_iff.mpr (by assumption); omega) | (simp; omega) | (simp at *; omega)
    · first | (have h7 := slhp_len (by simpa using hc0); omega) | omega | assumption | exact trivial | (have h0 := List.length_pos_iff.mpr (by assumption); omega) | (simp; omega) | (simp at *; omega)
    · first | (have h7 := slhp_len (by simpa using hc0); omega) | omega | assumption | exact trivial | (have h0 := List.length_pos_iff.mpr (by assumption); omega) | (simp; omega) | (simp at *; omega)
    exact h
theorem slcp_F (xs : List UInt8) (xprefix : List UInt8) : slcpF xs xprefix (fun k0 k1 => (k0, k1) = slcpM xs xprefix) :=
  slcpF_A xs xprefix (fun z => z = slcpM xs xprefix) rfl
set_option linter.unusedVariables false in
theorem slcp_c {g : Ghost} (xs : List UInt8) (xprefix : List UInt8)  : CallsG Tryz.prog 45 #[.string ⟨⟨xs⟩⟩, .string ⟨⟨xprefix⟩⟩] g (.tuple #[.string ⟨⟨((slcpM xs xprefix).1)⟩⟩, .bool ((slcpM xs xprefix).2)]) :=
  (slcp_ok xs xprefix _ (slcp_F xs xprefix)).gives (by rintro g' H' v _ ⟨r0, r1, rfl, rfl, hK⟩; obtain ⟨rfl, rfl⟩ : r0 = (slcpM xs xprefix).1 ∧ r1 = (slcpM xs xprefix).2 := ⟨congrArg (fun z => z.1) hK, congrArg (fun z => z.2) hK⟩; rfl)
def cpF (xs : List UInt8) (xprefix : List UInt8) (K : (List UInt8) → Bool → Prop) : Prop :=
  K ((slcpM xs xprefix).1) ((slcpM xs xprefix).2)
set_option maxHeartbeats 4000000 in
set_option maxRecDepth 100000 in
set_option linter.unusedVariables false in
theorem cp_ok {g : Ghost} (xs : List UInt8) (xprefix : List UInt8) (K : (List UInt8) → Bool → Prop)
    (hF : cpF xs xprefix K) : CallsH Tryz.prog 28 #[.string ⟨⟨xs⟩⟩, .string ⟨⟨xprefix⟩⟩] g [] (fun g' H' v => ∃ (r0 : List UInt8), ∃ (r1 : Bool), v = .tuple #[.string ⟨⟨r0⟩⟩, .bool r1] ∧ H' = [] ∧ K r0 r1) := by
  refine CallsH.enter 11 [(0, .string ⟨⟨xs⟩⟩), (1, .string ⟨⟨xprefix⟩⟩)] Tryz.func28 rfl (by kernel_rfl) (by kernel_rfl) (by kernel_rfl) fun w0 => ?_
  refine Ok.seq ?_
  refine Ok.region ?_
  refine Ok.batch 2 [(0, .string ⟨⟨xs⟩⟩), (1, .string ⟨⟨xprefix⟩⟩)] (by kernel_rfl) ?_
  refine Ok.nil ?_
  refine Ok.thenN ?_
  refine Ok.seq ?_
  refine Ok.region ?_
  refine Ok.batch 2 [(6, .string ⟨⟨xs⟩⟩), (7, .string ⟨⟨xprefix⟩⟩)] (by kernel_rfl) ?_
  refine Ok.op rfl (OpOk.callG (v := .tuple #[.string ⟨⟨(slcpM xs xprefix).1⟩⟩, .bool ((slcpM xs xprefix).2)]) (enters (by kernel_rfl) (fun _ => by kernel_rfl)) (fun W hW => slcp_c xs xprefix) rfl ?_)
  refine Ok.batch 4 [(4, .string ⟨⟨(slcpM xs xprefix).1⟩⟩), (5, .bool ((slcpM xs xprefix).2))] (by kernel_rfl) ?_
  refine Ok.nil ?_
  refine Ok.thenN ?_
  refine Ok.ret ?_
  exact Ok.resH (vs := [.string ⟨⟨(slcpM xs xprefix).1⟩⟩, .bool ((slcpM xs xprefix).2)]) (.inl rfl) rfl (.cons (.tmp rfl) (.cons (.tmp rfl) .nil)) (Gext.refl w0 g) ⟨((slcpM xs xprefix).1), ((slcpM xs xprefix).2), rfl, rfl, hF⟩
def cpM (xs : List UInt8) (xprefix : List UInt8) : List UInt8 × Bool := ((slcpM xs xprefix).1, (slcpM xs xprefix).2)
set_option linter.unusedSimpArgs false in
set_option linter.unusedVariables false in
theorem cpF_A (xs : List UInt8) (xprefix : List UInt8) (P : List UInt8 × Bool → Prop) (h : P (cpM xs xprefix)) : cpF xs xprefix (fun k0 k1 => P (k0, k1)) := by
  unfold cpM at h
  unfold cpF
  exact h
theorem cp_F (xs : List UInt8) (xprefix : List UInt8) : cpF xs xprefix (fun k0 k1 => (k0, k1) = cpM xs xprefix) :=
  cpF_A xs xprefix (fun z => z = cpM xs xprefix) rfl
set_option linter.unusedVariables false in
theorem cp_c {g : Ghost} (xs : List UInt8) (xprefix : List UInt8)  : CallsG Tryz.prog 28 #[.string ⟨⟨xs⟩⟩, .string ⟨⟨xprefix⟩⟩] g (.tuple #[.string ⟨⟨((cpM xs xprefix).1)⟩⟩, .bool ((cpM xs xprefix).2)]) :=
  (cp_ok xs xprefix _ (cp_F xs xprefix)).gives (by rintro g' H' v _ ⟨r0, r1, rfl, rfl, hK⟩; obtain ⟨rfl, rfl⟩ : r0 = (cpM xs xprefix).1 ∧ r1 = (cpM xs xprefix).2 := ⟨congrArg (fun z => z.1) hK, congrArg (fun z => z.2) hK⟩; rfl)
def digitsF (xs : List UInt8) (K : Int → Prop) : Prop :=
  tlP xs ([48, 49, 50, 51, 52, 53, 54, 55, 56, 57] : List UInt8) ∧ K (IntKind.wrap .i64 ((xs.length : Int) - ((tlS xs ([48, 49, 50, 51, 52, 53, 54, 55, 56, 57] : List UInt8)).length : Int)))
set_option maxHeartbeats 4000000 in
set_option maxRecDepth 100000 in
set_option linter.unusedVariables false in
theorem digits_ok {g : Ghost} (xs : List UInt8) (K : Int → Prop)
    (hF : digitsF xs K) : CallsH Tryz.prog 52 #[.string ⟨⟨xs⟩⟩] g [] (fun g' H' v => ∃ (r0 : Int), v = .int .i64 r0 ∧ H' = [] ∧ K r0) := by
  refine CallsH.enter 9 [(0, .string ⟨⟨xs⟩⟩)] Tryz.func52 rfl (by kernel_rfl) (by kernel_rfl) (by kernel_rfl) fun w0 => ?_
  refine Ok.seq ?_
  refine Ok.region ?_
  refine Ok.batch 1 [(0, .string ⟨⟨xs⟩⟩)] (by kernel_rfl) ?_
  refine Ok.nil ?_
  refine Ok.thenN ?_
  refine Ok.seq ?_
  refine Ok.region ?_
  refine Ok.batch 3 [(4, .int .i64 (xs.length : Int)), (5, .string ⟨⟨xs⟩⟩)] (by kernel_rfl) ?_
  obtain ⟨hp1, hF⟩ := hF
  refine Ok.op rfl (OpOk.callG (v := .string ⟨⟨(tlS xs ([48, 49, 50, 51, 52, 53, 54, 55, 56, 57] : List UInt8))⟩⟩) (enters (by kernel_rfl) (fun _ => by kernel_rfl)) (fun W hW => tl_c xs ([48, 49, 50, 51, 52, 53, 54, 55, 56, 57] : List UInt8) hp1) rfl ?_)
  refine Ok.batch 3 [(2, .int .i64 (IntKind.wrap .i64 ((xs.length : Int) - ((tlS xs ([48, 49, 50, 51, 52, 53, 54, 55, 56, 57] : List UInt8)).length : Int))))] (by kernel_rfl) ?_
  refine Ok.nil ?_
  refine Ok.thenN ?_
  refine Ok.ret ?_
  exact Ok.resH (vs := [.int .i64 (IntKind.wrap .i64 ((xs.length : Int) - ((tlS xs ([48, 49, 50, 51, 52, 53, 54, 55, 56, 57] : List UInt8)).length : Int)))]) (.inl rfl) rfl (.cons (.tmp rfl) .nil) (Gext.refl w0 g) ⟨(IntKind.wrap .i64 ((xs.length : Int) - ((tlS xs ([48, 49, 50, 51, 52, 53, 54, 55, 56, 57] : List UInt8)).length : Int))), rfl, rfl, hF⟩
def digitsM (xs : List UInt8) : Int := (IntKind.wrap .i64 ((xs.length : Int) - ((tlS xs ([48, 49, 50, 51, 52, 53, 54, 55, 56, 57] : List UInt8)).length : Int)))
set_option linter.unusedSimpArgs false in
set_option linter.unusedVariables false in
theorem digitsF_A (xs : List UInt8) (P : Int → Prop) (h : P (digitsM xs)) : digitsF xs (fun k0 => P k0) := by
  unfold digitsM at h
  unfold digitsF
  refine ⟨?_, ?_⟩
  · first | exact ⟨by decide, by decide, by decide⟩ | omega | assumption | exact trivial | (have h0 := List.length_pos_iff.mpr (by assumption); omega) | (simp; omega) | (simp at *; omega)
  exact h
theorem digits_F (xs : List UInt8) : digitsF xs (fun k0 => k0 = digitsM xs) :=
  digitsF_A xs (fun z => z = digitsM xs) rfl
set_option linter.unusedVariables false in
theorem digits_c {g : Ghost} (xs : List UInt8)  : CallsG Tryz.prog 52 #[.string ⟨⟨xs⟩⟩] g (.int .i64 (digitsM xs)) :=
  (digits_ok xs _ (digits_F xs)).gives (by rintro g' H' v _ ⟨r0, rfl, rfl, hK⟩; subst hK; rfl)
def numbV0 (xs : List UInt8) : Bool :=
  ((!(xs == ([] : List UInt8))) && ((((xs.getD (Int.toNat 0) 0).toNat : Int) == 43) || (((xs.getD (Int.toNat 0) 0).toNat : Int) == 45)))
def numbV1 (xs : List UInt8) : Int :=
  (if (numbV0 xs) = true then 1 else 0)
def numbV2 (xs : List UInt8) : Int :=
  (if (hpM (xs.drop (Int.toNat (IntKind.wrap .i64 ((numbV1 xs) + (digitsM (xs.drop (Int.toNat (numbV1 xs)))))))) ([46] : List UInt8)) = true then (digitsM ((xs.drop (Int.toNat (IntKind.wrap .i64 ((numbV1 xs) + (digitsM (xs.drop (Int.toNat (numbV1 xs)))))))).drop (Int.toNat 1))) else 0)
def numbV3 (xs : List UInt8) : Int :=
  (if (decide ((numbV2 xs) > 0)) = true then IntKind.wrap .i64 ((IntKind.wrap .i64 ((numbV1 xs) + (digitsM (xs.drop (Int.toNat (numbV1 xs)))))) + (IntKind.wrap .i64 (1 + (numbV2 xs)))) else IntKind.wrap .i64 ((numbV1 xs) + (digitsM (xs.drop (Int.toNat (numbV1 xs))))))
def numbV4 (xs : List UInt8) : List UInt8 :=
  (if (decide ((numbV2 xs) > 0)) = true then (xs.take (Int.toNat (IntKind.wrap .i64 ((IntKind.wrap .i64 ((IntKind.wrap .i64 ((numbV1 xs) + (digitsM (xs.drop (Int.toNat (numbV1 xs)))))) + 1)) + (numbV2 xs))))).drop (Int.toNat (IntKind.wrap .i64 ((IntKind.wrap .i64 ((numbV1 xs) + (digitsM (xs.drop (Int.toNat (numbV1 xs)))))) + 1))) else ([] : List UInt8))
def numbV6 (xs : List UInt8) (x79l68 : Int) (ybs8_0l68 : Int) : Int :=
  (if (decide (x79l68 < ((numbV4 xs).length : Int))) = true then (if 1000000000 < (IntKind.wrap .i64 ((IntKind.wrap .i64 (10 * ybs8_0l68)) + (IntKind.wrap .i64 (IntKind.wrap .u8 ((((numbV4 xs).getD (Int.toNat x79l68) 0).toNat : Int) - 48))))) then 1000000000 else (IntKind.wrap .i64 ((IntKind.wrap .i64 (10 * ybs8_0l68)) + (IntKind.wrap .i64 (IntKind.wrap .u8 ((((numbV4 xs).getD (Int.toNat x79l68) 0).toNat : Int) - 48)))))) else (if 1000000000 < (IntKind.wrap .i64 ((IntKind.wrap .i64 (10 * ybs8_0l68)) + (IntKind.wrap .i64 (IntKind.wrap .u8 (48 - 48))))) then 1000000000 else (IntKind.wrap .i64 ((IntKind.wrap .i64 (10 * ybs8_0l68)) + (IntKind.wrap .i64 (IntKind.wrap .u8 (48 - 48)))))))
def numbV9 (xs : List UInt8) (ybs8_0l68 : Int) : Int :=
  (if (((xs.getD (Int.toNat 0) 0).toNat : Int) == 45) = true then IntKind.wrap .i64 (0 - ybs8_0l68) else ybs8_0l68)
def numbj75 (xs : List UInt8) (x79l68 : Int) (ybs8_0l68 : Int) (C68 : Int → Int → Prop) : Prop :=
  C68 (IntKind.wrap .i64 (x79l68 + 1)) (numbV6 xs x79l68 ybs8_0l68)
def numbj85 (xs : List UInt8) (K : Int → Int → Prop) (ybs8_0l68 : Int) : Prop :=
  K (numbV9 xs ybs8_0l68) (numbV3 xs)
def numbl68b (xs : List UInt8) (K : Int → Int → Prop) (x79l68 : Int) (ybs8_0l68 : Int) (C68 : Int → Int → Prop) : Prop :=
  ((decide (x79l68 < 3)) = true → ((decide (x79l68 < ((numbV4 xs).length : Int))) = true → (0 : Int) ≤ x79l68 ∧ Int.toNat x79l68 < (numbV4 xs).length ∧ numbj75 xs x79l68 ybs8_0l68 C68) ∧ ((decide (x79l68 < ((numbV4 xs).length : Int))) = false → numbj75 xs x79l68 ybs8_0l68 C68)) ∧ ((decide (x79l68 < 3)) = false → (0 : Int) ≤ 0 ∧ Int.toNat 0 < xs.length ∧ (((((xs.getD (Int.toNat 0) 0).toNat : Int) == 45)) = true → numbj85 xs K ybs8_0l68) ∧ (((((xs.getD (Int.toNat 0) 0).toNat : Int) == 45)) = false → numbj85 xs K ybs8_0l68))
def numbl68 (xs : List UInt8) (K : Int → Int → Prop) : Nat → Int → Int → Prop
  | 0, _, _ => False
  | k + 1, x79l68, ybs8_0l68 => numbl68b xs K x79l68 ybs8_0l68 (numbl68 xs K k)
def numbj56 (xs : List UInt8) (K : Int → Int → Prop) (ybs8_0l39 : Int) : Prop :=
  ∃ k, numbl68 xs K k 0 ybs8_0l39
def numbl39b (xs : List UInt8) (K : Int → Int → Prop) (x54l39 : Int) (ybs8_0l39 : Int) (C39 : Int → Int → Prop) : Prop :=
  ((decide (x54l39 < ((intsOf ((xs.take (Int.toNat (IntKind.wrap .i64 ((numbV1 xs) + (digitsM (xs.drop (Int.toNat (numbV1 xs)))))))).drop (Int.toNat (numbV1 xs)))).length : Int))) = true → (0 : Int) ≤ x54l39 ∧ Int.toNat x54l39 < (intsOf ((xs.take (Int.toNat (IntKind.wrap .i64 ((numbV1 xs) + (digitsM (xs.drop (Int.toNat (numbV1 xs)))))))).drop (Int.toNat (numbV1 xs)))).length ∧ C39 (IntKind.wrap .i64 (x54l39 + 1)) (if 1000000000 < (IntKind.wrap .i64 ((IntKind.wrap .i64 (10 * ybs8_0l39)) + (IntKind.wrap .i64 (IntKind.wrap .u8 (((intsOf ((xs.take (Int.toNat (IntKind.wrap .i64 ((numbV1 xs) + (digitsM (xs.drop (Int.toNat (numbV1 xs)))))))).drop (Int.toNat (numbV1 xs)))).getD (Int.toNat x54l39) default) - 48))))) then 1000000000 else (IntKind.wrap .i64 ((IntKind.wrap .i64 (10 * ybs8_0l39)) + (IntKind.wrap .i64 (IntKind.wrap .u8 (((intsOf ((xs.take (Int.toNat (IntKind.wrap .i64 ((numbV1 xs) + (digitsM (xs.drop (Int.toNat (numbV1 xs)))))))).drop (Int.toNat (numbV1 xs)))).getD (Int.toNat x54l39) default) - 48))))))) ∧ ((decide (x54l39 < ((intsOf ((xs.take (Int.toNat (IntKind.wrap .i64 ((numbV1 xs) + (digitsM (xs.drop (Int.toNat (numbV1 xs)))))))).drop (Int.toNat (numbV1 xs)))).length : Int))) = false → ((decide ((numbV2 xs) > 0)) = true → (0 : Int) ≤ (IntKind.wrap .i64 ((IntKind.wrap .i64 ((numbV1 xs) + (digitsM (xs.drop (Int.toNat (numbV1 xs)))))) + 1)) ∧ ((IntKind.wrap .i64 ((IntKind.wrap .i64 ((numbV1 xs) + (digitsM (xs.drop (Int.toNat (numbV1 xs)))))) + 1)) : Int) ≤ (IntKind.wrap .i64 ((IntKind.wrap .i64 ((IntKind.wrap .i64 ((numbV1 xs) + (digitsM (xs.drop (Int.toNat (numbV1 xs)))))) + 1)) + (numbV2 xs))) ∧ (IntKind.wrap .i64 ((IntKind.wrap .i64 ((IntKind.wrap .i64 ((numbV1 xs) + (digitsM (xs.drop (Int.toNat (numbV1 xs)))))) + 1)) + (numbV2 xs))) ≤ (xs.length : Int) ∧ numbj56 xs K ybs8_0l39) ∧ ((decide ((numbV2 xs) > 0)) = false → numbj56 xs K ybs8_0l39))
def numbl39 (xs : List UInt8) (K : Int → Int → Prop) : Nat → Int → Int → Prop
  | 0, _, _ => False
  | k + 1, x54l39, ybs8_0l39 => numbl39b xs K x54l39 ybs8_0l39 (numbl39 xs K k)
def numbj15 (xs : List UInt8) (K : Int → Int → Prop) : Prop :=
  ((((IntKind.wrap .i64 ((digitsM (xs.drop (Int.toNat (numbV1 xs)))) + (numbV2 xs))) == 0)) = true → K 0 0) ∧ ((((IntKind.wrap .i64 ((digitsM (xs.drop (Int.toNat (numbV1 xs)))) + (numbV2 xs))) == 0)) = false → (0 : Int) ≤ (numbV1 xs) ∧ ((numbV1 xs) : Int) ≤ (IntKind.wrap .i64 ((numbV1 xs) + (digitsM (xs.drop (Int.toNat (numbV1 xs)))))) ∧ (IntKind.wrap .i64 ((numbV1 xs) + (digitsM (xs.drop (Int.toNat (numbV1 xs)))))) ≤ (xs.length : Int) ∧ ((xs.take (Int.toNat (IntKind.wrap .i64 ((numbV1 xs) + (digitsM (xs.drop (Int.toNat (numbV1 xs)))))))).drop (Int.toNat (numbV1 xs))).length ≤ maxLen ∧ ∃ k, numbl39 xs K k 0 0)
def numbj5 (xs : List UInt8) (K : Int → Int → Prop) : Prop :=
  (0 : Int) ≤ (numbV1 xs) ∧ ((numbV1 xs) : Int) ≤ (xs.length : Int) ∧ (xs.length : Int) ≤ (xs.length : Int) ∧ (0 : Int) ≤ (IntKind.wrap .i64 ((numbV1 xs) + (digitsM (xs.drop (Int.toNat (numbV1 xs)))))) ∧ ((IntKind.wrap .i64 ((numbV1 xs) + (digitsM (xs.drop (Int.toNat (numbV1 xs)))))) : Int) ≤ (xs.length : Int) ∧ (xs.length : Int) ≤ (xs.length : Int) ∧ (((hpM (xs.drop (Int.toNat (IntKind.wrap .i64 ((numbV1 xs) + (digitsM (xs.drop (Int.toNat (numbV1 xs)))))))) ([46] : List UInt8))) = true → (0 : Int) ≤ 1 ∧ (1 : Int) ≤ ((xs.drop (Int.toNat (IntKind.wrap .i64 ((numbV1 xs) + (digitsM (xs.drop (Int.toNat (numbV1 xs)))))))).length : Int) ∧ ((xs.drop (Int.toNat (IntKind.wrap .i64 ((numbV1 xs) + (digitsM (xs.drop (Int.toNat (numbV1 xs)))))))).length : Int) ≤ ((xs.drop (Int.toNat (IntKind.wrap .i64 ((numbV1 xs) + (digitsM (xs.drop (Int.toNat (numbV1 xs)))))))).length : Int) ∧ numbj15 xs K) ∧ (((hpM (xs.drop (Int.toNat (IntKind.wrap .i64 ((numbV1 xs) + (digitsM (xs.drop (Int.toNat (numbV1 xs)))))))) ([46] : List UInt8))) = false → numbj15 xs K)
def numbj6 (xs : List UInt8) (K : Int → Int → Prop) : Prop :=
  (((numbV0 xs)) = true → numbj5 xs K) ∧ (((numbV0 xs)) = false → numbj5 xs K)
def numbF (xs : List UInt8) (K : Int → Int → Prop) : Prop :=
  ((!(xs == ([] : List UInt8))) = true → (0 : Int) ≤ 0 ∧ Int.toNat 0 < xs.length ∧ (((((xs.getD (Int.toNat 0) 0).toNat : Int) == 43)) = true → numbj6 xs K) ∧ (((((xs.getD (Int.toNat 0) 0).toNat : Int) == 43)) = false → numbj6 xs K)) ∧ ((!(xs == ([] : List UInt8))) = false → numbj6 xs K)
set_option maxHeartbeats 4000000 in
set_option maxRecDepth 100000 in
set_option linter.unusedVariables false in
theorem numb_ok {g : Ghost} (xs : List UInt8) (K : Int → Int → Prop)
    (hF : numbF xs K) : CallsH Tryz.prog 35 #[.string ⟨⟨xs⟩⟩] g [] (fun g' H' v => ∃ (r0 : Int), ∃ (r1 : Int), v = .tuple #[.int .i64 r0, .int .i64 r1] ∧ H' = [] ∧ K r0 r1) := by
  refine CallsH.enter 101 [(0, .string ⟨⟨xs⟩⟩)] Tryz.func35 rfl (by kernel_rfl) (by kernel_rfl) (by kernel_rfl) fun w0 => ?_
  refine Ok.seq ?_
  refine Ok.region ?_
  refine Ok.batch 2 [(0, .string ⟨⟨xs⟩⟩)] (by kernel_rfl) ?_
  refine Ok.nil ?_
  refine Ok.thenN ?_
  refine Ok.seq ?_
  refine Ok.region ?_
  refine Ok.batch 1 [(0, .string ⟨⟨xs⟩⟩), (4, .int .i64 0)] (by kernel_rfl) ?_
  refine Ok.nil ?_
  refine Ok.thenN ?_
  refine Ok.cut (fun a W => ∃ gj5 : Ghost, Gext w0 g gj5 ∧ StA 101 [(0, .string ⟨⟨xs⟩⟩), (4, .int .i64 (numbV1 xs))] a ∧ StW w0 [] gj5 W ∧ numbj5 xs K) ?_ ?_
  ·
    refine Ok.cut (fun a W => ∃ gj6 : Ghost, Gext w0 g gj6 ∧ StA 101 [(0, .string ⟨⟨xs⟩⟩), (4, .int .i64 0), (26, .bool (numbV0 xs))] a ∧ StW w0 [] gj6 W ∧ numbj6 xs K) ?_ ?_
    ·
      refine Ok.region ?_
      refine Ok.batch 1 [(0, .string ⟨⟨xs⟩⟩), (4, .int .i64 0), (15, .string ⟨⟨xs⟩⟩)] (by kernel_rfl) ?_
      refine Ok.op rfl (OpOk.step (v := .bool (!(xs == ([] : List UInt8)))) (Yields.strCmp (f := .neq) (a := xs) (b := ([] : List UInt8)) (by kernel_rfl) (by kernel_rfl) rfl) rfl rfl ?_)
      refine Ok.batch 1 [(0, .string ⟨⟨xs⟩⟩), (4, .int .i64 0), (17, .bool (!(xs == ([] : List UInt8))))] (by kernel_rfl) ?_
      refine Ok.boolAt 17 (!(xs == ([] : List UInt8))) rfl (fun hc20 => ?_) (fun hc20 => ?_)
      · replace hF := hF.1 hc20
        refine Ok.batch 1 [(0, .string ⟨⟨xs⟩⟩), (4, .int .i64 0), (17, .bool true), (18, .string ⟨⟨xs⟩⟩)] (by kernel_rfl) ?_
        obtain ⟨h021, h121, hF⟩ := hF
        have he21 := get_of (l := xs) (0 : UInt8) h121
        generalize hg21 : (xs.getD (Int.toNat 0) 0) = e21 at he21 hF ⊢
        refine Ok.opYes (j := 2) (d := 17) (want := true) (b := true) rfl (by kernel_rfl) (by kernel_rfl) rfl (OpOk.step (v := .int .u8 (e21.toNat : Int)) (Yields.indexStr (k := .i64) (i := 0) (s := xs) (b := e21) (by kernel_rfl) (by kernel_rfl) Tryz.underlying9 h021 he21) rfl rfl ?_)
        refine Ok.batch 2 [(0, .string ⟨⟨xs⟩⟩), (4, .int .i64 0), (17, .bool true), (21, .bool ((e21.toNat : Int) == 43))] (by kernel_rfl) ?_
        refine Ok.boolAt 21 (((e21.toNat : Int) == 43)) rfl (fun hc22 => ?_) (fun hc22 => ?_)
        · replace hF := hF.1 hc22
          refine Ok.batch 5 [(0, .string ⟨⟨xs⟩⟩), (4, .int .i64 0), (26, .bool true)] (by kernel_rfl) ?_
          refine Ok.nil ?_
          refine Ok.thenN ?_
          subst hg21
          refine Ok.reval 26 rfl (show (.bool true : Value) = .bool (numbV0 xs) from congrArg (Value.bool) ((Eq.trans (mor_t hc22) (mand_t hc20)))) ?_
          exact fun a W hA hW => ⟨g, (Gext.refl w0 g), hA.sub (by kernel_rfl), hW, hF⟩
        · replace hF := hF.2 hc22
          refine Ok.batch 1 [(0, .string ⟨⟨xs⟩⟩), (4, .int .i64 0), (17, .bool true), (21, .bool false), (22, .string ⟨⟨xs⟩⟩)] (by kernel_rfl) ?_
          refine Ok.opYes (j := 6) (d := 21) (want := false) (b := false) rfl (by kernel_rfl) (by kernel_rfl) rfl (OpOk.step (v := .int .u8 (e21.toNat : Int)) (Yields.indexStr (k := .i64) (i := 0) (s := xs) (b := e21) (by kernel_rfl) (by kernel_rfl) Tryz.underlying9 h021 he21) rfl rfl ?_)
          refine Ok.batch 3 [(0, .string ⟨⟨xs⟩⟩), (4, .int .i64 0), (26, .bool ((e21.toNat : Int) == 45))] (by kernel_rfl) ?_
          refine Ok.nil ?_
          refine Ok.thenN ?_
          subst hg21
          refine Ok.reval 26 rfl (show (.bool (((xs.getD (Int.toNat 0) 0).toNat : Int) == 45) : Value) = .bool (numbV0 xs) from congrArg (Value.bool) ((Eq.trans (mor_f hc22) (mand_t hc20)))) ?_
          exact fun a W hA hW => ⟨g, (Gext.refl w0 g), hA.sub (by kernel_rfl), hW, hF⟩
      · replace hF := hF.2 hc20
        refine Ok.batch 9 [(0, .string ⟨⟨xs⟩⟩), (4, .int .i64 0), (26, .bool false)] (by kernel_rfl) ?_
        refine Ok.nil ?_
        refine Ok.thenN ?_
        refine Ok.reval 26 rfl (show (.bool false : Value) = .bool (numbV0 xs) from congrArg (Value.bool) (mand_f hc20)) ?_
        exact fun a W hA hW => ⟨g, (Gext.refl w0 g), hA.sub (by kernel_rfl), hW, hF⟩
    ·
      clear hF
      rintro a W ⟨gj6, hxj6, hA, hW, hF⟩
      refine (?_ : Ok _ _ _ _ _ _) a W hA hW
      clear hA hW
      refine Ok.cond (b := (numbV0 xs)) rfl (fun hc19 => ?_) (fun hc19 => ?_)
      · replace hF := hF.1 hc19
        refine Ok.region ?_
        refine Ok.batch 1 [(0, .string ⟨⟨xs⟩⟩), (4, .int .i64 1)] (by kernel_rfl) ?_
        refine Ok.nil ?_
        refine Ok.thenN ?_
        refine Ok.reval 4 rfl (show (.int .i64 1 : Value) = .int .i64 (numbV1 xs) from congrArg (Value.int .i64) ((if_t hc19).symm)) ?_
        exact fun a W hA hW => ⟨gj6, hxj6, hA.sub (by kernel_rfl), hW, hF⟩
      · replace hF := hF.2 hc19
        refine Ok.skip ?_
        refine Ok.thenN ?_
        refine Ok.reval 4 rfl (show (.int .i64 0 : Value) = .int .i64 (numbV1 xs) from congrArg (Value.int .i64) ((if_f hc19).symm)) ?_
        exact fun a W hA hW => ⟨gj6, hxj6, hA.sub (by kernel_rfl), hW, hF⟩
  ·
    clear hF
    rintro a W ⟨gj5, hxj5, hA, hW, hF⟩
    refine (?_ : Ok _ _ _ _ _ _) a W hA hW
    clear hA hW
    refine Ok.seq ?_
    refine Ok.region ?_
    refine Ok.batch 2 [(0, .string ⟨⟨xs⟩⟩), (4, .int .i64 (numbV1 xs)), (27, .string ⟨⟨xs⟩⟩), (28, .int .i64 (numbV1 xs))] (by kernel_rfl) ?_
    obtain ⟨h01, h11, h21, hF⟩ := hF
    refine Ok.op rfl (OpOk.step (v := .string ⟨⟨xs.drop (Int.toNat (numbV1 xs))⟩⟩) (Yields.sliceStr (s := xs) (l := (numbV1 xs)) (h := (xs.length : Int)) (by kernel_rfl) Tryz.underlying9 (.inl ⟨_, _, rfl, rfl⟩) (.inr ⟨rfl, rfl⟩) h01 h11 h21 (xs.drop (Int.toNat (numbV1 xs))) (by rw [show ((xs.length : Int)).toNat = xs.length from Int.toNat_natCast _, List.take_length])) rfl rfl ?_)
    refine Ok.op rfl (OpOk.callG (v := .int .i64 (digitsM (xs.drop (Int.toNat (numbV1 xs))))) (enters (by kernel_rfl) (fun _ => by kernel_rfl)) (fun W hW => digits_c (xs.drop (Int.toNat (numbV1 xs)))) rfl ?_)
    refine Ok.batch 1 [(0, .string ⟨⟨xs⟩⟩), (4, .int .i64 (numbV1 xs)), (5, .int .i64 (digitsM (xs.drop (Int.toNat (numbV1 xs)))))] (by kernel_rfl) ?_
    refine Ok.nil ?_
    refine Ok.thenN ?_
    refine Ok.seq ?_
    refine Ok.region ?_
    refine Ok.batch 1 [(0, .string ⟨⟨xs⟩⟩), (4, .int .i64 (numbV1 xs)), (5, .int .i64 (digitsM (xs.drop (Int.toNat (numbV1 xs))))), (6, .int .i64 0)] (by kernel_rfl) ?_
    refine Ok.nil ?_
    refine Ok.thenN ?_
    refine Ok.cut (fun a W => ∃ gj15 : Ghost, Gext w0 gj5 gj15 ∧ StA 101 [(0, .string ⟨⟨xs⟩⟩), (4, .int .i64 (numbV1 xs)), (5, .int .i64 (digitsM (xs.drop (Int.toNat (numbV1 xs))))), (6, .int .i64 (numbV2 xs))] a ∧ StW w0 [] gj15 W ∧ numbj15 xs K) ?_ ?_
    ·
      refine Ok.seq ?_
      refine Ok.region ?_
      refine Ok.batch 4 [(0, .string ⟨⟨xs⟩⟩), (4, .int .i64 (numbV1 xs)), (5, .int .i64 (digitsM (xs.drop (Int.toNat (numbV1 xs))))), (6, .int .i64 0), (31, .string ⟨⟨xs⟩⟩), (34, .int .i64 (IntKind.wrap .i64 ((numbV1 xs) + (digitsM (xs.drop (Int.toNat (numbV1 xs)))))))] (by kernel_rfl) ?_
      obtain ⟨h016, h116, h216, hF⟩ := hF
      refine Ok.op rfl (OpOk.step (v := .string ⟨⟨xs.drop (Int.toNat (IntKind.wrap .i64 ((numbV1 xs) + (digitsM (xs.drop (Int.toNat (numbV1 xs)))))))⟩⟩) (Yields.sliceStr (s := xs) (l := (IntKind.wrap .i64 ((numbV1 xs) + (digitsM (xs.drop (Int.toNat (numbV1 xs))))))) (h := (xs.length : Int)) (by kernel_rfl) Tryz.underlying9 (.inl ⟨_, _, rfl, rfl⟩) (.inr ⟨rfl, rfl⟩) h016 h116 h216 (xs.drop (Int.toNat (IntKind.wrap .i64 ((numbV1 xs) + (digitsM (xs.drop (Int.toNat (numbV1 xs)))))))) (by rw [show ((xs.length : Int)).toNat = xs.length from Int.toNat_natCast _, List.take_length])) rfl rfl ?_)
      refine Ok.batch 1 [(0, .string ⟨⟨xs⟩⟩), (4, .int .i64 (numbV1 xs)), (5, .int .i64 (digitsM (xs.drop (Int.toNat (numbV1 xs))))), (6, .int .i64 0), (7, .string ⟨⟨xs.drop (Int.toNat (IntKind.wrap .i64 ((numbV1 xs) + (digitsM (xs.drop (Int.toNat (numbV1 xs)))))))⟩⟩)] (by kernel_rfl) ?_
      refine Ok.nil ?_
      refine Ok.thenN ?_
      refine Ok.seq ?_
      refine Ok.region ?_
      refine Ok.batch 1 [(0, .string ⟨⟨xs⟩⟩), (4, .int .i64 (numbV1 xs)), (5, .int .i64 (digitsM (xs.drop (Int.toNat (numbV1 xs))))), (6, .int .i64 0), (7, .string ⟨⟨xs.drop (Int.toNat (IntKind.wrap .i64 ((numbV1 xs) + (digitsM (xs.drop (Int.toNat (numbV1 xs)))))))⟩⟩), (36, .string ⟨⟨xs.drop (Int.toNat (IntKind.wrap .i64 ((numbV1 xs) + (digitsM (xs.drop (Int.toNat (numbV1 xs)))))))⟩⟩)] (by kernel_rfl) ?_
      refine Ok.op rfl (OpOk.callG (v := .bool (hpM (xs.drop (Int.toNat (IntKind.wrap .i64 ((numbV1 xs) + (digitsM (xs.drop (Int.toNat (numbV1 xs)))))))) ([46] : List UInt8))) (enters (by kernel_rfl) (fun _ => by kernel_rfl)) (fun W hW => hp_c (xs.drop (Int.toNat (IntKind.wrap .i64 ((numbV1 xs) + (digitsM (xs.drop (Int.toNat (numbV1 xs)))))))) ([46] : List UInt8)) rfl ?_)
      refine Ok.nil ?_
      refine Ok.thenN ?_
      refine Ok.cond (b := (hpM (xs.drop (Int.toNat (IntKind.wrap .i64 ((numbV1 xs) + (digitsM (xs.drop (Int.toNat (numbV1 xs)))))))) ([46] : List UInt8))) rfl (fun hc17 => ?_) (fun hc17 => ?_)
      · replace hF := hF.1 hc17
        refine Ok.region ?_
        refine Ok.batch 1 [(0, .string ⟨⟨xs⟩⟩), (4, .int .i64 (numbV1 xs)), (5, .int .i64 (digitsM (xs.drop (Int.toNat (numbV1 xs))))), (38, .string ⟨⟨xs.drop (Int.toNat (IntKind.wrap .i64 ((numbV1 xs) + (digitsM (xs.drop (Int.toNat (numbV1 xs)))))))⟩⟩)] (by kernel_rfl) ?_
        obtain ⟨h018, h118, h218, hF⟩ := hF
        refine Ok.op rfl (OpOk.step (v := .string ⟨⟨(xs.drop (Int.toNat (IntKind.wrap .i64 ((numbV1 xs) + (digitsM (xs.drop (Int.toNat (numbV1 xs)))))))).drop (Int.toNat 1)⟩⟩) (Yields.sliceStr (s := (xs.drop (Int.toNat (IntKind.wrap .i64 ((numbV1 xs) + (digitsM (xs.drop (Int.toNat (numbV1 xs))))))))) (l := 1) (h := ((xs.drop (Int.toNat (IntKind.wrap .i64 ((numbV1 xs) + (digitsM (xs.drop (Int.toNat (numbV1 xs)))))))).length : Int)) (by kernel_rfl) Tryz.underlying9 (.inl ⟨_, _, rfl, rfl⟩) (.inr ⟨rfl, rfl⟩) h018 h118 h218 ((xs.drop (Int.toNat (IntKind.wrap .i64 ((numbV1 xs) + (digitsM (xs.drop (Int.toNat (numbV1 xs)))))))).drop (Int.toNat 1)) (by rw [show (((xs.drop (Int.toNat (IntKind.wrap .i64 ((numbV1 xs) + (digitsM (xs.drop (Int.toNat (numbV1 xs)))))))).length : Int)).toNat = (xs.drop (Int.toNat (IntKind.wrap .i64 ((numbV1 xs) + (digitsM (xs.drop (Int.toNat (numbV1 xs)))))))).length from Int.toNat_natCast _, List.take_length])) rfl rfl ?_)
        refine Ok.op rfl (OpOk.callG (v := .int .i64 (digitsM ((xs.drop (Int.toNat (IntKind.wrap .i64 ((numbV1 xs) + (digitsM (xs.drop (Int.toNat (numbV1 xs)))))))).drop (Int.toNat 1)))) (enters (by kernel_rfl) (fun _ => by kernel_rfl)) (fun W hW => digits_c ((xs.drop (Int.toNat (IntKind.wrap .i64 ((numbV1 xs) + (digitsM (xs.drop (Int.toNat (numbV1 xs)))))))).drop (Int.toNat 1))) rfl ?_)
        refine Ok.batch 1 [(0, .string ⟨⟨xs⟩⟩), (4, .int .i64 (numbV1 xs)), (5, .int .i64 (digitsM (xs.drop (Int.toNat (numbV1 xs))))), (6, .int .i64 (digitsM ((xs.drop (Int.toNat (IntKind.wrap .i64 ((numbV1 xs) + (digitsM (xs.drop (Int.toNat (numbV1 xs)))))))).drop (Int.toNat 1))))] (by kernel_rfl) ?_
        refine Ok.nil ?_
        refine Ok.thenN ?_
        refine Ok.reval 6 rfl (show (.int .i64 (digitsM ((xs.drop (Int.toNat (IntKind.wrap .i64 ((numbV1 xs) + (digitsM (xs.drop (Int.toNat (numbV1 xs)))))))).drop (Int.toNat 1))) : Value) = .int .i64 (numbV2 xs) from congrArg (Value.int .i64) ((if_t hc17).symm)) ?_
        exact fun a W hA hW => ⟨gj5, (Gext.refl w0 gj5), hA.sub (by kernel_rfl), hW, hF⟩
      · replace hF := hF.2 hc17
        refine Ok.skip ?_
        refine Ok.thenN ?_
        refine Ok.reval 6 rfl (show (.int .i64 0 : Value) = .int .i64 (numbV2 xs) from congrArg (Value.int .i64) ((if_f hc17).symm)) ?_
        exact fun a W hA hW => ⟨gj5, (Gext.refl w0 gj5), hA.sub (by kernel_rfl), hW, hF⟩
    ·
      clear hF
      rintro a W ⟨gj15, hxj15, hA, hW, hF⟩
      refine (?_ : Ok _ _ _ _ _ _) a W hA hW
      clear hA hW
      refine Ok.seq ?_
      refine Ok.seq ?_
      refine Ok.region ?_
      refine Ok.batch 4 [(0, .string ⟨⟨xs⟩⟩), (4, .int .i64 (numbV1 xs)), (5, .int .i64 (digitsM (xs.drop (Int.toNat (numbV1 xs))))), (6, .int .i64 (numbV2 xs)), (44, .bool ((IntKind.wrap .i64 ((digitsM (xs.drop (Int.toNat (numbV1 xs)))) + (numbV2 xs))) == 0))] (by kernel_rfl) ?_
      refine Ok.nil ?_
      refine Ok.thenN ?_
      refine Ok.cond (b := ((IntKind.wrap .i64 ((digitsM (xs.drop (Int.toNat (numbV1 xs)))) + (numbV2 xs))) == 0)) rfl (fun hc2 => ?_) (fun hc2 => ?_)
      · replace hF := hF.1 hc2
        refine Ok.seq ?_
        refine Ok.region ?_
        refine Ok.batch 2 [(2, .int .i64 0), (3, .int .i64 0)] (by kernel_rfl) ?_
        refine Ok.nil ?_
        refine Ok.thenN ?_
        refine Ok.ret ?_
        refine Ok.thenR ?_
        exact Ok.resH (vs := [.int .i64 0, .int .i64 0]) (.inl rfl) rfl (.cons (.tmp rfl) (.cons (.tmp rfl) .nil)) (hxj5.trans hxj15) ⟨0, 0, rfl, rfl, hF⟩
      · replace hF := hF.2 hc2
        refine Ok.skip ?_
        refine Ok.thenN ?_
        refine Ok.seq ?_
        refine Ok.region ?_
        refine Ok.op rfl (OpOk.alloc (z := .int .i64 0) (cs := #[.int .i64 0]) (by kernel_rfl) (by kernel_rfl) rfl fun bs8 => ?_)
        refine Ok.op rfl (OpOk.store (k := 1) (v := .int .i64 0) (H' := [.blk bs8 (.cells #[.int .i64 0] 3)]) 0 rfl rfl rfl (by kernel_rfl) (by kernel_rfl) (by kernel_rfl) (by kernel_rfl) (by kernel_rfl) ?_)
        refine Ok.nil ?_
        refine Ok.thenN ?_
        refine Ok.seq ?_
        refine Ok.region ?_
        refine Ok.batch 2 [(0, .string ⟨⟨xs⟩⟩), (4, .int .i64 (numbV1 xs)), (5, .int .i64 (digitsM (xs.drop (Int.toNat (numbV1 xs))))), (6, .int .i64 (numbV2 xs)), (8, .pointer (some ⟨bs8, 0, none⟩)), (9, .func (.func 53) #[] #[.pointer (some ⟨bs8, 0, none⟩)])] (by kernel_rfl) ?_
        refine Ok.nil ?_
        refine Ok.thenN ?_
        refine Ok.seq ?_
        refine Ok.seq ?_
        refine Ok.region ?_
        refine Ok.batch 5 [(0, .string ⟨⟨xs⟩⟩), (4, .int .i64 (numbV1 xs)), (5, .int .i64 (digitsM (xs.drop (Int.toNat (numbV1 xs))))), (6, .int .i64 (numbV2 xs)), (8, .pointer (some ⟨bs8, 0, none⟩)), (9, .func (.func 53) #[] #[.pointer (some ⟨bs8, 0, none⟩)]), (46, .string ⟨⟨xs⟩⟩), (47, .int .i64 (numbV1 xs)), (50, .int .i64 (IntKind.wrap .i64 ((numbV1 xs) + (digitsM (xs.drop (Int.toNat (numbV1 xs)))))))] (by kernel_rfl) ?_
        obtain ⟨h04, h14, h24, hF⟩ := hF
        refine Ok.op rfl (OpOk.step (v := .string ⟨⟨(xs.take (Int.toNat (IntKind.wrap .i64 ((numbV1 xs) + (digitsM (xs.drop (Int.toNat (numbV1 xs)))))))).drop (Int.toNat (numbV1 xs))⟩⟩) (Yields.sliceStr (s := xs) (l := (numbV1 xs)) (h := (IntKind.wrap .i64 ((numbV1 xs) + (digitsM (xs.drop (Int.toNat (numbV1 xs))))))) (by kernel_rfl) Tryz.underlying9 (.inl ⟨_, _, rfl, rfl⟩) (.inl ⟨_, _, rfl, rfl⟩) h04 h14 h24 ((xs.take (Int.toNat (IntKind.wrap .i64 ((numbV1 xs) + (digitsM (xs.drop (Int.toNat (numbV1 xs)))))))).drop (Int.toNat (numbV1 xs))) rfl) rfl rfl ?_)
        obtain ⟨hm5, hF⟩ := hF
        refine Ok.op rfl (OpOk.bytesRo (s := (xs.take (Int.toNat (IntKind.wrap .i64 ((numbV1 xs) + (digitsM (xs.drop (Int.toNat (numbV1 xs)))))))).drop (Int.toNat (numbV1 xs))) (by kernel_rfl) Tryz.underlying9 Tryz.underlying61 Tryz.underlying5 hm5 rfl fun g5 a5 c5 hx5 hR5 => ?_)
        refine Ok.batch 2 [(0, .string ⟨⟨xs⟩⟩), (4, .int .i64 (numbV1 xs)), (5, .int .i64 (digitsM (xs.drop (Int.toNat (numbV1 xs))))), (6, .int .i64 (numbV2 xs)), (8, .pointer (some ⟨bs8, 0, none⟩)), (9, .func (.func 53) #[] #[.pointer (some ⟨bs8, 0, none⟩)]), (52, .slice a5 (intsOf ((xs.take (Int.toNat (IntKind.wrap .i64 ((numbV1 xs) + (digitsM (xs.drop (Int.toNat (numbV1 xs)))))))).drop (Int.toNat (numbV1 xs)))).length c5), (53, .int .i64 ((intsOf ((xs.take (Int.toNat (IntKind.wrap .i64 ((numbV1 xs) + (digitsM (xs.drop (Int.toNat (numbV1 xs)))))))).drop (Int.toNat (numbV1 xs)))).length : Int)), (54, .int .i64 0)] (by kernel_rfl) ?_
        refine Ok.nil ?_
        refine Ok.thenN ?_
        refine Ok.block ?_
        obtain ⟨k, hF⟩ := hF
        refine Ok.loop (fun k a W => ∃ gl39 : Ghost, Gext w0 g5 gl39 ∧ ∃ (x54l39 : Int) (ybs8_0l39 : Int), StA 101 [(0, .string ⟨⟨xs⟩⟩), (4, .int .i64 (numbV1 xs)), (5, .int .i64 (digitsM (xs.drop (Int.toNat (numbV1 xs))))), (6, .int .i64 (numbV2 xs)), (8, .pointer (some ⟨bs8, 0, none⟩)), (9, .func (.func 53) #[] #[.pointer (some ⟨bs8, 0, none⟩)]), (52, .slice a5 (intsOf ((xs.take (Int.toNat (IntKind.wrap .i64 ((numbV1 xs) + (digitsM (xs.drop (Int.toNat (numbV1 xs)))))))).drop (Int.toNat (numbV1 xs)))).length c5), (53, .int .i64 ((intsOf ((xs.take (Int.toNat (IntKind.wrap .i64 ((numbV1 xs) + (digitsM (xs.drop (Int.toNat (numbV1 xs)))))))).drop (Int.toNat (numbV1 xs)))).length : Int)), (54, .int .i64 x54l39)] a ∧ StW w0 [.blk bs8 (.cells #[.int .i64 ybs8_0l39] 3)] gl39 W ∧ numbl39 xs K k x54l39 ybs8_0l39) k ?_ ?_
        ·
          exact fun a W hA hW => ⟨g5, (Gext.refl w0 g5), 0, 0, hA.sub (by kernel_rfl), hW, hF⟩
        ·
          clear hF
          rintro k39 a W ⟨gl39, hxl39, x54l39, ybs8_0l39, hA, hW, hF⟩
          cases k39 with
          | zero => exact (hF : False).elim
          | succ k39 =>
            refine (?_ : Ok _ _ _ _ _ _) a W hA hW
            clear hA hW
            replace hR5 := hR5.mono hxl39.1
            refine Ok.seq ?_
            refine Ok.region ?_
            refine Ok.batch 1 [(0, .string ⟨⟨xs⟩⟩), (4, .int .i64 (numbV1 xs)), (5, .int .i64 (digitsM (xs.drop (Int.toNat (numbV1 xs))))), (6, .int .i64 (numbV2 xs)), (8, .pointer (some ⟨bs8, 0, none⟩)), (9, .func (.func 53) #[] #[.pointer (some ⟨bs8, 0, none⟩)]), (52, .slice a5 (intsOf ((xs.take (Int.toNat (IntKind.wrap .i64 ((numbV1 xs) + (digitsM (xs.drop (Int.toNat (numbV1 xs)))))))).drop (Int.toNat (numbV1 xs)))).length c5), (53, .int .i64 ((intsOf ((xs.take (Int.toNat (IntKind.wrap .i64 ((numbV1 xs) + (digitsM (xs.drop (Int.toNat (numbV1 xs)))))))).drop (Int.toNat (numbV1 xs)))).length : Int)), (54, .int .i64 x54l39), (55, .bool (decide (x54l39 < ((intsOf ((xs.take (Int.toNat (IntKind.wrap .i64 ((numbV1 xs) + (digitsM (xs.drop (Int.toNat (numbV1 xs)))))))).drop (Int.toNat (numbV1 xs)))).length : Int))))] (by kernel_rfl) ?_
            refine Ok.nil ?_
            refine Ok.thenN ?_
            refine Ok.seq ?_
            refine Ok.cond (b := decide (x54l39 < ((intsOf ((xs.take (Int.toNat (IntKind.wrap .i64 ((numbV1 xs) + (digitsM (xs.drop (Int.toNat (numbV1 xs)))))))).drop (Int.toNat (numbV1 xs)))).length : Int))) rfl (fun hc6 => ?_) (fun hc6 => ?_)
            · replace hF := hF.1 hc6
              refine Ok.skip ?_
              refine Ok.thenN ?_
              refine Ok.seq ?_
              refine Ok.block ?_
              refine Ok.seq ?_
              refine Ok.region ?_
              obtain ⟨h08, h18, hF⟩ := hF
              have he8 := get_of (l := (intsOf ((xs.take (Int.toNat (IntKind.wrap .i64 ((numbV1 xs) + (digitsM (xs.drop (Int.toNat (numbV1 xs)))))))).drop (Int.toNat (numbV1 xs))))) (default : Int) h18
              generalize hg8 : ((intsOf ((xs.take (Int.toNat (IntKind.wrap .i64 ((numbV1 xs) + (digitsM (xs.drop (Int.toNat (numbV1 xs)))))))).drop (Int.toNat (numbV1 xs)))).getD (Int.toNat x54l39) default) = e8 at he8 hF ⊢
              refine Ok.op rfl (OpOk.indexRo (e := .int .u8) (i := x54l39) (el := e8) rfl rfl Tryz.underlying61 (by kernel_rfl) hR5 h08 he8 rfl fun q7 o7 cs7 _ hat7 hr7 => ?_)
              obtain rfl := hr7
              replace hat7 : At gl39 q7 o7 [.int .u8 e8] := hat7
              refine Ok.op rfl (OpOk.step (v := .int .u8 e8) (Yields.loadRo 0 hat7 (by kernel_rfl) Tryz.underlying5 rfl (by kernel_rfl)) rfl rfl ?_)
              refine Ok.batch 1 [(0, .string ⟨⟨xs⟩⟩), (4, .int .i64 (numbV1 xs)), (5, .int .i64 (digitsM (xs.drop (Int.toNat (numbV1 xs))))), (6, .int .i64 (numbV2 xs)), (8, .pointer (some ⟨bs8, 0, none⟩)), (9, .func (.func 53) #[] #[.pointer (some ⟨bs8, 0, none⟩)]), (11, .int .u8 e8), (52, .slice a5 (intsOf ((xs.take (Int.toNat (IntKind.wrap .i64 ((numbV1 xs) + (digitsM (xs.drop (Int.toNat (numbV1 xs)))))))).drop (Int.toNat (numbV1 xs)))).length c5), (53, .int .i64 ((intsOf ((xs.take (Int.toNat (IntKind.wrap .i64 ((numbV1 xs) + (digitsM (xs.drop (Int.toNat (numbV1 xs)))))))).drop (Int.toNat (numbV1 xs)))).length : Int)), (54, .int .i64 x54l39)] (by kernel_rfl) ?_
              refine Ok.nil ?_
              refine Ok.thenN ?_
              refine Ok.region ?_
              refine Ok.batch 2 [(0, .string ⟨⟨xs⟩⟩), (4, .int .i64 (numbV1 xs)), (5, .int .i64 (digitsM (xs.drop (Int.toNat (numbV1 xs))))), (6, .int .i64 (numbV2 xs)), (8, .pointer (some ⟨bs8, 0, none⟩)), (9, .func (.func 53) #[] #[.pointer (some ⟨bs8, 0, none⟩)]), (52, .slice a5 (intsOf ((xs.take (Int.toNat (IntKind.wrap .i64 ((numbV1 xs) + (digitsM (xs.drop (Int.toNat (numbV1 xs)))))))).drop (Int.toNat (numbV1 xs)))).length c5), (53, .int .i64 ((intsOf ((xs.take (Int.toNat (IntKind.wrap .i64 ((numbV1 xs) + (digitsM (xs.drop (Int.toNat (numbV1 xs)))))))).drop (Int.toNat (numbV1 xs)))).length : Int)), (54, .int .i64 x54l39), (58, .func (.func 53) #[] #[.pointer (some ⟨bs8, 0, none⟩)]), (59, .int .u8 e8)] (by kernel_rfl) ?_
              refine Ok.op rfl (OpOk.inline (args := #[.int .u8 e8, .pointer (some ⟨bs8, 0, none⟩)]) 10 [(0, .int .u8 e8), (1, .pointer (some ⟨bs8, 0, none⟩))] (enters (by kernel_rfl) (fun _ => by kernel_rfl)) Tryz.func53 rfl rfl rfl rfl ?_)
              refine Ok.region ?_
              refine Ok.op rfl (OpOk.step (v := .int .i64 ybs8_0l39) (Yields.load 0 rfl rfl Tryz.underlying3 rfl (by kernel_rfl)) rfl rfl ?_)
              refine Ok.batch 6 [(1, .pointer (some ⟨bs8, 0, none⟩)), (9, .int .i64 (if 1000000000 < (IntKind.wrap .i64 ((IntKind.wrap .i64 (10 * ybs8_0l39)) + (IntKind.wrap .i64 (IntKind.wrap .u8 (e8 - 48))))) then 1000000000 else (IntKind.wrap .i64 ((IntKind.wrap .i64 (10 * ybs8_0l39)) + (IntKind.wrap .i64 (IntKind.wrap .u8 (e8 - 48)))))))] (by kernel_rfl) ?_
              refine Ok.op rfl (OpOk.store (k := 1) (v := .int .i64 (if 1000000000 < (IntKind.wrap .i64 ((IntKind.wrap .i64 (10 * ybs8_0l39)) + (IntKind.wrap .i64 (IntKind.wrap .u8 (e8 - 48))))) then 1000000000 else (IntKind.wrap .i64 ((IntKind.wrap .i64 (10 * ybs8_0l39)) + (IntKind.wrap .i64 (IntKind.wrap .u8 (e8 - 48))))))) (H' := [.blk bs8 (.cells #[.int .i64 (if 1000000000 < (IntKind.wrap .i64 ((IntKind.wrap .i64 (10 * ybs8_0l39)) + (IntKind.wrap .i64 (IntKind.wrap .u8 (e8 - 48))))) then 1000000000 else (IntKind.wrap .i64 ((IntKind.wrap .i64 (10 * ybs8_0l39)) + (IntKind.wrap .i64 (IntKind.wrap .u8 (e8 - 48))))))] 3)]) 0 rfl rfl rfl (by kernel_rfl) (by kernel_rfl) (by kernel_rfl) (by kernel_rfl) (by kernel_rfl) ?_)
              refine Ok.nil ?_
              refine Ok.back (vs := []) (.inr rfl) rfl .nil rfl ?_
              refine Ok.nil ?_
              refine Ok.blockN ?_
              refine Ok.thenN ?_
              refine Ok.region ?_
              refine Ok.batch 2 [(0, .string ⟨⟨xs⟩⟩), (4, .int .i64 (numbV1 xs)), (5, .int .i64 (digitsM (xs.drop (Int.toNat (numbV1 xs))))), (6, .int .i64 (numbV2 xs)), (8, .pointer (some ⟨bs8, 0, none⟩)), (9, .func (.func 53) #[] #[.pointer (some ⟨bs8, 0, none⟩)]), (52, .slice a5 (intsOf ((xs.take (Int.toNat (IntKind.wrap .i64 ((numbV1 xs) + (digitsM (xs.drop (Int.toNat (numbV1 xs)))))))).drop (Int.toNat (numbV1 xs)))).length c5), (53, .int .i64 ((intsOf ((xs.take (Int.toNat (IntKind.wrap .i64 ((numbV1 xs) + (digitsM (xs.drop (Int.toNat (numbV1 xs)))))))).drop (Int.toNat (numbV1 xs)))).length : Int)), (54, .int .i64 (IntKind.wrap .i64 (x54l39 + 1)))] (by kernel_rfl) ?_
              refine Ok.nil ?_
              refine Ok.thenN ?_
              subst hg8
              exact fun a W hA hW => ⟨k39, Nat.lt_succ_self _, gl39, hxl39, IntKind.wrap .i64 (x54l39 + 1), (if 1000000000 < (IntKind.wrap .i64 ((IntKind.wrap .i64 (10 * ybs8_0l39)) + (IntKind.wrap .i64 (IntKind.wrap .u8 (((intsOf ((xs.take (Int.toNat (IntKind.wrap .i64 ((numbV1 xs) + (digitsM (xs.drop (Int.toNat (numbV1 xs)))))))).drop (Int.toNat (numbV1 xs)))).getD (Int.toNat x54l39) default) - 48))))) then 1000000000 else (IntKind.wrap .i64 ((IntKind.wrap .i64 (10 * ybs8_0l39)) + (IntKind.wrap .i64 (IntKind.wrap .u8 (((intsOf ((xs.take (Int.toNat (IntKind.wrap .i64 ((numbV1 xs) + (digitsM (xs.drop (Int.toNat (numbV1 xs)))))))).drop (Int.toNat (numbV1 xs)))).getD (Int.toNat x54l39) default) - 48)))))), hA.sub (by kernel_rfl), hW, hF⟩
            · replace hF := hF.2 hc6
              refine Ok.exit ?_
              refine Ok.thenE ?_
              refine Ok.thenE ?_
              refine Ok.blockHit ?_
              refine Ok.thenN ?_
              refine Ok.seq ?_
              refine Ok.region ?_
              refine Ok.batch 4 [(0, .string ⟨⟨xs⟩⟩), (6, .int .i64 (numbV2 xs)), (8, .pointer (some ⟨bs8, 0, none⟩)), (9, .func (.func 53) #[] #[.pointer (some ⟨bs8, 0, none⟩)]), (12, .int .i64 (IntKind.wrap .i64 ((numbV1 xs) + (digitsM (xs.drop (Int.toNat (numbV1 xs)))))))] (by kernel_rfl) ?_
              refine Ok.nil ?_
              refine Ok.thenN ?_
              refine Ok.seq ?_
              refine Ok.region ?_
              refine Ok.batch 1 [(0, .string ⟨⟨xs⟩⟩), (6, .int .i64 (numbV2 xs)), (8, .pointer (some ⟨bs8, 0, none⟩)), (9, .func (.func 53) #[] #[.pointer (some ⟨bs8, 0, none⟩)]), (12, .int .i64 (IntKind.wrap .i64 ((numbV1 xs) + (digitsM (xs.drop (Int.toNat (numbV1 xs))))))), (13, .string ⟨⟨([] : List UInt8)⟩⟩)] (by kernel_rfl) ?_
              refine Ok.nil ?_
              refine Ok.thenN ?_
              refine Ok.cut (fun a W => ∃ gj56 : Ghost, Gext w0 gl39 gj56 ∧ StA 101 [(0, .string ⟨⟨xs⟩⟩), (8, .pointer (some ⟨bs8, 0, none⟩)), (9, .func (.func 53) #[] #[.pointer (some ⟨bs8, 0, none⟩)]), (12, .int .i64 (numbV3 xs)), (13, .string ⟨⟨(numbV4 xs)⟩⟩)] a ∧ StW w0 [.blk bs8 (.cells #[.int .i64 ybs8_0l39] 3)] gj56 W ∧ numbj56 xs K ybs8_0l39) ?_ ?_
              ·
                refine Ok.seq ?_
                refine Ok.region ?_
                refine Ok.batch 2 [(0, .string ⟨⟨xs⟩⟩), (6, .int .i64 (numbV2 xs)), (8, .pointer (some ⟨bs8, 0, none⟩)), (9, .func (.func 53) #[] #[.pointer (some ⟨bs8, 0, none⟩)]), (12, .int .i64 (IntKind.wrap .i64 ((numbV1 xs) + (digitsM (xs.drop (Int.toNat (numbV1 xs))))))), (13, .string ⟨⟨([] : List UInt8)⟩⟩), (66, .bool (decide ((numbV2 xs) > 0)))] (by kernel_rfl) ?_
                refine Ok.nil ?_
                refine Ok.thenN ?_
                refine Ok.cond (b := decide ((numbV2 xs) > 0)) rfl (fun hc14 => ?_) (fun hc14 => ?_)
                · replace hF := hF.1 hc14
                  refine Ok.seq ?_
                  refine Ok.region ?_
                  refine Ok.batch 7 [(0, .string ⟨⟨xs⟩⟩), (6, .int .i64 (numbV2 xs)), (8, .pointer (some ⟨bs8, 0, none⟩)), (9, .func (.func 53) #[] #[.pointer (some ⟨bs8, 0, none⟩)]), (12, .int .i64 (IntKind.wrap .i64 ((numbV1 xs) + (digitsM (xs.drop (Int.toNat (numbV1 xs))))))), (67, .string ⟨⟨xs⟩⟩), (69, .int .i64 (IntKind.wrap .i64 ((IntKind.wrap .i64 ((numbV1 xs) + (digitsM (xs.drop (Int.toNat (numbV1 xs)))))) + 1))), (73, .int .i64 (IntKind.wrap .i64 ((IntKind.wrap .i64 ((IntKind.wrap .i64 ((numbV1 xs) + (digitsM (xs.drop (Int.toNat (numbV1 xs)))))) + 1)) + (numbV2 xs))))] (by kernel_rfl) ?_
                  obtain ⟨h015, h115, h215, hF⟩ := hF
                  refine Ok.op rfl (OpOk.step (v := .string ⟨⟨(xs.take (Int.toNat (IntKind.wrap .i64 ((IntKind.wrap .i64 ((IntKind.wrap .i64 ((numbV1 xs) + (digitsM (xs.drop (Int.toNat (numbV1 xs)))))) + 1)) + (numbV2 xs))))).drop (Int.toNat (IntKind.wrap .i64 ((IntKind.wrap .i64 ((numbV1 xs) + (digitsM (xs.drop (Int.toNat (numbV1 xs)))))) + 1)))⟩⟩) (Yields.sliceStr (s := xs) (l := (IntKind.wrap .i64 ((IntKind.wrap .i64 ((numbV1 xs) + (digitsM (xs.drop (Int.toNat (numbV1 xs)))))) + 1))) (h := (IntKind.wrap .i64 ((IntKind.wrap .i64 ((IntKind.wrap .i64 ((numbV1 xs) + (digitsM (xs.drop (Int.toNat (numbV1 xs)))))) + 1)) + (numbV2 xs)))) (by kernel_rfl) Tryz.underlying9 (.inl ⟨_, _, rfl, rfl⟩) (.inl ⟨_, _, rfl, rfl⟩) h015 h115 h215 ((xs.take (Int.toNat (IntKind.wrap .i64 ((IntKind.wrap .i64 ((IntKind.wrap .i64 ((numbV1 xs) + (digitsM (xs.drop (Int.toNat (numbV1 xs)))))) + 1)) + (numbV2 xs))))).drop (Int.toNat (IntKind.wrap .i64 ((IntKind.wrap .i64 ((numbV1 xs) + (digitsM (xs.drop (Int.toNat (numbV1 xs)))))) + 1)))) rfl) rfl rfl ?_)
                  refine Ok.batch 1 [(0, .string ⟨⟨xs⟩⟩), (6, .int .i64 (numbV2 xs)), (8, .pointer (some ⟨bs8, 0, none⟩)), (9, .func (.func 53) #[] #[.pointer (some ⟨bs8, 0, none⟩)]), (12, .int .i64 (IntKind.wrap .i64 ((numbV1 xs) + (digitsM (xs.drop (Int.toNat (numbV1 xs))))))), (13, .string ⟨⟨(xs.take (Int.toNat (IntKind.wrap .i64 ((IntKind.wrap .i64 ((IntKind.wrap .i64 ((numbV1 xs) + (digitsM (xs.drop (Int.toNat (numbV1 xs)))))) + 1)) + (numbV2 xs))))).drop (Int.toNat (IntKind.wrap .i64 ((IntKind.wrap .i64 ((numbV1 xs) + (digitsM (xs.drop (Int.toNat (numbV1 xs)))))) + 1)))⟩⟩)] (by kernel_rfl) ?_
                  refine Ok.nil ?_
                  refine Ok.thenN ?_
                  refine Ok.region ?_
                  refine Ok.batch 5 [(0, .string ⟨⟨xs⟩⟩), (8, .pointer (some ⟨bs8, 0, none⟩)), (9, .func (.func 53) #[] #[.pointer (some ⟨bs8, 0, none⟩)]), (12, .int .i64 (IntKind.wrap .i64 ((IntKind.wrap .i64 ((numbV1 xs) + (digitsM (xs.drop (Int.toNat (numbV1 xs)))))) + (IntKind.wrap .i64 (1 + (numbV2 xs)))))), (13, .string ⟨⟨(xs.take (Int.toNat (IntKind.wrap .i64 ((IntKind.wrap .i64 ((IntKind.wrap .i64 ((numbV1 xs) + (digitsM (xs.drop (Int.toNat (numbV1 xs)))))) + 1)) + (numbV2 xs))))).drop (Int.toNat (IntKind.wrap .i64 ((IntKind.wrap .i64 ((numbV1 xs) + (digitsM (xs.drop (Int.toNat (numbV1 xs)))))) + 1)))⟩⟩)] (by kernel_rfl) ?_
                  refine Ok.nil ?_
                  refine Ok.thenN ?_
                  refine Ok.reval 12 rfl (show (.int .i64 (IntKind.wrap .i64 ((IntKind.wrap .i64 ((numbV1 xs) + (digitsM (xs.drop (Int.toNat (numbV1 xs)))))) + (IntKind.wrap .i64 (1 + (numbV2 xs))))) : Value) = .int .i64 (numbV3 xs) from congrArg (Value.int .i64) ((if_t hc14).symm)) ?_
                  refine Ok.reval 13 rfl (show (.string ⟨⟨(xs.take (Int.toNat (IntKind.wrap .i64 ((IntKind.wrap .i64 ((IntKind.wrap .i64 ((numbV1 xs) + (digitsM (xs.drop (Int.toNat (numbV1 xs)))))) + 1)) + (numbV2 xs))))).drop (Int.toNat (IntKind.wrap .i64 ((IntKind.wrap .i64 ((numbV1 xs) + (digitsM (xs.drop (Int.toNat (numbV1 xs)))))) + 1)))⟩⟩ : Value) = .string ⟨⟨(numbV4 xs)⟩⟩ from congrArg ((fun s : List UInt8 => Value.string ⟨⟨s⟩⟩)) ((if_t hc14).symm)) ?_
                  exact fun a W hA hW => ⟨gl39, (Gext.refl w0 gl39), hA.sub (by kernel_rfl), hW, hF⟩
                · replace hF := hF.2 hc14
                  refine Ok.skip ?_
                  refine Ok.thenN ?_
                  refine Ok.reval 12 rfl (show (.int .i64 (IntKind.wrap .i64 ((numbV1 xs) + (digitsM (xs.drop (Int.toNat (numbV1 xs)))))) : Value) = .int .i64 (numbV3 xs) from congrArg (Value.int .i64) ((if_f hc14).symm)) ?_
                  refine Ok.reval 13 rfl (show (.string ⟨⟨([] : List UInt8)⟩⟩ : Value) = .string ⟨⟨(numbV4 xs)⟩⟩ from congrArg ((fun s : List UInt8 => Value.string ⟨⟨s⟩⟩)) ((if_f hc14).symm)) ?_
                  exact fun a W hA hW => ⟨gl39, (Gext.refl w0 gl39), hA.sub (by kernel_rfl), hW, hF⟩
              ·
                clear hF
                rintro a W ⟨gj56, hxj56, hA, hW, hF⟩
                refine (?_ : Ok _ _ _ _ _ _) a W hA hW
                clear hA hW
                refine Ok.seq ?_
                refine Ok.seq ?_
                refine Ok.region ?_
                refine Ok.batch 1 [(0, .string ⟨⟨xs⟩⟩), (8, .pointer (some ⟨bs8, 0, none⟩)), (9, .func (.func 53) #[] #[.pointer (some ⟨bs8, 0, none⟩)]), (12, .int .i64 (numbV3 xs)), (13, .string ⟨⟨(numbV4 xs)⟩⟩), (79, .int .i64 0)] (by kernel_rfl) ?_
                refine Ok.nil ?_
                refine Ok.thenN ?_
                refine Ok.block ?_
                obtain ⟨k, hF⟩ := hF
                refine Ok.loop (fun k a W => ∃ gl68 : Ghost, Gext w0 gj56 gl68 ∧ ∃ (x79l68 : Int) (ybs8_0l68 : Int), StA 101 [(0, .string ⟨⟨xs⟩⟩), (8, .pointer (some ⟨bs8, 0, none⟩)), (9, .func (.func 53) #[] #[.pointer (some ⟨bs8, 0, none⟩)]), (12, .int .i64 (numbV3 xs)), (13, .string ⟨⟨(numbV4 xs)⟩⟩), (79, .int .i64 x79l68)] a ∧ StW w0 [.blk bs8 (.cells #[.int .i64 ybs8_0l68] 3)] gl68 W ∧ numbl68 xs K k x79l68 ybs8_0l68) k ?_ ?_
                ·
                  exact fun a W hA hW => ⟨gj56, (Gext.refl w0 gj56), 0, ybs8_0l39, hA.sub (by kernel_rfl), hW, hF⟩
                ·
                  clear hF
                  rintro k68 a W ⟨gl68, hxl68, x79l68, ybs8_0l68, hA, hW, hF⟩
                  cases k68 with
                  | zero => exact (hF : False).elim
                  | succ k68 =>
                    refine (?_ : Ok _ _ _ _ _ _) a W hA hW
                    clear hA hW
                    refine Ok.seq ?_
                    refine Ok.region ?_
                    refine Ok.batch 1 [(0, .string ⟨⟨xs⟩⟩), (8, .pointer (some ⟨bs8, 0, none⟩)), (9, .func (.func 53) #[] #[.pointer (some ⟨bs8, 0, none⟩)]), (12, .int .i64 (numbV3 xs)), (13, .string ⟨⟨(numbV4 xs)⟩⟩), (79, .int .i64 x79l68), (80, .bool (decide (x79l68 < 3)))] (by kernel_rfl) ?_
                    refine Ok.nil ?_
                    refine Ok.thenN ?_
                    refine Ok.seq ?_
                    refine Ok.cond (b := decide (x79l68 < 3)) rfl (fun hc9 => ?_) (fun hc9 => ?_)
                    · replace hF := hF.1 hc9
                      refine Ok.skip ?_
                      refine Ok.thenN ?_
                      refine Ok.cut (fun a W => ∃ gj75 : Ghost, Gext w0 gl68 gj75 ∧ StA 101 [(0, .string ⟨⟨xs⟩⟩), (8, .pointer (some ⟨bs8, 0, none⟩)), (9, .func (.func 53) #[] #[.pointer (some ⟨bs8, 0, none⟩)]), (12, .int .i64 (numbV3 xs)), (13, .string ⟨⟨(numbV4 xs)⟩⟩), (79, .int .i64 x79l68)] a ∧ StW w0 [.blk bs8 (.cells #[.int .i64 (numbV6 xs x79l68 ybs8_0l68)] 3)] gj75 W ∧ numbj75 xs x79l68 ybs8_0l68 (numbl68 xs K k68)) ?_ ?_
                      ·
                        refine Ok.block ?_
                        refine Ok.seq ?_
                        refine Ok.region ?_
                        refine Ok.batch 2 [(0, .string ⟨⟨xs⟩⟩), (8, .pointer (some ⟨bs8, 0, none⟩)), (9, .func (.func 53) #[] #[.pointer (some ⟨bs8, 0, none⟩)]), (12, .int .i64 (numbV3 xs)), (13, .string ⟨⟨(numbV4 xs)⟩⟩), (14, .int .i64 x79l68), (79, .int .i64 x79l68)] (by kernel_rfl) ?_
                        refine Ok.nil ?_
                        refine Ok.thenN ?_
                        refine Ok.seq ?_
                        refine Ok.region ?_
                        refine Ok.batch 4 [(0, .string ⟨⟨xs⟩⟩), (8, .pointer (some ⟨bs8, 0, none⟩)), (9, .func (.func 53) #[] #[.pointer (some ⟨bs8, 0, none⟩)]), (12, .int .i64 (numbV3 xs)), (13, .string ⟨⟨(numbV4 xs)⟩⟩), (14, .int .i64 x79l68), (79, .int .i64 x79l68), (85, .bool (decide (x79l68 < ((numbV4 xs).length : Int))))] (by kernel_rfl) ?_
                        refine Ok.nil ?_
                        refine Ok.thenN ?_
                        refine Ok.cond (b := decide (x79l68 < ((numbV4 xs).length : Int))) rfl (fun hc10 => ?_) (fun hc10 => ?_)
                        · replace hF := hF.1 hc10
                          refine Ok.region ?_
                          refine Ok.batch 3 [(0, .string ⟨⟨xs⟩⟩), (8, .pointer (some ⟨bs8, 0, none⟩)), (9, .func (.func 53) #[] #[.pointer (some ⟨bs8, 0, none⟩)]), (12, .int .i64 (numbV3 xs)), (13, .string ⟨⟨(numbV4 xs)⟩⟩), (79, .int .i64 x79l68), (86, .func (.func 53) #[] #[.pointer (some ⟨bs8, 0, none⟩)]), (87, .string ⟨⟨(numbV4 xs)⟩⟩), (88, .int .i64 x79l68)] (by kernel_rfl) ?_
                          obtain ⟨h011, h111, hF⟩ := hF
                          have he11 := get_of (l := (numbV4 xs)) (0 : UInt8) h111
                          generalize hg11 : ((numbV4 xs).getD (Int.toNat x79l68) 0) = e11 at he11 hF ⊢
                          refine Ok.op rfl (OpOk.step (v := .int .u8 (e11.toNat : Int)) (Yields.indexStr (k := .i64) (i := x79l68) (s := (numbV4 xs)) (b := e11) (by kernel_rfl) (by kernel_rfl) Tryz.underlying9 h011 he11) rfl rfl ?_)
                          refine Ok.op rfl (OpOk.inline (args := #[.int .u8 (e11.toNat : Int), .pointer (some ⟨bs8, 0, none⟩)]) 10 [(0, .int .u8 (e11.toNat : Int)), (1, .pointer (some ⟨bs8, 0, none⟩))] (enters (by kernel_rfl) (fun _ => by kernel_rfl)) Tryz.func53 rfl rfl rfl rfl ?_)
                          refine Ok.region ?_
                          refine Ok.op rfl (OpOk.step (v := .int .i64 ybs8_0l68) (Yields.load 0 rfl rfl Tryz.underlying3 rfl (by kernel_rfl)) rfl rfl ?_)
                          refine Ok.batch 6 [(1, .pointer (some ⟨bs8, 0, none⟩)), (9, .int .i64 (if 1000000000 < (IntKind.wrap .i64 ((IntKind.wrap .i64 (10 * ybs8_0l68)) + (IntKind.wrap .i64 (IntKind.wrap .u8 ((e11.toNat : Int) - 48))))) then 1000000000 else (IntKind.wrap .i64 ((IntKind.wrap .i64 (10 * ybs8_0l68)) + (IntKind.wrap .i64 (IntKind.wrap .u8 ((e11.toNat : Int) - 48)))))))] (by kernel_rfl) ?_
                          refine Ok.op rfl (OpOk.store (k := 1) (v := .int .i64 (if 1000000000 < (IntKind.wrap .i64 ((IntKind.wrap .i64 (10 * ybs8_0l68)) + (IntKind.wrap .i64 (IntKind.wrap .u8 ((e11.toNat : Int) - 48))))) then 1000000000 else (IntKind.wrap .i64 ((IntKind.wrap .i64 (10 * ybs8_0l68)) + (IntKind.wrap .i64 (IntKind.wrap .u8 ((e11.toNat : Int) - 48))))))) (H' := [.blk bs8 (.cells #[.int .i64 (if 1000000000 < (IntKind.wrap .i64 ((IntKind.wrap .i64 (10 * ybs8_0l68)) + (IntKind.wrap .i64 (IntKind.wrap .u8 ((e11.toNat : Int) - 48))))) then 1000000000 else (IntKind.wrap .i64 ((IntKind.wrap .i64 (10 * ybs8_0l68)) + (IntKind.wrap .i64 (IntKind.wrap .u8 ((e11.toNat : Int) - 48))))))] 3)]) 0 rfl rfl rfl (by kernel_rfl) (by kernel_rfl) (by kernel_rfl) (by kernel_rfl) (by kernel_rfl) ?_)
                          refine Ok.nil ?_
                          refine Ok.back (vs := []) (.inr rfl) rfl .nil rfl ?_
                          refine Ok.nil ?_
                          refine Ok.blockN ?_
                          refine Ok.thenN ?_
                          subst hg11
                          refine Ok.heapEq (H' := [.blk bs8 (.cells #[.int .i64 (numbV6 xs x79l68 ybs8_0l68)] 3)]) (econs (congrArg (fun l : List Value => Ent.blk bs8 (.cells ⟨l⟩ 3)) (lcons (congrArg (Value.int .i64) ((if_t hc10).symm)) rfl)) rfl) ?_
                          exact fun a W hA hW => ⟨gl68, (Gext.refl w0 gl68), hA.sub (by kernel_rfl), hW, hF⟩
                        · replace hF := hF.2 hc10
                          refine Ok.region ?_
                          refine Ok.batch 1 [(0, .string ⟨⟨xs⟩⟩), (8, .pointer (some ⟨bs8, 0, none⟩)), (9, .func (.func 53) #[] #[.pointer (some ⟨bs8, 0, none⟩)]), (12, .int .i64 (numbV3 xs)), (13, .string ⟨⟨(numbV4 xs)⟩⟩), (79, .int .i64 x79l68), (91, .func (.func 53) #[] #[.pointer (some ⟨bs8, 0, none⟩)])] (by kernel_rfl) ?_
                          refine Ok.op rfl (OpOk.inline (args := #[.int .u8 48, .pointer (some ⟨bs8, 0, none⟩)]) 10 [(0, .int .u8 48), (1, .pointer (some ⟨bs8, 0, none⟩))] (enters (by kernel_rfl) (fun _ => by kernel_rfl)) Tryz.func53 rfl rfl rfl rfl ?_)
                          refine Ok.region ?_
                          refine Ok.op rfl (OpOk.step (v := .int .i64 ybs8_0l68) (Yields.load 0 rfl rfl Tryz.underlying3 rfl (by kernel_rfl)) rfl rfl ?_)
                          refine Ok.batch 6 [(1, .pointer (some ⟨bs8, 0, none⟩)), (9, .int .i64 (if 1000000000 < (IntKind.wrap .i64 ((IntKind.wrap .i64 (10 * ybs8_0l68)) + (IntKind.wrap .i64 (IntKind.wrap .u8 (48 - 48))))) then 1000000000 else (IntKind.wrap .i64 ((IntKind.wrap .i64 (10 * ybs8_0l68)) + (IntKind.wrap .i64 (IntKind.wrap .u8 (48 - 48)))))))] (by kernel_rfl) ?_
                          refine Ok.op rfl (OpOk.store (k := 1) (v := .int .i64 (if 1000000000 < (IntKind.wrap .i64 ((IntKind.wrap .i64 (10 * ybs8_0l68)) + (IntKind.wrap .i64 (IntKind.wrap .u8 (48 - 48))))) then 1000000000 else (IntKind.wrap .i64 ((IntKind.wrap .i64 (10 * ybs8_0l68)) + (IntKind.wrap .i64 (IntKind.wrap .u8 (48 - 48))))))) (H' := [.blk bs8 (.cells #[.int .i64 (if 1000000000 < (IntKind.wrap .i64 ((IntKind.wrap .i64 (10 * ybs8_0l68)) + (IntKind.wrap .i64 (IntKind.wrap .u8 (48 - 48))))) then 1000000000 else (IntKind.wrap .i64 ((IntKind.wrap .i64 (10 * ybs8_0l68)) + (IntKind.wrap .i64 (IntKind.wrap .u8 (48 - 48))))))] 3)]) 0 rfl rfl rfl (by kernel_rfl) (by kernel_rfl) (by kernel_rfl) (by kernel_rfl) (by kernel_rfl) ?_)
                          refine Ok.nil ?_
                          refine Ok.back (vs := []) (.inr rfl) rfl .nil rfl ?_
                          refine Ok.nil ?_
                          refine Ok.blockN ?_
                          refine Ok.thenN ?_
                          refine Ok.heapEq (H' := [.blk bs8 (.cells #[.int .i64 (numbV6 xs x79l68 ybs8_0l68)] 3)]) (econs (congrArg (fun l : List Value => Ent.blk bs8 (.cells ⟨l⟩ 3)) (lcons (congrArg (Value.int .i64) ((if_f hc10).symm)) rfl)) rfl) ?_
                          exact fun a W hA hW => ⟨gl68, (Gext.refl w0 gl68), hA.sub (by kernel_rfl), hW, hF⟩
                      ·
                        clear hF
                        rintro a W ⟨gj75, hxj75, hA, hW, hF⟩
                        refine (?_ : Ok _ _ _ _ _ _) a W hA hW
                        clear hA hW
                        refine Ok.region ?_
                        refine Ok.batch 2 [(0, .string ⟨⟨xs⟩⟩), (8, .pointer (some ⟨bs8, 0, none⟩)), (9, .func (.func 53) #[] #[.pointer (some ⟨bs8, 0, none⟩)]), (12, .int .i64 (numbV3 xs)), (13, .string ⟨⟨(numbV4 xs)⟩⟩), (79, .int .i64 (IntKind.wrap .i64 (x79l68 + 1)))] (by kernel_rfl) ?_
                        refine Ok.nil ?_
                        refine Ok.thenN ?_
                        exact fun a W hA hW => ⟨k68, Nat.lt_succ_self _, gj75, (hxl68.trans hxj75), IntKind.wrap .i64 (x79l68 + 1), (numbV6 xs x79l68 ybs8_0l68), hA.sub (by kernel_rfl), hW, hF⟩
                    · replace hF := hF.2 hc9
                      refine Ok.exit ?_
                      refine Ok.thenE ?_
                      refine Ok.thenE ?_
                      refine Ok.blockHit ?_
                      refine Ok.thenN ?_
                      refine Ok.cut (fun a W => ∃ gj85 : Ghost, Gext w0 gl68 gj85 ∧ StA 101 [(8, .pointer (some ⟨bs8, 0, none⟩)), (12, .int .i64 (numbV3 xs))] a ∧ StW w0 [.blk bs8 (.cells #[.int .i64 (numbV9 xs ybs8_0l68)] 3)] gj85 W ∧ numbj85 xs K ybs8_0l68) ?_ ?_
                      ·
                        refine Ok.seq ?_
                        refine Ok.region ?_
                        refine Ok.batch 1 [(8, .pointer (some ⟨bs8, 0, none⟩)), (12, .int .i64 (numbV3 xs)), (94, .string ⟨⟨xs⟩⟩)] (by kernel_rfl) ?_
                        obtain ⟨h012, h112, hF⟩ := hF
                        have he12 := get_of (l := xs) (0 : UInt8) h112
                        generalize hg12 : (xs.getD (Int.toNat 0) 0) = e12 at he12 hF ⊢
                        refine Ok.op rfl (OpOk.step (v := .int .u8 (e12.toNat : Int)) (Yields.indexStr (k := .i64) (i := 0) (s := xs) (b := e12) (by kernel_rfl) (by kernel_rfl) Tryz.underlying9 h012 he12) rfl rfl ?_)
                        refine Ok.batch 1 [(8, .pointer (some ⟨bs8, 0, none⟩)), (12, .int .i64 (numbV3 xs)), (96, .bool ((e12.toNat : Int) == 45))] (by kernel_rfl) ?_
                        refine Ok.nil ?_
                        refine Ok.thenN ?_
                        refine Ok.cond (b := ((e12.toNat : Int) == 45)) rfl (fun hc13 => ?_) (fun hc13 => ?_)
                        · replace hF := hF.1 hc13
                          refine Ok.region ?_
                          refine Ok.op rfl (OpOk.step (v := .int .i64 ybs8_0l68) (Yields.load 0 rfl rfl Tryz.underlying3 rfl (by kernel_rfl)) rfl rfl ?_)
                          refine Ok.batch 1 [(8, .pointer (some ⟨bs8, 0, none⟩)), (12, .int .i64 (numbV3 xs)), (98, .int .i64 (IntKind.wrap .i64 (0 - ybs8_0l68)))] (by kernel_rfl) ?_
                          refine Ok.op rfl (OpOk.store (k := 1) (v := .int .i64 (IntKind.wrap .i64 (0 - ybs8_0l68))) (H' := [.blk bs8 (.cells #[.int .i64 (IntKind.wrap .i64 (0 - ybs8_0l68))] 3)]) 0 rfl rfl rfl (by kernel_rfl) (by kernel_rfl) (by kernel_rfl) (by kernel_rfl) (by kernel_rfl) ?_)
                          refine Ok.nil ?_
                          refine Ok.thenN ?_
                          subst hg12
                          refine Ok.heapEq (H' := [.blk bs8 (.cells #[.int .i64 (numbV9 xs ybs8_0l68)] 3)]) (econs (congrArg (fun l : List Value => Ent.blk bs8 (.cells ⟨l⟩ 3)) (lcons (congrArg (Value.int .i64) ((if_t hc13).symm)) rfl)) rfl) ?_
                          exact fun a W hA hW => ⟨gl68, (Gext.refl w0 gl68), hA.sub (by kernel_rfl), hW, hF⟩
                        · replace hF := hF.2 hc13
                          refine Ok.skip ?_
                          refine Ok.thenN ?_
                          subst hg12
                          refine Ok.heapEq (H' := [.blk bs8 (.cells #[.int .i64 (numbV9 xs ybs8_0l68)] 3)]) (econs (congrArg (fun l : List Value => Ent.blk bs8 (.cells ⟨l⟩ 3)) (lcons (congrArg (Value.int .i64) ((if_f hc13).symm)) rfl)) rfl) ?_
                          exact fun a W hA hW => ⟨gl68, (Gext.refl w0 gl68), hA.sub (by kernel_rfl), hW, hF⟩
                      ·
                        clear hF
                        rintro a W ⟨gj85, hxj85, hA, hW, hF⟩
                        refine (?_ : Ok _ _ _ _ _ _) a W hA hW
                        clear hA hW
                        refine Ok.seq ?_
                        refine Ok.region ?_
                        refine Ok.op rfl (OpOk.step (v := .int .i64 (numbV9 xs ybs8_0l68)) (Yields.load 0 rfl rfl Tryz.underlying3 rfl (by kernel_rfl)) rfl rfl ?_)
                        refine Ok.batch 3 [(2, .int .i64 (numbV9 xs ybs8_0l68)), (3, .int .i64 (numbV3 xs))] (by kernel_rfl) ?_
                        refine Ok.nil ?_
                        refine Ok.thenN ?_
                        refine Ok.ret ?_
                        exact Ok.resP (vs := [.int .i64 (numbV9 xs ybs8_0l68), .int .i64 (numbV3 xs)]) [] [] (by decide) rfl (.inl rfl) rfl (.cons (.tmp rfl) (.cons (.tmp rfl) .nil)) ((((((hxj5.trans hxj15).trans hx5).trans hxl39).trans hxj56).trans hxl68).trans hxj85) ⟨(numbV9 xs ybs8_0l68), (numbV3 xs), rfl, rfl, hF⟩
end Go.Proofs.YtjehllphdpkjeaaGreatDoor.Css
