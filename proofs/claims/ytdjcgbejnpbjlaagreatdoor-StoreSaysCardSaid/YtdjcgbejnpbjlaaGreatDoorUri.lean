/- Prefixes; strconv.Atoi and strconv.Itoa. -/
import Derived.Test.YtdjcgbejnpbjlaaGreatDoorTri
import Derived.Test.YtdjcgbejnpbjlaaGreatDoorSpl
import Derived.Test.YtdjcgbejnpbjlaaGreatDoorMor
import Derived.Test.YtdjcgbejnpbjlaaGreatDoorUp
import Derived.Lib.AppendIntMem
import Derived.Lib.AtoiErrMem
import Derived.Lib.ItoaLen
namespace Go.Proofs.YtdjcgbejnpbjlaaGreatDoor.Ui
open Go Go.Eng Go.RowKit Go.Shelf Go.Proofs Sp Ti
set_option linter.unusedVariables false
def slhpj3 (xs : List UInt8) (xprefix : List UInt8) (K : Bool → Prop) : Prop :=
 K ((decide ((xs.length : Int) ≥ (xprefix.length : Int))) && ((xs.take (Int.toNat (xprefix.length : Int))) == xprefix))
def slhpF (xs : List UInt8) (xprefix : List UInt8) (K : Bool → Prop) : Prop :=
 ((decide ((xs.length : Int) ≥ (xprefix.length : Int))) = true → (0 : Int) ≤ 0 ∧ (0 : Int) ≤ (xprefix.length : Int) ∧ (xprefix.length : Int) ≤ (xs.length : Int) ∧ slhpj3 xs xprefix K) ∧ ((decide ((xs.length : Int) ≥ (xprefix.length : Int))) = false → slhpj3 xs xprefix K)
set_option maxHeartbeats 4000000 in
set_option maxRecDepth 100000 in
set_option linter.unusedVariables false in
theorem slhp_ok {g : Ghost} (xs : List UInt8) (xprefix : List UInt8) (K : Bool → Prop)
  (hF : slhpF xs xprefix K) : CallsH Tryz.prog 47 #[.string ⟨⟨xs⟩⟩, .string ⟨⟨xprefix⟩⟩] g [] (fun g' H' v => ∃ (r0 : Bool), v = .bool r0 ∧ H' = [] ∧ K r0) := by
 refine CallsH.enter 18 [(0, .string ⟨⟨xs⟩⟩), (1, .string ⟨⟨xprefix⟩⟩)] Tryz.func47 rfl (by kernel_rfl) (by kernel_rfl) (by kernel_rfl) fun w0 => ?_
 refine Ok.seq ?_
 refine Ok.region ?_
 refine Ok.batch 1 [(0, .string ⟨⟨xs⟩⟩), (1, .string ⟨⟨xprefix⟩⟩)] (by kernel_rfl) ?_
 refine Ok.nil ?_
 refine Ok.thenN ?_
 refine Ok.cut (fun a W => StA 18 [(4, .bool ((decide ((xs.length : Int) ≥ (xprefix.length : Int))) && ((xs.take (Int.toNat (xprefix.length : Int))) == xprefix)))] a ∧ StW w0 [] g W ∧ slhpj3 xs xprefix K) ?_ ?_
 ·
  refine Ok.region ?_
  refine Ok.batch 6 [(0, .string ⟨⟨xs⟩⟩), (1, .string ⟨⟨xprefix⟩⟩), (10, .bool (decide ((xs.length : Int) ≥ (xprefix.length : Int))))] (by kernel_rfl) ?_
  refine Ok.boolAt 10 (decide ((xs.length : Int) ≥ (xprefix.length : Int))) rfl (fun hc1 => ?_) (fun hc1 => ?_)
  ·replace hF := hF.1 hc1
   refine Ok.batch 3 [(1, .string ⟨⟨xprefix⟩⟩), (10, .bool true), (11, .string ⟨⟨xs⟩⟩), (13, .int .i64 (xprefix.length : Int))] (by kernel_rfl) ?_
   obtain ⟨h02, h12, h22, hF⟩ := hF
   refine Ok.opYes (j := 5) (d := 10) (want := true) (b := true) rfl (by kernel_rfl) (by kernel_rfl) rfl (OpOk.step (v := .string ⟨⟨xs.take (Int.toNat (xprefix.length : Int))⟩⟩) (Yields.sliceStr (s := xs) (l := 0) (h := (xprefix.length : Int)) (by kernel_rfl) Tryz.underlying9 (.inr ⟨rfl, rfl⟩) (.inl ⟨_, _, rfl, rfl⟩) h02 h12 h22 (xs.take (Int.toNat (xprefix.length : Int))) (by simp)) rfl rfl ?_)
   refine Ok.batch 1 [(10, .bool true), (14, .string ⟨⟨xs.take (Int.toNat (xprefix.length : Int))⟩⟩), (15, .string ⟨⟨xprefix⟩⟩)] (by kernel_rfl) ?_
   refine Ok.opYes (j := 5) (d := 10) (want := true) (b := true) rfl (by kernel_rfl) (by kernel_rfl) rfl (OpOk.step (v := .bool ((xs.take (Int.toNat (xprefix.length : Int))) == xprefix)) (Yields.strCmp (f := .eql) (a := (xs.take (Int.toNat (xprefix.length : Int)))) (b := xprefix) (by kernel_rfl) (by kernel_rfl) rfl) rfl rfl ?_)
   refine Ok.batch 2 [(4, .bool ((xs.take (Int.toNat (xprefix.length : Int))) == xprefix))] (by kernel_rfl) ?_
   refine Ok.nil ?_
   refine Ok.thenN ?_
   refine Ok.reval 4 rfl (show (.bool ((xs.take (Int.toNat (xprefix.length : Int))) == xprefix) : Value) = .bool ((decide ((xs.length : Int) ≥ (xprefix.length : Int))) && ((xs.take (Int.toNat (xprefix.length : Int))) == xprefix)) from congrArg (Value.bool) (mand_t hc1)) ?_
   exact fun a W hA hW => ⟨hA.sub (by kernel_rfl), hW, hF⟩
  ·replace hF := hF.2 hc1
   refine Ok.batch 8 [(4, .bool false)] (by kernel_rfl) ?_
   refine Ok.nil ?_
   refine Ok.thenN ?_
   refine Ok.reval 4 rfl (show (.bool false : Value) = .bool ((decide ((xs.length : Int) ≥ (xprefix.length : Int))) && ((xs.take (Int.toNat (xprefix.length : Int))) == xprefix)) from congrArg (Value.bool) (mand_f hc1)) ?_
   exact fun a W hA hW => ⟨hA.sub (by kernel_rfl), hW, hF⟩
 ·
  clear hF
  rintro a W ⟨hA, hW, hF⟩
  refine (?_ : Ok _ _ _ _ _ _) a W hA hW
  clear hA hW
  refine Ok.ret ?_
  exact Ok.resH (vs := [.bool ((decide ((xs.length : Int) ≥ (xprefix.length : Int))) && ((xs.take (Int.toNat (xprefix.length : Int))) == xprefix))]) (.inl rfl) rfl (.cons (.tmp rfl) .nil) (Gext.refl w0 g) ⟨((decide ((xs.length : Int) ≥ (xprefix.length : Int))) && ((xs.take (Int.toNat (xprefix.length : Int))) == xprefix)), rfl, rfl, hF⟩
def slhpj3M (xs : List UInt8) (xprefix : List UInt8) : Bool := ((decide ((xs.length : Int) ≥ (xprefix.length : Int))) && ((xs.take (Int.toNat (xprefix.length : Int))) == xprefix))
set_option linter.unusedSimpArgs false in
set_option linter.unusedVariables false in
theorem slhpj3_A (xs : List UInt8) (xprefix : List UInt8) (P : Bool → Prop) (h : P (slhpj3M xs xprefix)) : slhpj3 xs xprefix (fun k0 => P k0) := by
 unfold slhpj3M at h
 unfold slhpj3
 exact h
def slhpM (xs : List UInt8) (xprefix : List UInt8) : Bool := (slhpj3M xs xprefix)
set_option linter.unusedSimpArgs false in
set_option linter.unusedVariables false in
theorem slhpF_A (xs : List UInt8) (xprefix : List UInt8) (P : Bool → Prop) (h : P (slhpM xs xprefix)) : slhpF xs xprefix (fun k0 => P k0) := by
 unfold slhpM at h
 unfold slhpF
 refine ⟨fun hc0 => ?_, fun hc0 => ?_⟩
 ·skip
  have hd0 := of_decide_eq_true hc0
  refine ⟨?_, ?_, ?_, ?_⟩
  ·first | omega | assumption | exact trivial | (have h0 := List.length_pos_iff.mpr (by assumption); omega) | (simp; omega) | (simp at *; omega)
  ·first | omega | assumption | exact trivial | (have h0 := List.length_pos_iff.mpr (by assumption); omega) | (simp; omega) | (simp at *; omega)
  ·first | omega | assumption | exact trivial | (have h0 := List.length_pos_iff.mpr (by assumption); omega) | (simp; omega) | (simp at *; omega)
  exact slhpj3_A xs xprefix _ h
 ·skip
  have hd0 := of_decide_eq_false hc0
  exact slhpj3_A xs xprefix _ h
theorem slhp_F (xs : List UInt8) (xprefix : List UInt8) : slhpF xs xprefix (fun k0 => k0 = slhpM xs xprefix) :=
 slhpF_A xs xprefix (fun z => z = slhpM xs xprefix) rfl
set_option linter.unusedVariables false in
theorem slhp_c {g : Ghost} (xs : List UInt8) (xprefix : List UInt8)  : CallsG Tryz.prog 47 #[.string ⟨⟨xs⟩⟩, .string ⟨⟨xprefix⟩⟩] g (.bool (slhpM xs xprefix)) :=
 (slhp_ok xs xprefix _ (slhp_F xs xprefix)).gives (by rintro g' H' v _ ⟨r0, rfl, rfl, hK⟩; subst hK; rfl)
theorem hp_le {s p : List UInt8} (h : slhpM s p = true) : (p.length : Int) ≤ (s.length : Int) := by
 have h : (decide ((s.length : Int) ≥ (p.length : Int)) && ((s.take (Int.toNat (p.length : Int))) == p)) = true := h
 rw [Bool.and_eq_true, decide_eq_true_eq] at h
 omega
theorem hp_le' {s p : List UInt8} (h : (!(slhpM s p)) = false) : (p.length : Int) ≤ (s.length : Int) := hp_le (by simpa using h)
def hpfF (xs : List UInt8) (xprefix : List UInt8) (K : Bool → Prop) : Prop :=
 K (slhpM xs xprefix)
set_option maxHeartbeats 4000000 in
set_option maxRecDepth 100000 in
set_option linter.unusedVariables false in
theorem hpf_ok {g : Ghost} (xs : List UInt8) (xprefix : List UInt8) (K : Bool → Prop)
  (hF : hpfF xs xprefix K) : CallsH Tryz.prog 28 #[.string ⟨⟨xs⟩⟩, .string ⟨⟨xprefix⟩⟩] g [] (fun g' H' v => ∃ (r0 : Bool), v = .bool r0 ∧ H' = [] ∧ K r0) := by
 refine CallsH.enter 8 [(0, .string ⟨⟨xs⟩⟩), (1, .string ⟨⟨xprefix⟩⟩)] Tryz.func28 rfl (by kernel_rfl) (by kernel_rfl) (by kernel_rfl) fun w0 => ?_
 refine Ok.seq ?_
 refine Ok.region ?_
 refine Ok.batch 1 [(0, .string ⟨⟨xs⟩⟩), (1, .string ⟨⟨xprefix⟩⟩)] (by kernel_rfl) ?_
 refine Ok.nil ?_
 refine Ok.thenN ?_
 refine Ok.seq ?_
 refine Ok.region ?_
 refine Ok.batch 2 [(5, .string ⟨⟨xs⟩⟩), (6, .string ⟨⟨xprefix⟩⟩)] (by kernel_rfl) ?_
 refine Ok.op rfl (OpOk.callG (v := .bool (slhpM xs xprefix)) (enters (by kernel_rfl) (fun _ => by kernel_rfl)) (fun W hW => slhp_c xs xprefix) rfl ?_)
 refine Ok.batch 1 [(4, .bool (slhpM xs xprefix))] (by kernel_rfl) ?_
 refine Ok.nil ?_
 refine Ok.thenN ?_
 refine Ok.ret ?_
 exact Ok.resH (vs := [.bool (slhpM xs xprefix)]) (.inl rfl) rfl (.cons (.tmp rfl) .nil) (Gext.refl w0 g) ⟨(slhpM xs xprefix), rfl, rfl, hF⟩
def hpfM (xs : List UInt8) (xprefix : List UInt8) : Bool := (slhpM xs xprefix)
set_option linter.unusedSimpArgs false in
set_option linter.unusedVariables false in
theorem hpfF_A (xs : List UInt8) (xprefix : List UInt8) (P : Bool → Prop) (h : P (hpfM xs xprefix)) : hpfF xs xprefix (fun k0 => P k0) := by
 unfold hpfM at h
 unfold hpfF
 exact h
theorem hpf_F (xs : List UInt8) (xprefix : List UInt8) : hpfF xs xprefix (fun k0 => k0 = hpfM xs xprefix) :=
 hpfF_A xs xprefix (fun z => z = hpfM xs xprefix) rfl
set_option linter.unusedVariables false in
theorem hpf_c {g : Ghost} (xs : List UInt8) (xprefix : List UInt8)  : CallsG Tryz.prog 28 #[.string ⟨⟨xs⟩⟩, .string ⟨⟨xprefix⟩⟩] g (.bool (hpfM xs xprefix)) :=
 (hpf_ok xs xprefix _ (hpf_F xs xprefix)).gives (by rintro g' H' v _ ⟨r0, rfl, rfl, hK⟩; subst hK; rfl)
def sltpF (xs : List UInt8) (xprefix : List UInt8) (K : (List UInt8) → Prop) : Prop :=
 (((slhpM xs xprefix)) = true → (0 : Int) ≤ (xprefix.length : Int) ∧ ((xprefix.length : Int) : Int) ≤ (xs.length : Int) ∧ (xs.length : Int) ≤ (xs.length : Int) ∧ K (xs.drop (Int.toNat (xprefix.length : Int)))) ∧ (((slhpM xs xprefix)) = false → K xs)
set_option maxHeartbeats 4000000 in
set_option maxRecDepth 100000 in
set_option linter.unusedVariables false in
theorem sltp_ok {g : Ghost} (xs : List UInt8) (xprefix : List UInt8) (K : (List UInt8) → Prop)
  (hF : sltpF xs xprefix K) : CallsH Tryz.prog 52 #[.string ⟨⟨xs⟩⟩, .string ⟨⟨xprefix⟩⟩] g [] (fun g' H' v => ∃ (r0 : List UInt8), v = .string ⟨⟨r0⟩⟩ ∧ H' = [] ∧ K r0) := by
 refine CallsH.enter 13 [(0, .string ⟨⟨xs⟩⟩), (1, .string ⟨⟨xprefix⟩⟩)] Tryz.func52 rfl (by kernel_rfl) (by kernel_rfl) (by kernel_rfl) fun w0 => ?_
 refine Ok.seq ?_
 refine Ok.region ?_
 refine Ok.batch 1 [(0, .string ⟨⟨xs⟩⟩), (1, .string ⟨⟨xprefix⟩⟩)] (by kernel_rfl) ?_
 refine Ok.nil ?_
 refine Ok.thenN ?_
 refine Ok.seq ?_
 refine Ok.seq ?_
 refine Ok.region ?_
 refine Ok.batch 2 [(0, .string ⟨⟨xs⟩⟩), (1, .string ⟨⟨xprefix⟩⟩), (5, .string ⟨⟨xs⟩⟩), (6, .string ⟨⟨xprefix⟩⟩)] (by kernel_rfl) ?_
 refine Ok.op rfl (OpOk.callG (v := .bool (slhpM xs xprefix)) (enters (by kernel_rfl) (fun _ => by kernel_rfl)) (fun W hW => slhp_c xs xprefix) rfl ?_)
 refine Ok.nil ?_
 refine Ok.thenN ?_
 refine Ok.cond (b := (slhpM xs xprefix)) rfl (fun hc1 => ?_) (fun hc1 => ?_)
 ·replace hF := hF.1 hc1
  refine Ok.seq ?_
  refine Ok.region ?_
  refine Ok.batch 3 [(8, .string ⟨⟨xs⟩⟩), (10, .int .i64 (xprefix.length : Int))] (by kernel_rfl) ?_
  obtain ⟨h02, h12, h22, hF⟩ := hF
  refine Ok.op rfl (OpOk.step (v := .string ⟨⟨xs.drop (Int.toNat (xprefix.length : Int))⟩⟩) (Yields.sliceStr (s := xs) (l := (xprefix.length : Int)) (h := (xs.length : Int)) (by kernel_rfl) Tryz.underlying9 (.inl ⟨_, _, rfl, rfl⟩) (.inr ⟨rfl, rfl⟩) h02 h12 h22 (xs.drop (Int.toNat (xprefix.length : Int))) (by rw [show ((xs.length : Int)).toNat = xs.length from Int.toNat_natCast _, List.take_length])) rfl rfl ?_)
  refine Ok.batch 1 [(4, .string ⟨⟨xs.drop (Int.toNat (xprefix.length : Int))⟩⟩)] (by kernel_rfl) ?_
  refine Ok.nil ?_
  refine Ok.thenN ?_
  refine Ok.ret ?_
  refine Ok.thenR ?_
  exact Ok.resH (vs := [.string ⟨⟨xs.drop (Int.toNat (xprefix.length : Int))⟩⟩]) (.inl rfl) rfl (.cons (.tmp rfl) .nil) (Gext.refl w0 g) ⟨(xs.drop (Int.toNat (xprefix.length : Int))), rfl, rfl, hF⟩
 ·replace hF := hF.2 hc1
  refine Ok.skip ?_
  refine Ok.thenN ?_
  refine Ok.seq ?_
  refine Ok.region ?_
  refine Ok.batch 2 [(4, .string ⟨⟨xs⟩⟩)] (by kernel_rfl) ?_
  refine Ok.nil ?_
  refine Ok.thenN ?_
  refine Ok.ret ?_
  exact Ok.resH (vs := [.string ⟨⟨xs⟩⟩]) (.inl rfl) rfl (.cons (.tmp rfl) .nil) (Gext.refl w0 g) ⟨xs, rfl, rfl, hF⟩
def sltpM (xs : List UInt8) (xprefix : List UInt8) : List UInt8 := (if (slhpM xs xprefix) = true then (xs.drop (Int.toNat (xprefix.length : Int))) else xs)
set_option linter.unusedSimpArgs false in
set_option linter.unusedVariables false in
theorem sltpF_A (xs : List UInt8) (xprefix : List UInt8) (P : List UInt8 → Prop) (h : P (sltpM xs xprefix)) : sltpF xs xprefix (fun k0 => P k0) := by
 unfold sltpM at h
 unfold sltpF
 refine ⟨fun hc0 => ?_, fun hc0 => ?_⟩
 ·rw [if_t hc0] at h
  refine ⟨?_, ?_, ?_, ?_⟩
  ·first | exact hp_le' (by assumption) | exact hp_le (by assumption) | omega | assumption | exact trivial | (have h0 := List.length_pos_iff.mpr (by assumption); omega) | (simp; omega) | (simp at *; omega)
  ·first | exact hp_le' (by assumption) | exact hp_le (by assumption) | omega | assumption | exact trivial | (have h0 := List.length_pos_iff.mpr (by assumption); omega) | (simp; omega) | (simp at *; omega)
  ·first | exact hp_le' (by assumption) | exact hp_le (by assumption) | omega | assumption | exact trivial | (have h0 := List.length_pos_iff.mpr (by assumption); omega) | (simp; omega) | (simp at *; omega)
  exact h
 ·rw [if_f hc0] at h
  exact h
theorem sltp_F (xs : List UInt8) (xprefix : List UInt8) : sltpF xs xprefix (fun k0 => k0 = sltpM xs xprefix) :=
 sltpF_A xs xprefix (fun z => z = sltpM xs xprefix) rfl
set_option linter.unusedVariables false in
theorem sltp_c {g : Ghost} (xs : List UInt8) (xprefix : List UInt8)  : CallsG Tryz.prog 52 #[.string ⟨⟨xs⟩⟩, .string ⟨⟨xprefix⟩⟩] g (.string ⟨⟨(sltpM xs xprefix)⟩⟩) :=
 (sltp_ok xs xprefix _ (sltp_F xs xprefix)).gives (by rintro g' H' v _ ⟨r0, rfl, rfl, hK⟩; subst hK; rfl)
def tpfF (xs : List UInt8) (xprefix : List UInt8) (K : (List UInt8) → Prop) : Prop :=
 K (sltpM xs xprefix)
set_option maxHeartbeats 4000000 in
set_option maxRecDepth 100000 in
set_option linter.unusedVariables false in
theorem tpf_ok {g : Ghost} (xs : List UInt8) (xprefix : List UInt8) (K : (List UInt8) → Prop)
  (hF : tpfF xs xprefix K) : CallsH Tryz.prog 34 #[.string ⟨⟨xs⟩⟩, .string ⟨⟨xprefix⟩⟩] g [] (fun g' H' v => ∃ (r0 : List UInt8), v = .string ⟨⟨r0⟩⟩ ∧ H' = [] ∧ K r0) := by
 refine CallsH.enter 8 [(0, .string ⟨⟨xs⟩⟩), (1, .string ⟨⟨xprefix⟩⟩)] Tryz.func34 rfl (by kernel_rfl) (by kernel_rfl) (by kernel_rfl) fun w0 => ?_
 refine Ok.seq ?_
 refine Ok.region ?_
 refine Ok.batch 1 [(0, .string ⟨⟨xs⟩⟩), (1, .string ⟨⟨xprefix⟩⟩)] (by kernel_rfl) ?_
 refine Ok.nil ?_
 refine Ok.thenN ?_
 refine Ok.seq ?_
 refine Ok.region ?_
 refine Ok.batch 2 [(5, .string ⟨⟨xs⟩⟩), (6, .string ⟨⟨xprefix⟩⟩)] (by kernel_rfl) ?_
 refine Ok.op rfl (OpOk.callG (v := .string ⟨⟨(sltpM xs xprefix)⟩⟩) (enters (by kernel_rfl) (fun _ => by kernel_rfl)) (fun W hW => sltp_c xs xprefix) rfl ?_)
 refine Ok.batch 1 [(4, .string ⟨⟨(sltpM xs xprefix)⟩⟩)] (by kernel_rfl) ?_
 refine Ok.nil ?_
 refine Ok.thenN ?_
 refine Ok.ret ?_
 exact Ok.resH (vs := [.string ⟨⟨(sltpM xs xprefix)⟩⟩]) (.inl rfl) rfl (.cons (.tmp rfl) .nil) (Gext.refl w0 g) ⟨(sltpM xs xprefix), rfl, rfl, hF⟩
def tpfM (xs : List UInt8) (xprefix : List UInt8) : List UInt8 := (sltpM xs xprefix)
set_option linter.unusedSimpArgs false in
set_option linter.unusedVariables false in
theorem tpfF_A (xs : List UInt8) (xprefix : List UInt8) (P : List UInt8 → Prop) (h : P (tpfM xs xprefix)) : tpfF xs xprefix (fun k0 => P k0) := by
 unfold tpfM at h
 unfold tpfF
 exact h
theorem tpf_F (xs : List UInt8) (xprefix : List UInt8) : tpfF xs xprefix (fun k0 => k0 = tpfM xs xprefix) :=
 tpfF_A xs xprefix (fun z => z = tpfM xs xprefix) rfl
set_option linter.unusedVariables false in
theorem tpf_c {g : Ghost} (xs : List UInt8) (xprefix : List UInt8)  : CallsG Tryz.prog 34 #[.string ⟨⟨xs⟩⟩, .string ⟨⟨xprefix⟩⟩] g (.string ⟨⟨(tpfM xs xprefix)⟩⟩) :=
 (tpf_ok xs xprefix _ (tpf_F xs xprefix)).gives (by rintro g' H' v _ ⟨r0, rfl, rfl, hK⟩; subst hK; rfl)
def slcpF (xs : List UInt8) (xprefix : List UInt8) (K : (List UInt8) → Bool → Prop) : Prop :=
 ((!(slhpM xs xprefix)) = true → K xs false) ∧ ((!(slhpM xs xprefix)) = false → (0 : Int) ≤ (xprefix.length : Int) ∧ ((xprefix.length : Int) : Int) ≤ (xs.length : Int) ∧ (xs.length : Int) ≤ (xs.length : Int) ∧ K (xs.drop (Int.toNat (xprefix.length : Int))) true)
set_option maxHeartbeats 4000000 in
set_option maxRecDepth 100000 in
set_option linter.unusedVariables false in
theorem slcp_ok {g : Ghost} (xs : List UInt8) (xprefix : List UInt8) (K : (List UInt8) → Bool → Prop)
  (hF : slcpF xs xprefix K) : CallsH Tryz.prog 57 #[.string ⟨⟨xs⟩⟩, .string ⟨⟨xprefix⟩⟩] g [] (fun g' H' v => ∃ (r0 : List UInt8), ∃ (r1 : Bool), v = .tuple #[.string ⟨⟨r0⟩⟩, .bool r1] ∧ H' = [] ∧ K r0 r1) := by
 refine CallsH.enter 15 [(0, .string ⟨⟨xs⟩⟩), (1, .string ⟨⟨xprefix⟩⟩)] Tryz.func57 rfl (by kernel_rfl) (by kernel_rfl) (by kernel_rfl) fun w0 => ?_
 refine Ok.seq ?_
 refine Ok.region ?_
 refine Ok.batch 2 [(0, .string ⟨⟨xs⟩⟩), (1, .string ⟨⟨xprefix⟩⟩)] (by kernel_rfl) ?_
 refine Ok.nil ?_
 refine Ok.thenN ?_
 refine Ok.seq ?_
 refine Ok.seq ?_
 refine Ok.region ?_
 refine Ok.batch 2 [(0, .string ⟨⟨xs⟩⟩), (1, .string ⟨⟨xprefix⟩⟩), (6, .string ⟨⟨xs⟩⟩), (7, .string ⟨⟨xprefix⟩⟩)] (by kernel_rfl) ?_
 refine Ok.op rfl (OpOk.callG (v := .bool (slhpM xs xprefix)) (enters (by kernel_rfl) (fun _ => by kernel_rfl)) (fun W hW => slhp_c xs xprefix) rfl ?_)
 refine Ok.batch 1 [(0, .string ⟨⟨xs⟩⟩), (1, .string ⟨⟨xprefix⟩⟩), (9, .bool (!(slhpM xs xprefix)))] (by kernel_rfl) ?_
 refine Ok.nil ?_
 refine Ok.thenN ?_
 refine Ok.cond (b := !(slhpM xs xprefix)) rfl (fun hc1 => ?_) (fun hc1 => ?_)
 ·replace hF := hF.1 hc1
  refine Ok.seq ?_
  refine Ok.region ?_
  refine Ok.batch 3 [(4, .string ⟨⟨xs⟩⟩), (5, .bool false)] (by kernel_rfl) ?_
  refine Ok.nil ?_
  refine Ok.thenN ?_
  refine Ok.ret ?_
  refine Ok.thenR ?_
  exact Ok.resH (vs := [.string ⟨⟨xs⟩⟩, .bool false]) (.inl rfl) rfl (.cons (.tmp rfl) (.cons (.tmp rfl) .nil)) (Gext.refl w0 g) ⟨xs, false, rfl, rfl, hF⟩
 ·replace hF := hF.2 hc1
  refine Ok.skip ?_
  refine Ok.thenN ?_
  refine Ok.seq ?_
  refine Ok.region ?_
  refine Ok.batch 3 [(11, .string ⟨⟨xs⟩⟩), (13, .int .i64 (xprefix.length : Int))] (by kernel_rfl) ?_
  obtain ⟨h02, h12, h22, hF⟩ := hF
  refine Ok.op rfl (OpOk.step (v := .string ⟨⟨xs.drop (Int.toNat (xprefix.length : Int))⟩⟩) (Yields.sliceStr (s := xs) (l := (xprefix.length : Int)) (h := (xs.length : Int)) (by kernel_rfl) Tryz.underlying9 (.inl ⟨_, _, rfl, rfl⟩) (.inr ⟨rfl, rfl⟩) h02 h12 h22 (xs.drop (Int.toNat (xprefix.length : Int))) (by rw [show ((xs.length : Int)).toNat = xs.length from Int.toNat_natCast _, List.take_length])) rfl rfl ?_)
  refine Ok.batch 2 [(4, .string ⟨⟨xs.drop (Int.toNat (xprefix.length : Int))⟩⟩), (5, .bool true)] (by kernel_rfl) ?_
  refine Ok.nil ?_
  refine Ok.thenN ?_
  refine Ok.ret ?_
  exact Ok.resH (vs := [.string ⟨⟨xs.drop (Int.toNat (xprefix.length : Int))⟩⟩, .bool true]) (.inl rfl) rfl (.cons (.tmp rfl) (.cons (.tmp rfl) .nil)) (Gext.refl w0 g) ⟨(xs.drop (Int.toNat (xprefix.length : Int))), true, rfl, rfl, hF⟩
def slcpM (xs : List UInt8) (xprefix : List UInt8) : List UInt8 × Bool := (if (!(slhpM xs xprefix)) = true then (xs, false) else (xs.drop (Int.toNat (xprefix.length : Int)), true))
set_option linter.unusedSimpArgs false in
set_option linter.unusedVariables false in
theorem slcpF_A (xs : List UInt8) (xprefix : List UInt8) (P : List UInt8 × Bool → Prop) (h : P (slcpM xs xprefix)) : slcpF xs xprefix (fun k0 k1 => P (k0, k1)) := by
 unfold slcpM at h
 unfold slcpF
 refine ⟨fun hc0 => ?_, fun hc0 => ?_⟩
 ·rw [if_t hc0] at h
  exact h
 ·rw [if_f hc0] at h
  refine ⟨?_, ?_, ?_, ?_⟩
  ·first | exact hp_le' (by assumption) | exact hp_le (by assumption) | omega | assumption | exact trivial | (have h0 := List.length_pos_iff.mpr (by assumption); omega) | (simp; omega) | (simp at *; omega)
  ·first | exact hp_le' (by assumption) | exact hp_le (by assumption) | omega | assumption | exact trivial | (have h0 := List.length_pos_iff.mpr (by assumption); omega) | (simp; omega) | (simp at *; omega)
  ·first | exact hp_le' (by assumption) | exact hp_le (by assumption) | omega | assumption | exact trivial | (have h0 := List.length_pos_iff.mpr (by assumption); omega) | (simp; omega) | (simp at *; omega)
  exact h
theorem slcp_F (xs : List UInt8) (xprefix : List UInt8) : slcpF xs xprefix (fun k0 k1 => (k0, k1) = slcpM xs xprefix) :=
 slcpF_A xs xprefix (fun z => z = slcpM xs xprefix) rfl
set_option linter.unusedVariables false in
theorem slcp_c {g : Ghost} (xs : List UInt8) (xprefix : List UInt8)  : CallsG Tryz.prog 57 #[.string ⟨⟨xs⟩⟩, .string ⟨⟨xprefix⟩⟩] g (.tuple #[.string ⟨⟨(slcpM xs xprefix).1⟩⟩, .bool (slcpM xs xprefix).2]) :=
 (slcp_ok xs xprefix _ (slcp_F xs xprefix)).gives (by rintro g' H' v _ ⟨r0, r1, rfl, rfl, hK⟩; obtain ⟨rfl, rfl⟩ : r0 = (slcpM xs xprefix).1 ∧ r1 = (slcpM xs xprefix).2 := ⟨congrArg (fun z => z.1) hK, congrArg (fun z => z.2) hK⟩; rfl)
def cpfF (xs : List UInt8) (xprefix : List UInt8) (K : (List UInt8) → Bool → Prop) : Prop :=
 K (slcpM xs xprefix).1 (slcpM xs xprefix).2
set_option maxHeartbeats 4000000 in
set_option maxRecDepth 100000 in
set_option linter.unusedVariables false in
theorem cpf_ok {g : Ghost} (xs : List UInt8) (xprefix : List UInt8) (K : (List UInt8) → Bool → Prop)
  (hF : cpfF xs xprefix K) : CallsH Tryz.prog 38 #[.string ⟨⟨xs⟩⟩, .string ⟨⟨xprefix⟩⟩] g [] (fun g' H' v => ∃ (r0 : List UInt8), ∃ (r1 : Bool), v = .tuple #[.string ⟨⟨r0⟩⟩, .bool r1] ∧ H' = [] ∧ K r0 r1) := by
 refine CallsH.enter 11 [(0, .string ⟨⟨xs⟩⟩), (1, .string ⟨⟨xprefix⟩⟩)] Tryz.func38 rfl (by kernel_rfl) (by kernel_rfl) (by kernel_rfl) fun w0 => ?_
 refine Ok.seq ?_
 refine Ok.region ?_
 refine Ok.batch 2 [(0, .string ⟨⟨xs⟩⟩), (1, .string ⟨⟨xprefix⟩⟩)] (by kernel_rfl) ?_
 refine Ok.nil ?_
 refine Ok.thenN ?_
 refine Ok.seq ?_
 refine Ok.region ?_
 refine Ok.batch 2 [(6, .string ⟨⟨xs⟩⟩), (7, .string ⟨⟨xprefix⟩⟩)] (by kernel_rfl) ?_
 refine Ok.op rfl (OpOk.callG (v := .tuple #[.string ⟨⟨(slcpM xs xprefix).1⟩⟩, .bool (slcpM xs xprefix).2]) (enters (by kernel_rfl) (fun _ => by kernel_rfl)) (fun W hW => slcp_c xs xprefix) rfl ?_)
 refine Ok.batch 4 [(4, .string ⟨⟨(slcpM xs xprefix).1⟩⟩), (5, .bool (slcpM xs xprefix).2)] (by kernel_rfl) ?_
 refine Ok.nil ?_
 refine Ok.thenN ?_
 refine Ok.ret ?_
 exact Ok.resH (vs := [.string ⟨⟨(slcpM xs xprefix).1⟩⟩, .bool (slcpM xs xprefix).2]) (.inl rfl) rfl (.cons (.tmp rfl) (.cons (.tmp rfl) .nil)) (Gext.refl w0 g) ⟨(slcpM xs xprefix).1, (slcpM xs xprefix).2, rfl, rfl, hF⟩
def cpfM (xs : List UInt8) (xprefix : List UInt8) : List UInt8 × Bool := ((slcpM xs xprefix).1, (slcpM xs xprefix).2)
set_option linter.unusedSimpArgs false in
set_option linter.unusedVariables false in
theorem cpfF_A (xs : List UInt8) (xprefix : List UInt8) (P : List UInt8 × Bool → Prop) (h : P (cpfM xs xprefix)) : cpfF xs xprefix (fun k0 k1 => P (k0, k1)) := by
 unfold cpfM at h
 unfold cpfF
 exact h
theorem cpf_F (xs : List UInt8) (xprefix : List UInt8) : cpfF xs xprefix (fun k0 k1 => (k0, k1) = cpfM xs xprefix) :=
 cpfF_A xs xprefix (fun z => z = cpfM xs xprefix) rfl
set_option linter.unusedVariables false in
theorem cpf_c {g : Ghost} (xs : List UInt8) (xprefix : List UInt8)  : CallsG Tryz.prog 38 #[.string ⟨⟨xs⟩⟩, .string ⟨⟨xprefix⟩⟩] g (.tuple #[.string ⟨⟨(cpfM xs xprefix).1⟩⟩, .bool (cpfM xs xprefix).2]) :=
 (cpf_ok xs xprefix _ (cpf_F xs xprefix)).gives (by rintro g' H' v _ ⟨r0, r1, rfl, rfl, hK⟩; obtain ⟨rfl, rfl⟩ : r0 = (cpfM xs xprefix).1 ∧ r1 = (cpfM xs xprefix).2 := ⟨congrArg (fun z => z.1) hK, congrArg (fun z => z.2) hK⟩; rfl)
def atoiS (s : List UInt8) : Int × Bool := match Lib.atoiAll s with
 | .ok v => (v, true)
 | .range => (Lib.atoiSat s, false)
 | _ => (0, false)
def atoiP (s : List UInt8) : Prop := s.length ≤ 1000000
theorem atoi_c {g : Ghost} (s : List UInt8) (hG1 : SomeIf g 2) (hG2 : SomeIf g 3) (hp : atoiP s) :
  CallsH Tryz.prog 65 #[.string ⟨⟨s⟩⟩] g [] (fun g' H' v => ∃ (ir1 : Value), v = .tuple #[.int .i64 (atoiS s).1, ir1] ∧ IfV ir1 (atoiS s).2 ∧ H' = []) := fun W hW => by
 unfold atoiP at hp
 have hsz : (⟨⟨s⟩⟩ : ByteArray).size = s.length := rfl
 unfold atoiS
 cases h : Lib.atoiAll s with
 | ok v =>
  refine (Tryz.strconv_Atoi_ok ⟨⟨s⟩⟩ (by rw [hsz]; omega) v h W).mono fun e W' ⟨he, hw⟩ => ?_
  refine ⟨_, g, [], he, ⟨_, rfl, rfl, rfl⟩, Gext.refl _ g, ?_⟩
  rcases hw with rfl | ⟨t, rfl⟩
  ·exact hW
  ·exact hW.of_below (Lib.bytesWorld_below _ _ _)
 | range =>
  obtain ⟨cs, T, fz, t, p, h1, h2⟩ := hG2
  refine (Tryz.strconv_Atoi_range ⟨⟨s⟩⟩ (by rw [hsz]; omega) h (.iface t p) W (by rw [Lib.cell_of_heap (hW.ghost _ _ h1)]; exact h2) (.inr ⟨t, p, rfl⟩)).mono fun e W' ⟨N, he, _, _, hb⟩ => ?_
  exact ⟨_, g, [], he, ⟨_, rfl, ⟨_, _, rfl⟩, rfl⟩, Gext.refl _ g, hW.of_below hb⟩
 | _ =>
  obtain ⟨cs, T, fz, t, p, h1, h2⟩ := hG1
  refine (Tryz.strconv_Atoi_syntax ⟨⟨s⟩⟩ (by rw [hsz]; omega) h (.iface t p) W (by rw [Lib.cell_of_heap (hW.ghost _ _ h1)]; exact h2) (.inr ⟨t, p, rfl⟩)).mono fun e W' ⟨N, he, _, _, hb⟩ => ?_
  exact ⟨_, g, [], he, ⟨_, rfl, ⟨_, _, rfl⟩, rfl⟩, Gext.refl _ g, hW.of_below hb⟩
def DPow : List (Int) := [1, 10, 100, 1000, 10000, 100000, 1000000, 10000000, 100000000, 1000000000, 10000000000, 100000000000, 1000000000000, 10000000000000, 100000000000000, 1000000000000000, 10000000000000000, 100000000000000000, 1000000000000000000, 10000000000000000000]
def itoaS (n : Int) : List UInt8 := Lib.itoa n
def itoaP (n : Int) : Prop := -9223372036854775808 ≤ n ∧ n ≤ 9223372036854775807
theorem itoa_c {g : Ghost} (n : Int) (hG : GlobL g 1 (.int .u64) DPow) (hp : itoaP n) : CallsG Tryz.prog 36 #[.int .i64 n] g (.string ⟨⟨itoaS n⟩⟩) := fun W hW => by
 obtain ⟨xs, h1, h2⟩ := hG.var (P := Tryz.prog) hW (name := "internal/strconv.uint64pow10") (by kernel_rfl)
 have htab : Lib.TabIs Tryz.prog W "internal/strconv.uint64pow10" .u64 Lib.pow10Tab := by
  unfold Lib.TabIs
  rw [h1, repL_ints h2, show DPow = Lib.pow10Tab by decide +kernel]
 refine (Tryz.strconv_Itoa n hp.1 hp.2 W htab).mono fun e W' ⟨he, k, os, hw⟩ => ⟨he, ?_⟩
 subst hw
 exact Lib.below_grow _ W (Nat.le_refl _) k os
end Go.Proofs.YtdjcgbejnpbjlaaGreatDoor.Ui
