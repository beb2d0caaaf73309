/- The first bytes of a text. -/
import Derived.Test.YtijnddbnjgoogaaDoorTrd
namespace Go.Proofs.YtijnddbnjgoogaaDoor.Tk
open Go Go.Eng Bld Trm Css
set_option linter.unusedVariables false
def shortS (s : List UInt8) (n : Int) : List UInt8 := s.take n.toNat
def shortP (s : List UInt8) (n : Int) : Prop := 0 ≤ n
def shortF (xs : List UInt8) (xn : Int) (K : (List UInt8) → Prop) : Prop :=
  (0 : Int) ≤ 0 ∧ (0 : Int) ≤ (if xn < (xs.length : Int) then xn else (xs.length : Int)) ∧ (if xn < (xs.length : Int) then xn else (xs.length : Int)) ≤ (xs.length : Int) ∧ K (xs.take (Int.toNat (if xn < (xs.length : Int) then xn else (xs.length : Int))))
set_option maxHeartbeats 4000000 in
set_option maxRecDepth 100000 in
set_option linter.unusedVariables false in
theorem short_ok {g : Ghost} (xs : List UInt8) (xn : Int) (K : (List UInt8) → Prop)
    (hF : shortF xs xn K) : CallsH Tryd.prog 9 #[.string ⟨⟨xs⟩⟩, .int .i64 xn] g [] (fun g' H' v => ∃ (r0 : List UInt8), v = .string ⟨⟨r0⟩⟩ ∧ H' = [] ∧ K r0) := by
  refine CallsH.enter 11 [(0, .string ⟨⟨xs⟩⟩), (1, .int .i64 xn)] Tryd.func9 rfl (by kernel_rfl) (by kernel_rfl) (by kernel_rfl) fun w0 => ?_
  refine Ok.seq ?_
  refine Ok.region ?_
  refine Ok.batch 1 [(0, .string ⟨⟨xs⟩⟩), (1, .int .i64 xn)] (by kernel_rfl) ?_
  refine Ok.nil ?_
  refine Ok.thenN ?_
  refine Ok.seq ?_
  refine Ok.region ?_
  refine Ok.batch 5 [(5, .string ⟨⟨xs⟩⟩), (9, .int .i64 (if xn < (xs.length : Int) then xn else (xs.length : Int)))] (by kernel_rfl) ?_
  obtain ⟨h01, h11, h21, hF⟩ := hF
  refine Ok.op rfl (OpOk.step (v := .string ⟨⟨xs.take (Int.toNat (if xn < (xs.length : Int) then xn else (xs.length : Int)))⟩⟩) (Yields.sliceStr (s := xs) (l := 0) (h := (if xn < (xs.length : Int) then xn else (xs.length : Int))) (by kernel_rfl) Tryd.underlying9 (.inr ⟨rfl, rfl⟩) (.inl ⟨_, _, rfl, rfl⟩) h01 h11 h21 (xs.take (Int.toNat (if xn < (xs.length : Int) then xn else (xs.length : Int)))) (by simp)) rfl rfl ?_)
  refine Ok.batch 1 [(4, .string ⟨⟨xs.take (Int.toNat (if xn < (xs.length : Int) then xn else (xs.length : Int)))⟩⟩)] (by kernel_rfl) ?_
  refine Ok.nil ?_
  refine Ok.thenN ?_
  refine Ok.ret ?_
  exact Ok.resH (vs := [.string ⟨⟨xs.take (Int.toNat (if xn < (xs.length : Int) then xn else (xs.length : Int)))⟩⟩]) (.inl rfl) rfl (.cons (.tmp rfl) .nil) (Gext.refl w0 g) ⟨(xs.take (Int.toNat (if xn < (xs.length : Int) then xn else (xs.length : Int)))), rfl, rfl, hF⟩
theorem short_F (s : List UInt8) (n : Int) (hp : shortP s n) : shortF s n (fun r => r = shortS s n) := by
  unfold shortP at hp
  refine ⟨by omega, by split <;> omega, by split <;> omega, ?_⟩
  unfold shortS
  split
  · rfl
  · rw [Int.toNat_natCast, List.take_of_length_le (Nat.le_refl _), List.take_of_length_le (by omega)]
set_option linter.unusedVariables false in
theorem short_c {g : Ghost} (xs : List UInt8) (xn : Int)  (hp : shortP xs xn) : CallsG Tryd.prog 9 #[.string ⟨⟨xs⟩⟩, .int .i64 xn] g (.string ⟨⟨(shortS xs xn)⟩⟩) :=
  (short_ok xs xn _ (short_F xs xn hp)).gives (by rintro g' H' v _ ⟨r0, rfl, rfl, hK⟩; subst hK; rfl)
end Go.Proofs.YtijnddbnjgoogaaDoor.Tk
