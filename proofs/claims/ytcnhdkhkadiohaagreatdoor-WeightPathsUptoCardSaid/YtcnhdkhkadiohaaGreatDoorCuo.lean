/-
 A slice of the call's own is cut at its end and kept. No program in sight.
-/
import Derived.Test.YtcnhdkhkadiohaaGreatDoorSto
namespace Go.Eng
open Go.RowKit (Below)
section
variable {P : Program} {n : Fsz} {w0 : Base} {m : Env} {H : List Ent} {g : Ghost} {R : Act → World → Prop} {Q : Exit → Act → World → Prop} {ops : Array Oper}
theorem RepL.take {e : Ty} : ∀ {l : List e.den} {xs : List Value} (k : Nat), RepL g e xs l → RepL g e (xs.take (k * e.size)) (l.take k)
 | l, xs, 0, _ => by rw [Nat.zero_mul, List.take_zero, List.take_zero]; rfl
 | [], xs, k + 1, h => by rw [show xs = [] from h]; simp; rfl
 | x :: l, xs, k + 1, ⟨c, r, h1, h2, h3⟩ => by
  refine ⟨c, r.take (k * e.size), ?_, h2, RepL.take k h3⟩
  rw [h1, Nat.succ_mul, Nat.add_comm, ← h2.size, List.take_length_add_append]
end
end Go.Eng
