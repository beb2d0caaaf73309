/-
 Is a slice that is only read nil? No program in sight.
-/
import Derived.Test.YtdaagfgedkdmjaaGreatDoorSto
import Derived.Lib.SliceRun
namespace Go.Eng
open Go.RowKit (Below)
section
variable {P : Program} {n : Nat} {w0 : Base} {m : Env} {H : List Ent} {g : Ghost} {R : Act → World → Prop} {Q : Exit → Act → World → Prop} {ops : Array Oper}
theorem Yields.eqNilRo {dst : Option Nat} {T E T2 ty : TypeId} {x y : Operand} {pos : String} {after : Array Edge} {gd : Option (Nat × Bool)} {e : Ty} {a : Option Addr} {c : Nat} {l : List e.den}
  (hx : val m x = some (.slice a l.length c)) (hy : val m y = some (.slice none 0 0)) (hu : P.underlying T = some (.slice E)) (hg : P.eqGuardType P.depth T = false) (hR : Rep g (.slice e) [.slice a l.length c] l) (hne : l ≠ []) :
  Yields P n w0 m H g ⟨dst, .binOp .eql T x y T2, ty, pos, after, gd⟩ (.bool false) := fun ac W hA hW => by
 obtain ⟨a1, c1, hcs, -, hel⟩ := hR
 simp only [List.cons.injEq, Value.slice.injEq, and_true] at hcs
 obtain ⟨rfl, -, rfl⟩ := hcs
 obtain ⟨z, r, rfl⟩ : ∃ z r, l = z :: r := by
  cases l with
  | nil => exact absurd rfl hne
  | cons z r => exact ⟨z, r, rfl⟩
 obtain ⟨b, off, rfl, -⟩ := hel 0 z rfl
 simp only [execOp, hA.eval hx, hA.eval hy]
 have h := Lib.run_eql_slice_nil (P := P) W T E (some ⟨b, off, none⟩) (z :: r).length c 0 0 hu
 rw [List.length_cons] at h ⊢
 simp [eqGuard, hg, h]
end
end Go.Eng
