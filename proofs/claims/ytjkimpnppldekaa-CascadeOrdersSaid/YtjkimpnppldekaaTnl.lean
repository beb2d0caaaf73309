/-
  Is a slice that is only read nil? No program in sight.
-/
import Derived.Test.YtjkimpnppldekaaSto
import Derived.Lib.SliceRun
namespace Go.Eng
open Go.RowKit (Below)
section
variable {P : Program} {n : Nat} {w0 : Base} {m : Env} {H : List Ent} {g : Ghost} {R : Act → World → Prop} {Q : Exit → Act → World → Prop} {ops : Array Oper}
theorem Yields.eqNilRo {dst : Option Nat} {T E T2 ty : TypeId} {x y : Operand} {pos : String} {after : Array Edge} {gd : Option (Nat × Bool)} {e : Ty} {a : Option Addr} {c : Nat} {l : List e.den}
    (hx : val m x = some (.slice a l.length c)) (hy : val m y = some (.slice none 0 0)) (hu : P.underlying T = some (.slice E)) (hg : P.eqGuardType P.depth T = false) (hR : Rep g (.slice e) [.slice a l.length c] l) (hne : l ≠ []) :
    Yields P n w0 m H g ⟨dst, .binOp .eql T x y T2, ty, pos, after, gd⟩ (.bool false) := fun ac W hA hW => by
  obtain ⟨a1, c1, hcs, -, hel⟩ := hR
  simp only [List.cons.injEq, Value.slice.injEq, and_true] at hcs
  obtain ⟨rfl, -, rfl⟩ := hcs
  obtain ⟨z, r, rfl⟩ : ∃ z r, l = z :: r := by
    cases l with
    | nil => exact absurd rfl hne
    | cons z r => exact ⟨z, r, rfl⟩
  obtain ⟨b, off, rfl, -⟩ := hel 0 z rfl
  simp only [execOp, hA.eval hx, hA.eval hy]
  have h := Lib.run_eql_slice_nil (P := P) W T E (some ⟨b, off, none⟩) (z :: r).length c 0 0 hu
  rw [List.length_cons] at h ⊢
  simp [eqGuard, hg, h]
theorem optCases {α : Type} (a : Option α) : a = none ∨ ∃ x, a = some x := by cases a with | none => exact .inl rfl | some x => exact .inr ⟨x, rfl⟩
theorem Rep.none_nil {e : Ty} {l : List e.den} {k c : Nat} (hR : Rep g (.slice e) [.slice none k c] l) : l = [] := by
  obtain ⟨a1, c1, hcs, -, hel⟩ := hR
  simp only [List.cons.injEq, Value.slice.injEq, and_true] at hcs
  obtain ⟨rfl, -, -⟩ := hcs
  cases l with
  | nil => rfl
  | cons z r => obtain ⟨b, off, h, -⟩ := hel 0 z rfl; cases h
theorem Yields.eqNilAt {dst : Option Nat} {T E T2 ty : TypeId} {x y : Operand} {pos : String} {after : Array Edge} {gd : Option (Nat × Bool)} {a : Option Addr} {k c : Nat} {b : Bool}
    (hx : val m x = some (.slice a k c)) (hy : val m y = some (.slice none 0 0)) (hu : P.underlying T = some (.slice E)) (hg : P.eqGuardType P.depth T = false) (hb : a.isNone = b) :
    Yields P n w0 m H g ⟨dst, .binOp .eql T x y T2, ty, pos, after, gd⟩ (.bool b) := fun ac W hA hW => by
  subst hb
  simp only [execOp, hA.eval hx, hA.eval hy]
  have h := Lib.run_eql_slice_nil (P := P) W T E a k c 0 0 hu
  simp [eqGuard, hg, h]
theorem Yields.neNilAt {dst : Option Nat} {T E T2 ty : TypeId} {x y : Operand} {pos : String} {after : Array Edge} {gd : Option (Nat × Bool)} {a : Option Addr} {k c : Nat} {b : Bool}
    (hx : val m x = some (.slice a k c)) (hy : val m y = some (.slice none 0 0)) (hu : P.underlying T = some (.slice E)) (hg : P.eqGuardType P.depth T = false) (hb : (!a.isNone) = b) :
    Yields P n w0 m H g ⟨dst, .binOp .neq T x y T2, ty, pos, after, gd⟩ (.bool b) := fun ac W hA hW => by
  subst hb
  simp only [execOp, hA.eval hx, hA.eval hy]
  have h := Lib.run_equalIn_slice_nil (P := P) W 9999 T E a k c 0 0 hu
  simp [eqGuard, binOp, Op.equal, Op.maxDepth, h]
end
end Go.Eng
