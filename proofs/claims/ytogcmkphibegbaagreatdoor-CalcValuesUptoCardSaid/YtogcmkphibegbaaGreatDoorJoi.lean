/- strings.Join. -/
import Derived.Test.YtogcmkphibegbaaGreatDoorPl
import Derived.Test.YtogcmkphibegbaaGreatDoorShelf
import Derived.Lib.Join
namespace Go.Proofs.YtogcmkphibegbaaGreatDoor.Jo
open Go Go.Eng Go.RowKit Go.Shelf Go.Proofs
set_option linter.unusedVariables false
def joinS (l : List (List UInt8)) (sep : List UInt8) : List UInt8 := Lib.join l sep
def joinP (l : List (List UInt8)) (sep : List UInt8) : Prop := l.length ≤ 140737488355328 ∧ (Lib.join l sep).length ≤ 140737488355328
theorem join_c {g : Ghost} {a : Option Addr} {c : Nat} (l : List (List UInt8)) (sep : List UInt8) (hR : Rep g (.slice (.str)) [.slice a l.length c] l) (hp : joinP l sep) : CallsG Tryz.prog 23 #[.slice a l.length c, .string ⟨⟨sep⟩⟩] g (.string ⟨⟨joinS l sep⟩⟩) := fun W hW => by
 obtain ⟨a', c', hcs, ⟨hlc, hcm⟩, hel⟩ := hR
 simp only [List.cons.injEq, Value.slice.injEq, and_true] at hcs
 obtain ⟨rfl, -, rfl⟩ := hcs
 obtain ⟨h1, h2⟩ := hp
 cases l with
 | nil => exact (Tryz.strings_Join_none a c ⟨⟨sep⟩⟩ W).mono fun e W' ⟨he, hw⟩ => ⟨he, by subst hw; exact Below.refl _ _⟩
 | cons x r =>
  obtain ⟨b, off, rfl, -⟩ := hel 0 x rfl
  have hcell : ∀ (j : Nat) s, (x :: r)[j]? = some s → W.cell? ⟨b, off + j, none⟩ = some (.string ⟨⟨s⟩⟩) := fun j s hj => by
   obtain ⟨b', off', hb, ecs, hl, hat, hr⟩ := hel j s hj
   simp only [Option.some.injEq, Addr.mk.injEq, and_true] at hb
   obtain ⟨rfl, rfl⟩ := hb
   have hr : ecs = [.string ⟨⟨s⟩⟩] := hr
   subst hr
   have := gcell_cell hW (hat 0 _ rfl)
   rw [show off + j * Ty.str.size + 0 = off + j by show off + j * 1 + 0 = _; omega] at this
   exact this
  have hb : b < W.heap.size := by
   have := hcell 0 x rfl
   unfold World.cell? at this
   apply Classical.byContradiction
   intro hn
   rw [show W.heap[(⟨b, off + 0, none⟩ : Addr).block]? = none from Array.getElem?_eq_none (Nat.le_of_not_lt hn)] at this
   cases this
  have e1 : ((x :: r).map fun s => (⟨⟨s⟩⟩ : ByteArray)).map (·.data.toList) = x :: r := by rw [List.map_map]; exact List.map_id _
  have := Tryz.strings_Join b off c ((x :: r).map fun s => (⟨⟨s⟩⟩ : ByteArray)) ⟨⟨sep⟩⟩ W (fun j y hy => by
   rw [List.getElem?_map, Option.map_eq_some_iff] at hy
   obtain ⟨s, hs, rfl⟩ := hy
   exact hcell j s hs) hb (by rw [List.length_map]; exact h1) (by rw [List.length_map]; exact hlc) (by rw [e1]; exact h2)
  rw [e1, List.length_map] at this
  exact this
end Go.Proofs.YtogcmkphibegbaaGreatDoor.Jo
