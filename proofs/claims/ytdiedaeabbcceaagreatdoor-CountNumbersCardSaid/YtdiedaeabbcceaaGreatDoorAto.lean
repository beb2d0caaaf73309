/- strconv.Atoi. -/
import Derived.Test.YtdiedaeabbcceaaGreatDoorMor
import Derived.Test.YtdiedaeabbcceaaGreatDoorUp
import Derived.Test.YtdiedaeabbcceaaGreatDoorShelf
import Derived.Lib.AppendIntMem
import Derived.Lib.AtoiErrMem
import Derived.Lib.ItoaLen
namespace Go.Proofs.YtdiedaeabbcceaaGreatDoor.Ui
open Go Go.Eng Go.RowKit Go.Shelf Go.Proofs
set_option linter.unusedVariables false
def atoiS (s : List UInt8) : Int × Bool := match Lib.atoiAll s with
 | .ok v => (v, true)
 | .range => (Lib.atoiSat s, false)
 | _ => (0, false)
def atoiP (s : List UInt8) : Prop := s.length ≤ 1000000
theorem atoi_c {g : Ghost} (s : List UInt8) (hG1 : SomeIf g 8) (hG2 : SomeIf g 9) (hp : atoiP s) :
  CallsH Tryz.prog 159 #[.string ⟨⟨s⟩⟩] g [] (fun g' H' v => ∃ (ir1 : Value), v = .tuple #[.int .i64 (atoiS s).1, ir1] ∧ IfV ir1 (atoiS s).2 ∧ H' = []) := fun W hW => by
 unfold atoiP at hp
 have hsz : (⟨⟨s⟩⟩ : ByteArray).size = s.length := rfl
 unfold atoiS
 cases h : Lib.atoiAll s with
 | ok v =>
  refine (Tryz.strconv_Atoi_ok ⟨⟨s⟩⟩ (by rw [hsz]; omega) v h W).mono fun e W' ⟨he, hw⟩ => ?_
  refine ⟨_, g, [], he, ⟨_, rfl, rfl, rfl⟩, Gext.refl _ g, ?_⟩
  rcases hw with rfl | ⟨t, rfl⟩
  ·exact hW
  ·exact hW.of_below (Lib.bytesWorld_below _ _ _)
 | range =>
  obtain ⟨cs, T, fz, t, p, h1, h2⟩ := hG2
  refine (Tryz.strconv_Atoi_range ⟨⟨s⟩⟩ (by rw [hsz]; omega) h (.iface t p) W (by rw [Lib.cell_of_heap (hW.ghost _ _ h1)]; exact h2) (.inr ⟨t, p, rfl⟩)).mono fun e W' ⟨N, he, _, _, hb⟩ => ?_
  exact ⟨_, g, [], he, ⟨_, rfl, ⟨_, _, rfl⟩, rfl⟩, Gext.refl _ g, hW.of_below hb⟩
 | _ =>
  obtain ⟨cs, T, fz, t, p, h1, h2⟩ := hG1
  refine (Tryz.strconv_Atoi_syntax ⟨⟨s⟩⟩ (by rw [hsz]; omega) h (.iface t p) W (by rw [Lib.cell_of_heap (hW.ghost _ _ h1)]; exact h2) (.inr ⟨t, p, rfl⟩)).mono fun e W' ⟨N, he, _, _, hb⟩ => ?_
  exact ⟨_, g, [], he, ⟨_, rfl, ⟨_, _, rfl⟩, rfl⟩, Gext.refl _ g, hW.of_below hb⟩
end Go.Proofs.YtdiedaeabbcceaaGreatDoor.Ui
