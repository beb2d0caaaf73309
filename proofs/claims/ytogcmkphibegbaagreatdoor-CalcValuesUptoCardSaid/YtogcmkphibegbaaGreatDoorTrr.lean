/- strings.Trim, strings.TrimRight at a cutset of ASCII signs; strings.IndexByte. -/
import Derived.Test.YtogcmkphibegbaaGreatDoorPl
import Derived.Test.YtogcmkphibegbaaGreatDoorShelf
import Derived.Shelf.Strings.SlTrimAscii
namespace Go.Proofs.YtogcmkphibegbaaGreatDoor.Ti
open Go Go.Eng Go.RowKit Go.Shelf Go.Proofs
set_option linter.unusedVariables false
def trimP (s cut : List UInt8) : Prop := s.length ≤ 9223372036854775807 ∧ cut.length < 4294967281 ∧ cut.all (fun x => decide (x.toNat < 128)) = true
def trirS (s cut : List UInt8) : List UInt8 := Lib.trimRightS s cut
theorem trir_c {g : Ghost} (s cut : List UInt8) (hp : trimP s cut) : CallsG Tryz.prog 41 #[.string ⟨⟨s⟩⟩, .string ⟨⟨cut⟩⟩] g (.string ⟨⟨trirS s cut⟩⟩) := fun W hW => by
 obtain ⟨h1, h2, h3⟩ := hp
 exact (Any.strings_TrimRight_laid Tryz.lays162 (by kernel_rfl) ⟨⟨s⟩⟩ ⟨⟨cut⟩⟩ W h1 h2 (ascii_of_all h3)).mono fun e w' ⟨he, hw⟩ => ⟨he, hw⟩
end Go.Proofs.YtogcmkphibegbaaGreatDoor.Ti
