/- strings.Trim, strings.TrimRight at a cutset of ASCII signs; strings.IndexByte. -/
import Derived.Test.YtdjcgbejnpbjlaaGreatDoorPl
import Derived.Test.YtdjcgbejnpbjlaaGreatDoorShelf
import Derived.Shelf.Strings.SlTrimAscii
namespace Go.Proofs.YtdjcgbejnpbjlaaGreatDoor.Ti
open Go Go.Eng Go.RowKit Go.Shelf Go.Proofs
set_option linter.unusedVariables false
def ibS (s : List UInt8) (c : Int) : Int := Lib.indexByte s c.toNat.toUInt8
theorem ib_c {g : Ghost} (s : List UInt8) (c : Int) : CallsG Tryz.prog 78 #[.string ⟨⟨s⟩⟩, .int .u8 c] g (.int .i64 (ibS s c)) := fun W hW =>
 (Tryz.strings_IndexByte ⟨⟨s⟩⟩ c W).mono fun e W' ⟨he, hw⟩ => ⟨he, by subst hw; exact Below.refl _ _⟩
def trimP (s cut : List UInt8) : Prop := s.length ≤ 9223372036854775807 ∧ cut.length < 4294967281 ∧ cut.all (fun x => decide (x.toNat < 128)) = true
def trimS (s cut : List UInt8) : List UInt8 := Lib.trimS s cut
theorem trim_c {g : Ghost} (s cut : List UInt8) (hp : trimP s cut) : CallsG Tryz.prog 64 #[.string ⟨⟨s⟩⟩, .string ⟨⟨cut⟩⟩] g (.string ⟨⟨trimS s cut⟩⟩) := fun W hW => by
 obtain ⟨h1, h2, h3⟩ := hp
 exact (Any.strings_Trim_laid Tryz.lays160 (by kernel_rfl) ⟨⟨s⟩⟩ ⟨⟨cut⟩⟩ W h1 h2 (ascii_of_all h3)).mono fun e w' ⟨he, hw⟩ => ⟨he, hw⟩
end Go.Proofs.YtdjcgbejnpbjlaaGreatDoor.Ti
