/- strings.Trim, strings.TrimRight at a cutset of ASCII signs; strings.IndexByte. -/
import Derived.Test.YtcnhdkhkadiohaaGreatDoorPl
import Derived.Test.YtcnhdkhkadiohaaGreatDoorShelf
import Derived.Shelf.Strings.SlTrimAscii
namespace Go.Proofs.YtcnhdkhkadiohaaGreatDoor.Ti
open Go Go.Eng Go.RowKit Go.Shelf Go.Proofs
set_option linter.unusedVariables false
def ibS (s : List UInt8) (c : Int) : Int := Lib.indexByte s c.toNat.toUInt8
theorem ib_c {g : Ghost} (s : List UInt8) (c : Int) : CallsG Tryz.prog 51 #[.string ⟨⟨s⟩⟩, .int .u8 c] g (.int .i64 (ibS s c)) := fun W hW =>
 (Tryz.strings_IndexByte ⟨⟨s⟩⟩ c W).mono fun e W' ⟨he, hw⟩ => ⟨he, by subst hw; exact Below.refl _ _⟩
end Go.Proofs.YtcnhdkhkadiohaaGreatDoor.Ti
