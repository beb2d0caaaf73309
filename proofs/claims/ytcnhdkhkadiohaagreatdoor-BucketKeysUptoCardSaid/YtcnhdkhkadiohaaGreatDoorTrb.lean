/- The reference's tokens: numbers and texts. -/
import Derived.Test.YtcnhdkhkadiohaaGreatDoorTra
namespace Go.Proofs.YtcnhdkhkadiohaaGreatDoor.Tk
open Go Go.Eng Bld Trm Css
set_option linter.unusedVariables false
end Go.Proofs.YtcnhdkhkadiohaaGreatDoor.Tk
