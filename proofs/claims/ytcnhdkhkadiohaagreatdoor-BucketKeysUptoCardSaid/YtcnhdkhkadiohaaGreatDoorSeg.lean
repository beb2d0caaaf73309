/- selector: what is wrong with a test, with paths, by the document. -/
import Derived.Test.YtcnhdkhkadiohaaGreatDoorSef
namespace Go.Proofs.YtcnhdkhkadiohaaGreatDoor.Se
open Go Go.Eng Go.RowKit Bld Trm Css Tk Ti
set_option linter.unusedVariables false
end Go.Proofs.YtcnhdkhkadiohaaGreatDoor.Se
