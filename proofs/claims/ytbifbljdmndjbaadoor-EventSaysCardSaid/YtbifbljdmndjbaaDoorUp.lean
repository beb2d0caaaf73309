/- Rows that bound what is handed in: the bound, in plain data; and the lift of such a row. -/
import Derived.Test.YtbifbljdmndjbaaDoorLaid
import Derived.Test.YtbifbljdmndjbaaDoorRows
import Derived.Deep.DeepHandedRow
namespace Go.Eng
set_option linter.unusedSimpArgs false
open Go.RowKit
open Go.ChangeShapes Go.WideShapes Go.ChangeAt
open Go.Proofs.YtbifbljdmndjbaaDoor
section
variable {P : Program} {H : Type} {enc : TypeId × Value → H}
end
end Go.Eng
