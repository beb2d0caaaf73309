/- []byte(s) that is written to: its row bears the mark of a conversion, behind its last cell. -/
import Derived.Test.YtbifbljdmndjbaaDoorSto
namespace Go.Eng
open Go.RowKit (Below)
section
variable {P : Program} {n : Nat} {w0 : Base} {m : Env} {H : List Ent} {g : Ghost} {R : Act → World → Prop} {Q : Exit → Act → World → Prop} {ops : Array Oper}

end
end Go.Eng
