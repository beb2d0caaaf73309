/-
 Is a slice that is only read nil? No program in sight.
-/
import Derived.Test.YtanhbfhpnjjgcaaDoorSto
import Derived.Lib.SliceRun
namespace Go.Eng
open Go.RowKit (Below)
section
variable {P : Program} {n : Fsz} {w0 : Base} {m : Env} {H : List Ent} {g : Ghost} {R : Act → World → Prop} {Q : Exit → Act → World → Prop} {ops : Array Oper}
end
end Go.Eng
