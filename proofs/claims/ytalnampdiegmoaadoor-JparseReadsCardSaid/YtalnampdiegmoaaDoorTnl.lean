/-
 Is a slice that is only read nil? No program in sight.
-/
import Derived.Test.YtalnampdiegmoaaDoorSto
import Derived.Lib.SliceRun
namespace Go.Eng
open Go.RowKit (Below)
set_option linter.unusedVariables false
section
variable {P:Program} {pos:String} {after:Array Edge} {gd:Option (Nat×Bool)} {n:Fsz} {w0:Base} {m:Env} {H:List Ent} {g:Ghost} {R:Act→World→Prop} {Q:Exit→Act→World→Prop} {ops:Array Oper}
end
end Go.Eng
