/- One law more of regions that write: an operation that is not wanted. -/
import Derived.Test.YtdapgmigogpdcaaGreatDoorPl
namespace Go.Eng
open Go.RowKit (Below)
set_option linter.unusedVariables false
section
variable {P:Program} {n:Fsz} {w0:Base} {m:Env} {H:List Ent} {g:Ghost} {R:Act→World→Prop} {ops:Array Oper} {g0:Ghost} {pre soft:List Nat} {Hf H0 Hv:List Ent} {os:List (Nat×Bool)}
end
section
variable {P:Program} {n:Fsz} {w0:Base} {m:Env} {H:List Ent} {g:Ghost} {R:Act→World→Prop} {Q:Exit→Act→World→Prop} {ops:Array Oper}
end
end Go.Eng
