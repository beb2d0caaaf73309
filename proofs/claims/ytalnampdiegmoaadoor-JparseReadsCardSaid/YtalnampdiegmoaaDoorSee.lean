/-
 A call that makes memory reads what is owned: the owned is frozen for the call alone.
-/
import Derived.Test.YtalnampdiegmoaaDoorOwn
namespace Go.Eng
open Go
set_option linter.unusedVariables false
section
variable {P:Program} {n:Fsz} {w0:Base} {m:Env} {H:List Ent} {g:Ghost} {R:Act→World→Prop} {Q:Exit→Act→World→Prop} {ops:Array Oper}
theorem Rep.any {g g':Ghost}:∀ {e:Ty} {cs:List Value} {x:e.den},e.flat=true→Rep g e cs x→Rep g' e cs x:=fun {e cs x} hf h=>by
 have:=Rep.flatEq hf h rfl
 subst this; exact Rep.put e x hf
theorem RepL.any {g g':Ghost} {e:Ty} (hf:e.flat=true):∀ {l:List e.den} {xs:List Value},RepL g e xs l→RepL g' e xs l
 | [],_,h=>h
 | _::_,_,⟨c,r,h1,h2,h3⟩=>⟨c,r,h1,Rep.any hf h2,RepL.any hf h3⟩
end
end Go.Eng
