/-
 A region that draws its order, in which two operations that write may come in either order. No program in sight.
-/
import Derived.Test.YtdjcgbejnpbjlaaGreatDoorEng
namespace Go.Eng
open Go.RowKit (Below)
section
variable {P : Program} {ops : Array Oper} {Q : Exit → Act → World → Prop}
section
variable {B : Type} {C : B → World → Prop} {S : Nat → B → Prop} {T : Nat → B → Prop} {md : Region.Mode} {Qn : Act → World → Prop}
end
variable {n : Fsz} {w0 : Base} {m : Env} {H : List Ent} {g : Ghost} {g0 : Ghost} {R : Act → World → Prop}

end
end Go.Eng
