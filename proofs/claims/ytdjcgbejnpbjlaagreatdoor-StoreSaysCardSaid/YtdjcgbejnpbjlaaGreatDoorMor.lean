/- One law more of regions that write: an operation that is not wanted. -/
import Derived.Test.YtdjcgbejnpbjlaaGreatDoorPl
namespace Go.Eng
open Go.RowKit (Below)
section
variable {P : Program} {n : Fsz} {w0 : Base} {m : Env} {H : List Ent} {g : Ghost} {R : Act → World → Prop} {ops : Array Oper} {g0 : Ghost} {pre soft : List Nat} {Hf H0 Hv : List Ent} {os : List (Nat × Bool)}
end
section
variable {P : Program} {n : Fsz} {w0 : Base} {m : Env} {H : List Ent} {g : Ghost} {R : Act → World → Prop} {Q : Exit → Act → World → Prop} {ops : Array Oper}
end
/-- is it nil? -/
def IfV (v : Value) : Bool → Prop
 | true => v = .nilIface
 | false => ∃ t p, v = .iface t p
theorem Ok.split {n : Fsz} {w0 : Base} {m : Env} {H : List Ent} {g : Ghost} {R : Act → World → Prop} (c : Bool) (h1 : c = true → Ok n w0 m H g R) (h2 : c = false → Ok n w0 m H g R) : Ok n w0 m H g R := by
 cases c
 ·exact h2 rfl
 ·exact h1 rfl
end Go.Eng
