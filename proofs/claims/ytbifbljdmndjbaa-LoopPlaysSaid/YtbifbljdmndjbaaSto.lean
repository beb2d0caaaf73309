import Derived.Test.YtbifbljdmndjbaaMap
import Derived.Laws.IdiomStrings
import Derived.Laws.OwnMore
namespace Go.Eng
open Go.RowKit (Below)
section
variable {P : Program} {n : Nat} {w0 : Base} {m : Env} {H : List Ent} {g : Ghost} {R : Act → World → Prop} {Q : Exit → Act → World → Prop} {ops : Array Oper}

def lookRes (ok : Bool) (v : Value) (b : Bool) : Value := if ok = true then .tuple #[v, .bool b] else v

theorem OpOk.lookupSome {K : Act → World → Prop} {d : Nat} {T E KT ty : TypeId} {x ix : Operand} {pos : String} {after : Array Edge} {gd : Option (Nat × Bool)} {vt : Ty} {row ok : Bool} {b clock : Nat} {es : Array MapEntry} {κ : Type} [BEq κ] {kt : κ → Value} {l : List (κ × vt.den)} {k : κ} {kd : TypeDesc} {el : vt.den}
  (hL : KeyLaw kd kt) (i : Nat) (hi : H[i]? = some (.blk b (.map es clock))) (hM : RepMap g vt row kt es.toList l) (hx : val m x = some (.map (some b))) (hk : val m ix = some (kt k)) (hu : P.underlying T = some (.map KT E)) (hku : P.underlying KT = some kd) (he : assocK k l = some el) (hn : Nat.ble (d + 1) n = true)
  (h : ∀ v cells, ValIs row v cells → Rep g vt cells el → ∀ u, u = lookRes ok v true → Ok n w0 ((d, u) :: m) H g K) : OpOk P K Q ⟨some d, .lookup T x ix ok, ty, pos, after, gd⟩ n w0 m H g := by
 obtain ⟨v, cells, h1, h2, hy⟩ := lookup_some (P := P) (n := n) (w0 := w0) (dst := some d) (ty := ty) (pos := pos) (after := after) (gd := gd) (ok := ok) hL i hi hM hx hk hu hku he
 exact OpOk.step hy rfl hn (h v cells h1 h2 _ rfl)
theorem OpOk.lookupNone {K : Act → World → Prop} {d : Nat} {T E KT ty : TypeId} {x ix : Operand} {pos : String} {after : Array Edge} {gd : Option (Nat × Bool)} {vt : Ty} {row ok : Bool} {b clock : Nat} {es : Array MapEntry} {κ : Type} [BEq κ] {kt : κ → Value} {l : List (κ × vt.den)} {k : κ} {kd : TypeDesc} {z u : Value}
  (hL : KeyLaw kd kt) (i : Nat) (hi : H[i]? = some (.blk b (.map es clock))) (hM : RepMap g vt row kt es.toList l) (hx : val m x = some (.map (some b))) (hk : val m ix = some (kt k)) (hu : P.underlying T = some (.map KT E)) (hku : P.underlying KT = some kd) (hz : (P.info? E).bind (·.zero) = some z) (he : assocK k l = none)
  (hr : lookRes ok z false = u) (hn : Nat.ble (d + 1) n = true) (h : Ok n w0 ((d, u) :: m) H g K) : OpOk P K Q ⟨some d, .lookup T x ix ok, ty, pos, after, gd⟩ n w0 m H g := by
 subst hr
 exact OpOk.step (lookup_none (ok := ok) hL i hi hM hx hk hu hku hz he) rfl hn h
/-! ### texts and rows of bytes -/
def bytesOf (l : List Int) : List UInt8 := l.map fun x => UInt8.ofNat x.toNat
end
end Go.Eng
