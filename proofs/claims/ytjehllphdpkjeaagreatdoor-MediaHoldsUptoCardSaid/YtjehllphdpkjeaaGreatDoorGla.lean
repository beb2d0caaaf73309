/- A package's array of plain values, read as a whole. No program in it. -/
import Derived.Test.YtjehllphdpkjeaaGreatDoorLaid
import Derived.Test.YtjehllphdpkjeaaGreatDoorMor
namespace Go.Eng
open Go
theorem RepL.flatEq {g : Ghost} {e : Ty} (hf : e.flat = true) : ∀ {l : List e.den} {xs ys : List Value}, RepL g e xs l → putL e l = ys → xs = ys
  | [], _, _, h, hy => by rw [← hy]; exact h
  | _ :: _, _, _, ⟨c, r, h0, h1, h2⟩, hy => by rw [h0, Rep.flatEq hf h1 rfl, RepL.flatEq hf h2 rfl, ← hy]; rfl
theorem GlobL.at_ {g : Ghost} {e : Ty} {b : Nat} {L : List e.den} {ys : List Value} (hG : GlobL g b e L) (hf : e.flat = true) (hy : putL e L = ys) : At g b 0 ys := by
  obtain ⟨xs, T, fz, h1, h2⟩ := hG
  obtain rfl := h2.flatEq hf hy
  intro j v hj
  simp only [gcell, h1]
  simpa using hj
theorem OpOk.insert {P : Program} {n : Fsz} {w0 : Base} {m : Env} {H : List Ent} {g : Ghost} {Q : Exit → Act → World → Prop} {K : Act → World → Prop} {T E KT ty : TypeId} {x ix vx : Operand} {pos : String} {after : Array Edge} {gd : Option (Nat × Bool)} {vt : Ty} {row : Bool} {b clock : Nat} {es : Array MapEntry} {κ : Type} [BEq κ] {kt : κ → Value} {l : List (κ × vt.den)} {k : κ} {kd : TypeDesc} {v : Value} {cells : List Value} {y : vt.den}
    (hL : KeyLaw kd kt) (i : Nat) (hi : H[i]? = some (.blk b (.map es clock))) (hM : RepMap g vt row kt es.toList l) (hx : val m x = some (.map (some b))) (hk : val m ix = some (kt k)) (hv : val m vx = some v) (hu : P.underlying T = some (.map KT E)) (hku : P.underlying KT = some kd)
    (hvi : ValIs row v cells) (hR : Rep g vt cells y)
    (h : ∀ es' clock', RepMap g vt row kt es'.toList (putK k y l) → Ok n w0 m (H.set i (.blk b (.map es' clock'))) g K) :
    OpOk P K Q ⟨none, .insert T x ix vx, ty, pos, after, gd⟩ n w0 m H g := fun ac W hA hW => by
  have := OpOk.mapUpdate (P := P) (Q := Q) (ty := ty) (pos := pos) (after := after) (gd := gd) hL i hi hM hx hk hv hu hku hvi hR h ac W hA hW
  exact this
end Go.Eng
