/-
 Maps of the call's own whose keys are texts: the entries as a list of pairs. No program in sight.
-/
import Derived.Test.YtcnhdkhkadiohaaGreatDoorOwn
import Derived.MapKept
import Derived.Carry
namespace Go.Eng
open Go.RowKit (Below)

/-- a value as it stands in a map: a row as one aggregate, all else as it is -/
def ValIs (row : Bool) (v : Value) (cells : List Value) : Prop := if row = true then v = .agg ⟨cells⟩ else cells = [v]

/-- what a kind of key can do -/
structure KeyLaw (d : TypeDesc) {κ : Type} [BEq κ] (kt : κ → Value) : Prop where
 isKey : ∀ k, MapKept.IsKey d (kt k)
 same : ∀ a b, Instr.sameNow d (kt a) (kt b) = some (a == b)
 eq : ∀ a b : κ, (a == b) = true → a = b
 bits : ∀ k, Instr.sameBits 10000 (kt k) (kt k) = true

def RepMap (g : Ghost) (vt : Ty) (row : Bool) {κ : Type} (kt : κ → Value) : List MapEntry → List (κ × vt.den) → Prop
 | [], [] => True
 | e :: es, x :: l => e.key = kt x.1 ∧ (∃ cells, ValIs row e.val cells ∧ Rep g vt cells x.2) ∧ RepMap g vt row kt es l
 | _, _ => False

def assocK {κ V : Type} [BEq κ] (k : κ) : List (κ × V) → Option V
 | [] => none
 | x :: l => if (k == x.1) = true then some x.2 else assocK k l
def putK {κ V : Type} [BEq κ] (k : κ) (v : V) : List (κ × V) → List (κ × V)
 | [] => [(k, v)]
 | x :: l => if (k == x.1) = true then (k, v) :: l else x :: putK k v l

theorem RepMap.mono {g g' : Ghost} (h : Gle g g') {vt : Ty} {row : Bool} {κ : Type} {kt : κ → Value} : ∀ {es : List MapEntry} {l : List (κ × vt.den)}, RepMap g vt row kt es l → RepMap g' vt row kt es l
 | [], [], _ => trivial
 | _ :: _, _ :: _, ⟨h1, ⟨cells, h2, h3⟩, h4⟩ => ⟨h1, ⟨cells, h2, h3.mono h⟩, RepMap.mono h h4⟩
 | [], _ :: _, h => h.elim
 | _ :: _, [], h => h.elim

theorem RepMap.push {g : Ghost} {vt : Ty} {row : Bool} {κ : Type} [BEq κ] {kt : κ → Value} {k : κ} {e : MapEntry} {y : vt.den} (hk : e.key = kt k) (hy : ∃ cells, ValIs row e.val cells ∧ Rep g vt cells y) : ∀ {es : List MapEntry} {l : List (κ × vt.den)}, RepMap g vt row kt es l → assocK k l = none →
  RepMap g vt row kt (es ++ [e]) (putK k y l)
 | [], [], _, _ => ⟨hk, hy, trivial⟩
 | [], _ :: _, h, _ => h.elim
 | _ :: _, [], h, _ => h.elim
 | e' :: es, x :: l, ⟨h1, h2, h3⟩, hn => by
  unfold assocK at hn
  split at hn
  ·cases hn
  ·rename_i hx
   have hx : (k == x.1) = false := by simpa using hx
   simp only [putK, hx, Bool.false_eq_true, if_false]
   exact ⟨h1, h2, RepMap.push hk hy h3 hn⟩

section
variable {P : Program} {n : Fsz} {w0 : Base} {m : Env} {H : List Ent} {g : Ghost} {R : Act → World → Prop} {Q : Exit → Act → World → Prop} {ops : Array Oper}

end
end Go.Eng
