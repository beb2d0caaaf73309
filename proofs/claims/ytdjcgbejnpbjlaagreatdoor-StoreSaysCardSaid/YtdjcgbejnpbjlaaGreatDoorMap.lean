/-
 Maps of the call's own whose keys are texts: the entries as a list of pairs. No program in sight.
-/
import Derived.Test.YtdjcgbejnpbjlaaGreatDoorOwn
import Derived.MapKept
import Derived.Carry
namespace Go.Eng
open Go.RowKit (Below)

/-- a value as it stands in a map: a row as one aggregate, all else as it is -/
def ValIs (row : Bool) (v : Value) (cells : List Value) : Prop := if row = true then v = .agg ⟨cells⟩ else cells = [v]

/-- what a kind of key can do -/
structure KeyLaw (d : TypeDesc) {κ : Type} [BEq κ] (kt : κ → Value) : Prop where
 isKey : ∀ k, MapKept.IsKey d (kt k)
 same : ∀ a b, Instr.sameNow d (kt a) (kt b) = some (a == b)
 eq : ∀ a b : κ, (a == b) = true → a = b
 bits : ∀ k, Instr.sameBits 10000 (kt k) (kt k) = true

theorem keyStr : KeyLaw .string (fun k : List UInt8 => Value.string ⟨⟨k⟩⟩) where
 isKey := fun _ => trivial
 same := fun a b => by
  simp only [Instr.sameNow, Option.some.injEq]
  first
  | rfl
  | (show ((⟨a⟩ : Array UInt8) == ⟨b⟩) = (a == b); simp)
 eq := fun a b h => beq_iff_eq.1 h
 bits := fun k => by
  unfold Instr.sameBits
  first
  | exact beq_self_eq_true _
  | (show ((⟨k⟩ : Array UInt8) == ⟨k⟩) = true; simp)
def RepMap (g : Ghost) (vt : Ty) (row : Bool) {κ : Type} (kt : κ → Value) : List MapEntry → List (κ × vt.den) → Prop
 | [], [] => True
 | e :: es, x :: l => e.key = kt x.1 ∧ (∃ cells, ValIs row e.val cells ∧ Rep g vt cells x.2) ∧ RepMap g vt row kt es l
 | _, _ => False

def assocK {κ V : Type} [BEq κ] (k : κ) : List (κ × V) → Option V
 | [] => none
 | x :: l => if (k == x.1) = true then some x.2 else assocK k l
def putK {κ V : Type} [BEq κ] (k : κ) (v : V) : List (κ × V) → List (κ × V)
 | [] => [(k, v)]
 | x :: l => if (k == x.1) = true then (k, v) :: l else x :: putK k v l

theorem RepMap.mono {g g' : Ghost} (h : Gle g g') {vt : Ty} {row : Bool} {κ : Type} {kt : κ → Value} : ∀ {es : List MapEntry} {l : List (κ × vt.den)}, RepMap g vt row kt es l → RepMap g' vt row kt es l
 | [], [], _ => trivial
 | _ :: _, _ :: _, ⟨h1, ⟨cells, h2, h3⟩, h4⟩ => ⟨h1, ⟨cells, h2, h3.mono h⟩, RepMap.mono h h4⟩
 | [], _ :: _, h => h.elim
 | _ :: _, [], h => h.elim

/-- where a key stands -/
theorem findNow_key {d : TypeDesc} {g : Ghost} {vt : Ty} {row : Bool} {κ : Type} [BEq κ] {kt : κ → Value} (hL : KeyLaw d kt) {k : κ} : ∀ {es : List MapEntry} {l : List (κ × vt.den)} (n : Nat), RepMap g vt row kt es l →
  (assocK k l = none ∧ Instr.findNow d (kt k) es n = some none) ∨
  ∃ i e x, es[i]? = some e ∧ assocK k l = some x ∧ Instr.findNow d (kt k) es n = some (some (n + i, e.val)) ∧ (∃ cells, ValIs row e.val cells ∧ Rep g vt cells x) ∧ e.key = kt k ∧
   ∀ v' key' y, key' = kt k → (∃ cells, ValIs row v' cells ∧ Rep g vt cells y) → RepMap g vt row kt (es.set i { e with key := key', val := v' }) (putK k y l)
 | [], [], _, _ => .inl ⟨rfl, rfl⟩
 | [], _ :: _, _, h => h.elim
 | _ :: _, [], _, h => h.elim
 | e :: es, x :: l, n, ⟨h1, h2, h3⟩ => by
  by_cases hk : (k == x.1) = true
  ·have hk' := hL.eq _ _ hk
   refine .inr ⟨0, e, x.2, rfl, by simp [assocK, hk], ?_, h2, by rw [h1, hk'], fun v' key' y hkey hy => ?_⟩
   ·simp only [Instr.findNow, h1, hL.same, hk]; rfl
   ·simp only [putK, hk, if_true, List.set_cons_zero]
    exact ⟨hkey, hy, h3⟩
  ·have hk2 : (k == x.1) = false := by simpa using hk
   rcases findNow_key hL (k := k) (n + 1) h3 with ⟨a1, a2⟩ | ⟨i, e', y, a1, a2, a3, a4, a5, a6⟩
   ·exact .inl ⟨by simp [assocK, hk2, a1], by simp only [Instr.findNow, h1, hL.same, hk2]; exact a2⟩
   ·refine .inr ⟨i + 1, e', y, by simpa using a1, by simp [assocK, hk2, a2], ?_, a4, a5, fun v' key' z hkey hz => ?_⟩
    ·simp only [Instr.findNow, h1, hL.same, hk2]
     rw [a3]; congr 3; omega
    ·simp only [putK, hk2, Bool.false_eq_true, if_false, List.set_cons_succ]
     exact ⟨h1, h2, a6 v' key' z hkey hz⟩

theorem RepMap.push {g : Ghost} {vt : Ty} {row : Bool} {κ : Type} [BEq κ] {kt : κ → Value} {k : κ} {e : MapEntry} {y : vt.den} (hk : e.key = kt k) (hy : ∃ cells, ValIs row e.val cells ∧ Rep g vt cells y) : ∀ {es : List MapEntry} {l : List (κ × vt.den)}, RepMap g vt row kt es l → assocK k l = none →
  RepMap g vt row kt (es ++ [e]) (putK k y l)
 | [], [], _, _ => ⟨hk, hy, trivial⟩
 | [], _ :: _, h, _ => h.elim
 | _ :: _, [], h, _ => h.elim
 | e' :: es, x :: l, ⟨h1, h2, h3⟩, hn => by
  unfold assocK at hn
  split at hn
  ·cases hn
  ·rename_i hx
   have hx : (k == x.1) = false := by simpa using hx
   simp only [putK, hx, Bool.false_eq_true, if_false]
   exact ⟨h1, h2, RepMap.push hk hy h3 hn⟩

section
variable {P : Program} {n : Fsz} {w0 : Base} {m : Env} {H : List Ent} {g : Ghost} {R : Act → World → Prop} {Q : Exit → Act → World → Prop} {ops : Array Oper}

theorem lookup_some {dst : Option Nat} {T E KT ty : TypeId} {x ix : Operand} {pos : String} {after : Array Edge} {gd : Option (Nat × Bool)} {vt : Ty} {row ok : Bool} {b clock : Nat} {es : Array MapEntry} {κ : Type} [BEq κ] {kt : κ → Value} {l : List (κ × vt.den)} {k : κ} {kd : TypeDesc} {el : vt.den}
  (hL : KeyLaw kd kt) (i : Nat) (hi : H[i]? = some (.blk b (.map es clock))) (hM : RepMap g vt row kt es.toList l) (hx : val m x = some (.map (some b))) (hk : val m ix = some (kt k)) (hu : P.underlying T = some (.map KT E)) (hku : P.underlying KT = some kd) (he : assocK k l = some el) :
  ∃ v cells, ValIs row v cells ∧ Rep g vt cells el ∧ Yields P n w0 m H g ⟨dst, .lookup T x ix ok, ty, pos, after, gd⟩ (if ok = true then .tuple #[v, .bool true] else v) := by
 rcases findNow_key hL (k := k) 0 hM with ⟨a1, _⟩ | ⟨j, e, y, a1, a2, a3, ⟨cells, a4, a5⟩, _, _⟩
 ·rw [a1] at he; cases he
 ·rw [a2] at he
  injection he with he
  subst he
  refine ⟨e.val, cells, a4, a5, fun ac W hA hW => ?_⟩
  have hb := hW.at hi
  simp only [execOp, hA.eval hx, hA.eval hk]
  have hc := MapKept.run_checkKey (P := P) (w := W) (k := kt k) hku (hL.isKey k) es.isEmpty 9999
  have hf := MapKept.run_findKey (P := P) (w := W) hku a3
  cases ok <;> simp [Instr.lookup, run_underlying hu, getObj, Sem.run, hb, hc, hf, Sem.run_bind, Result.andThen, go_sem]

theorem lookup_none {dst : Option Nat} {T E KT ty : TypeId} {x ix : Operand} {pos : String} {after : Array Edge} {gd : Option (Nat × Bool)} {vt : Ty} {row ok : Bool} {b clock : Nat} {es : Array MapEntry} {κ : Type} [BEq κ] {kt : κ → Value} {l : List (κ × vt.den)} {k : κ} {kd : TypeDesc} {z : Value}
  (hL : KeyLaw kd kt) (i : Nat) (hi : H[i]? = some (.blk b (.map es clock))) (hM : RepMap g vt row kt es.toList l) (hx : val m x = some (.map (some b))) (hk : val m ix = some (kt k)) (hu : P.underlying T = some (.map KT E)) (hku : P.underlying KT = some kd) (hz : (P.info? E).bind (·.zero) = some z) (he : assocK k l = none) :
  Yields P n w0 m H g ⟨dst, .lookup T x ix ok, ty, pos, after, gd⟩ (if ok = true then .tuple #[z, .bool false] else z) := by
 rcases findNow_key hL (k := k) 0 hM with ⟨_, a1⟩ | ⟨j, e, y, a1, a2, _⟩
 ·intro ac W hA hW
  have hb := hW.at hi
  simp only [execOp, hA.eval hx, hA.eval hk]
  have hc := MapKept.run_checkKey (P := P) (w := W) (k := kt k) hku (hL.isKey k) es.isEmpty 9999
  have hf := MapKept.run_findKey (P := P) (w := W) hku a1
  obtain ⟨inf, h1, h2⟩ := Option.bind_eq_some_iff.1 hz
  cases ok <;> simp [Instr.lookup, run_underlying hu, getObj, Sem.run, hb, hc, hf, Sem.run_bind, Result.andThen, zeroValue, typeInfo, h1, h2, go_sem]
 ·rw [a2] at he; cases he
theorem grownBy_setObj {W : World} {b : Nat} {o o' : Obj} (hb : W.heap[b]? = some o) : W.grownBy { W with heap := W.heap.setIfInBounds b o' } (some b) :=
 ⟨rfl, rfl, rfl, by simp, fun k _ hk => (MapKept.heap_set hb).2 k (fun e => hk (by rw [e]))⟩

theorem OpOk.mapUpdate {K : Act → World → Prop} {T E KT ty : TypeId} {x ix vx : Operand} {pos : String} {after : Array Edge} {gd : Option (Nat × Bool)} {vt : Ty} {row : Bool} {b clock : Nat} {es : Array MapEntry} {κ : Type} [BEq κ] {kt : κ → Value} {l : List (κ × vt.den)} {k : κ} {kd : TypeDesc} {v : Value} {cells : List Value} {y : vt.den}
  (hL : KeyLaw kd kt) (i : Nat) (hi : H[i]? = some (.blk b (.map es clock))) (hM : RepMap g vt row kt es.toList l) (hx : val m x = some (.map (some b))) (hk : val m ix = some (kt k)) (hv : val m vx = some v) (hu : P.underlying T = some (.map KT E)) (hku : P.underlying KT = some kd)
  (hvi : ValIs row v cells) (hR : Rep g vt cells y)
  (h : ∀ es' clock', RepMap g vt row kt es'.toList (putK k y l) → Ok n w0 m (H.set i (.blk b (.map es' clock'))) g K) :
  OpOk P K Q ⟨none, .mapUpdate T x ix vx, ty, pos, after, gd⟩ n w0 m H g := fun ac W hA hW => by
 have hb := hW.at hi
 show Oper.upon P _ ac _ Q (Sem.run P (execOp ac.eval _) W)
 have hc := MapKept.run_checkKey (P := P) (w := W) (k := kt k) hku (hL.isKey k) false 9999
 have key : ∃ es' clock', (Instr.mapUpdate T (.map (some b)) (kt k) v).run P W = .ok () { W with heap := W.heap.setIfInBounds b (.map es' clock') } ∧ RepMap g vt row kt es'.toList (putK k y l) := by
  rcases findNow_key hL (k := k) 0 hM with ⟨a0, a1⟩ | ⟨j, e, z, a1, a2, a3, _, a5, a6⟩
  ·have hf := MapKept.run_findKey (P := P) (w := W) hku a1
   refine ⟨es.push { key := kt k, val := v, born := clock }, clock + 1, ?_, ?_⟩
   ·simp [Instr.mapUpdate, run_underlying hu, getObj, Sem.run, hb, hc, hf, Sem.run_bind, Result.andThen, MapKept.run_setObj_map _ hb, go_sem]
   ·rw [Array.toList_push]
    exact RepMap.push (kt := kt) rfl ⟨cells, hvi, hR⟩ hM a0
  ·have hf := MapKept.run_findKey (P := P) (w := W) hku a3
   have hj : es[j]? = some e := by simpa using a1
   have hlt : j < es.size := (Array.getElem?_eq_some_iff.1 hj).1
   have hkeep : (Instr.keyThatStays e.key (kt k)).run P W = .ok (kt k) W := by
    rw [a5]
    have hs := hL.bits k
    simp [Instr.keyThatStays, hs, go_sem]
   refine ⟨es.modify j fun e => { e with key := kt k, val := v }, clock, ?_, ?_⟩
   ·simp [Instr.mapUpdate, run_underlying hu, getObj, Sem.run, hb, hc, hf, Sem.run_bind, Result.andThen, hj, hkeep, MapKept.run_setObj_map _ hb, go_sem]
   ·have e1 : (es.modify j fun e => { e with key := kt k, val := v }).toList = es.toList.set j { e with key := kt k, val := v } := by
     apply List.ext_getElem?
     intro q
     rw [Array.getElem?_toList, Array.getElem?_modify, List.getElem?_set]
     by_cases hq : j = q
     ·subst hq
      have he : es[j] = e := (Array.getElem?_eq_some_iff.1 hj).2
      simp [hlt, he]
     ·simp [hq]
    rw [e1]
    exact a6 v _ y rfl ⟨cells, hvi, hR⟩
 obtain ⟨es', clock', hr, hM'⟩ := key
 have e1 : (execOp ac.eval ⟨none, .mapUpdate T x ix vx, ty, pos, after, gd⟩).run P W = .ok .skip { W with heap := W.heap.setIfInBounds b (.map es' clock') } := by
  simp only [execOp, hA.eval hx, hA.eval hk, hA.eval hv, Sem.run_bind, hr, Result.andThen]; rfl
 rw [e1, Oper.upon_skip]
 refine h es' clock' hM' _ _ (hA.skip none (fun d hd => by cases hd) undef) (hW.grown (e' := .blk b (.map es' clock')) hi (grownBy_setObj hb) (MapKept.heap_set hb).1 (.inl rfl))

theorem OpOk.makeMap {K : Act → World → Prop} {d : Nat} {T ty : TypeId} {pos : String} {after : Array Edge} {gd : Option (Nat × Bool)} (vt : Ty) (row : Bool) {κ : Type} {kt : κ → Value} (hn : Nat.ble (d + 1) n = true)
  (h : ∀ b, RepMap g vt row kt (#[] : Array MapEntry).toList [] → Ok n w0 ((d, .map (some b)) :: m) (.blk b (.map #[] 0) :: H) g K) : OpOk P K Q ⟨some d, .makeMap T none, ty, pos, after, gd⟩ n w0 m H g := fun ac W hA hW => by
 show Oper.upon P _ ac _ Q (Sem.run P (execOp ac.eval _) W)
 have e1 : (execOp ac.eval ⟨some d, .makeMap T none, ty, pos, after, gd⟩).run P W = .ok (.value (.map (some W.heap.size))) (W.alloc (.map #[] 0)) := by
  simp only [execOp, Sem.run_bind, Option.map_none, RowKit.run_makeMap, Result.andThen]; rfl
 rw [e1, Oper.upon_value]
 exact h _ trivial _ _ (hA.put (Nat.le_of_ble_eq_true hn) _) (hW.push _)

end
end Go.Eng
