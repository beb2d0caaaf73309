/- Range over a map of the call's own: the order is whatever the tape says. -/
import Derived.Test.YtdjcgbejnpbjlaaGreatDoorSto
import Derived.Maps.RangeRun
namespace Go.Eng
open Go.RowKit (Below)
set_option linter.unusedVariables false

/-- the entries were born apart, below the clock -/
def Apart (es : List MapEntry) (ck : Nat) : Prop := (es.map (·.born)).Nodup ∧ ∀ e ∈ es, e.born < ck
/-- a map's entries, born apart -/
def RepMapA (g : Ghost) (vt : Ty) (row : Bool) {κ : Type} (kt : κ → Value) (es : Array MapEntry) (ck : Nat) (l : List (κ × vt.den)) : Prop := RepMap g vt row kt es.toList l ∧ Apart es.toList ck
theorem RepMapA.mono {g g' : Ghost} (h : Gle g g') {vt : Ty} {row : Bool} {κ : Type} {kt : κ → Value} {es : Array MapEntry} {ck : Nat} {l : List (κ × vt.den)} (hM : RepMapA g vt row kt es ck l) : RepMapA g' vt row kt es ck l := ⟨hM.1.mono h, hM.2⟩
theorem Apart.nil (ck : Nat) : Apart [] ck := ⟨List.nodup_nil, fun _ h => by cases h⟩
theorem Apart.push {es : List MapEntry} {ck : Nat} (h : Apart es ck) {e : MapEntry} (he : e.born = ck) : Apart (es ++ [e]) (ck + 1) := by
 refine ⟨?_, fun x hx => ?_⟩
 ·rw [List.map_append, List.map_cons, List.map_nil, List.nodup_append]
  refine ⟨h.1, by simp, fun a ha b hb => ?_⟩
  obtain ⟨y, hy, rfl⟩ := List.mem_map.1 ha
  have := h.2 y hy
  simp only [List.mem_singleton] at hb
  omega
 ·rcases List.mem_append.1 hx with hx | hx
  ·have := h.2 x hx; omega
  ·simp only [List.mem_singleton] at hx
   subst hx; omega
theorem Apart.set {es : List MapEntry} {ck : Nat} (h : Apart es ck) {j : Nat} {e e' : MapEntry} (hj : es[j]? = some e) (he : e'.born = e.born) : Apart (es.set j e') ck := by
 refine ⟨?_, fun x hx => ?_⟩
 ·have : (es.set j e').map (·.born) = es.map (·.born) := by
   apply List.ext_getElem?
   intro q
   rw [List.map_set, List.getElem?_set]
   by_cases hq : j = q
   ·subst hq
    have hlt := (List.getElem?_eq_some_iff.1 hj).1
    simp [hlt, he, (List.getElem?_eq_some_iff.1 hj).2]
   ·simp [hq]
  rw [this]; exact h.1
 ·rcases List.mem_or_eq_of_mem_set hx with hx | hx
  ·exact h.2 x hx
  ·subst hx; rw [he]; exact h.2 e (List.mem_of_getElem? hj)

/-- the iterator: what is left -/
def IterIs (g : Ghost) (vt : Ty) (row : Bool) {κ : Type} (kt : κ → Value) (bm : Nat) (es : Array MapEntry) (ck : Nat) (o : Obj) (rem : List (κ × vt.den)) : Prop :=
 ∃ seen, o = .mapIter (some bm) ck seen ck ∧ RepMap g vt row kt (leftOf es seen).toList rem
/-- the entry that was taken -/
def CurIs (g : Ghost) (vt : Ty) (row : Bool) {κ : Type} (kt : κ → Value) (bm : Nat) (es : Array MapEntry) (ck : Nat) (o : Obj) (x : κ × vt.den) : Prop :=
 ∃ (seen : Array Nat) (e : MapEntry), o = .mapIter (some bm) ck (seen.push e.born) ck ∧ e ∈ es.toList ∧ e.key = kt x.1 ∧ ∃ cells, ValIs row e.val cells ∧ Rep g vt cells x.2
theorem IterIs.mono {g g' : Ghost} (h : Gle g g') {vt : Ty} {row : Bool} {κ : Type} {kt : κ → Value} {bm : Nat} {es : Array MapEntry} {ck : Nat} {o : Obj} {rem : List (κ × vt.den)} (hI : IterIs g vt row kt bm es ck o rem) : IterIs g' vt row kt bm es ck o rem := by
 obtain ⟨seen, h1, h2⟩ := hI
 exact ⟨seen, h1, h2.mono h⟩
theorem CurIs.mono {g g' : Ghost} (h : Gle g g') {vt : Ty} {row : Bool} {κ : Type} {kt : κ → Value} {bm : Nat} {es : Array MapEntry} {ck : Nat} {o : Obj} {x : κ × vt.den} (hI : CurIs g vt row kt bm es ck o x) : CurIs g' vt row kt bm es ck o x := by
 obtain ⟨seen, e, h1, h2, h3, cells, h4, h5⟩ := hI
 exact ⟨seen, e, h1, h2, h3, cells, h4, h5.mono h⟩

section
variable {P : Program} {n : Fsz} {w0 : Base} {m : Env} {H : List Ent} {g : Ghost} {R : Act → World → Prop} {Q : Exit → Act → World → Prop} {ops : Array Oper}

theorem OpOk.mapUpdateA {K : Act → World → Prop} {T E KT ty : TypeId} {x ix vx : Operand} {pos : String} {after : Array Edge} {gd : Option (Nat × Bool)} {vt : Ty} {row : Bool} {b clock : Nat} {es : Array MapEntry} {κ : Type} [BEq κ] {kt : κ → Value} {l : List (κ × vt.den)} {k : κ} {kd : TypeDesc} {v : Value} {cells : List Value} {y : vt.den}
  (hL : KeyLaw kd kt) (i : Nat) (hi : H[i]? = some (.blk b (.map es clock))) (hM : RepMapA g vt row kt es clock l) (hx : val m x = some (.map (some b))) (hk : val m ix = some (kt k)) (hv : val m vx = some v) (hu : P.underlying T = some (.map KT E)) (hku : P.underlying KT = some kd)
  (hvi : ValIs row v cells) (hR : Rep g vt cells y)
  (h : ∀ es' clock', RepMapA g vt row kt es' clock' (putK k y l) → Ok n w0 m (H.set i (.blk b (.map es' clock'))) g K) :
  OpOk P K Q ⟨none, .mapUpdate T x ix vx, ty, pos, after, gd⟩ n w0 m H g := fun ac W hA hW => by
 have hb := hW.at hi
 show Oper.upon P _ ac _ Q (Sem.run P (execOp ac.eval _) W)
 have hc := MapKept.run_checkKey (P := P) (w := W) (k := kt k) hku (hL.isKey k) false 9999
 have key : ∃ es' clock', (Instr.mapUpdate T (.map (some b)) (kt k) v).run P W = .ok () { W with heap := W.heap.setIfInBounds b (.map es' clock') } ∧ RepMapA g vt row kt es' clock' (putK k y l) := by
  rcases findNow_key hL (k := k) 0 hM.1 with ⟨a0, a1⟩ | ⟨j, e, z, a1, a2, a3, _, a5, a6⟩
  ·have hf := MapKept.run_findKey (P := P) (w := W) hku a1
   refine ⟨es.push { key := kt k, val := v, born := clock }, clock + 1, ?_, ?_, ?_⟩
   ·simp [Instr.mapUpdate, run_underlying hu, getObj, Sem.run, hb, hc, hf, Sem.run_bind, Result.andThen, MapKept.run_setObj_map _ hb, go_sem]
   ·rw [Array.toList_push]
    exact RepMap.push (kt := kt) rfl ⟨cells, hvi, hR⟩ hM.1 a0
   ·rw [Array.toList_push]
    exact hM.2.push rfl
  ·have hf := MapKept.run_findKey (P := P) (w := W) hku a3
   have hj : es[j]? = some e := by simpa using a1
   have hlt : j < es.size := (Array.getElem?_eq_some_iff.1 hj).1
   have hkeep : (Instr.keyThatStays e.key (kt k)).run P W = .ok (kt k) W := by
    rw [a5]
    have hs := hL.bits k
    simp [Instr.keyThatStays, hs, go_sem]
   have e1 : (es.modify j fun e => { e with key := kt k, val := v }).toList = es.toList.set j { e with key := kt k, val := v } := by
    apply List.ext_getElem?
    intro q
    rw [Array.getElem?_toList, Array.getElem?_modify, List.getElem?_set]
    by_cases hq : j = q
    ·subst hq
     have he : es[j] = e := (Array.getElem?_eq_some_iff.1 hj).2
     simp [hlt, he]
    ·simp [hq]
   refine ⟨es.modify j fun e => { e with key := kt k, val := v }, clock, ?_, ?_, ?_⟩
   ·simp [Instr.mapUpdate, run_underlying hu, getObj, Sem.run, hb, hc, hf, Sem.run_bind, Result.andThen, hj, hkeep, MapKept.run_setObj_map _ hb, go_sem]
   ·rw [e1]
    exact a6 v _ y rfl ⟨cells, hvi, hR⟩
   ·rw [e1]
    exact hM.2.set (e := e) (by simpa using a1) rfl
 obtain ⟨es', clock', hr, hM'⟩ := key
 have e1 : (execOp ac.eval ⟨none, .mapUpdate T x ix vx, ty, pos, after, gd⟩).run P W = .ok .skip { W with heap := W.heap.setIfInBounds b (.map es' clock') } := by
  simp only [execOp, hA.eval hx, hA.eval hk, hA.eval hv, Sem.run_bind, hr, Result.andThen]; rfl
 rw [e1, Oper.upon_skip]
 refine h es' clock' hM' _ _ (hA.skip none (fun d hd => by cases hd) undef) (hW.grown (e' := .blk b (.map es' clock')) hi (grownBy_setObj hb) (MapKept.heap_set hb).1 (.inl rfl))

theorem OpOk.makeMapA {K : Act → World → Prop} {d : Nat} {T ty : TypeId} {pos : String} {after : Array Edge} {gd : Option (Nat × Bool)} (vt : Ty) (row : Bool) {κ : Type} {kt : κ → Value} (hn : Nat.ble (d + 1) n = true)
  (h : ∀ b, RepMapA g vt row kt (#[] : Array MapEntry) 0 [] → Ok n w0 ((d, .map (some b)) :: m) (.blk b (.map #[] 0) :: H) g K) : OpOk P K Q ⟨some d, .makeMap T none, ty, pos, after, gd⟩ n w0 m H g :=
 OpOk.makeMap vt row (kt := kt) hn fun b hM => h b ⟨hM, Apart.nil 0⟩

theorem OpOk.range {K : Act → World → Prop} {d : Nat} {T E KT ty : TypeId} {x : Operand} {pos : String} {after : Array Edge} {gd : Option (Nat × Bool)} {vt : Ty} {row : Bool} {b ck : Nat} {es : Array MapEntry} {κ : Type} {kt : κ → Value} {l : List (κ × vt.den)}
  (i : Nat) (hi : H[i]? = some (.blk b (.map es ck))) (hM : RepMapA g vt row kt es ck l) (hx : val m x = some (.map (some b))) (hu : P.underlying T = some (.map KT E)) (hn : Nat.ble (d + 1) n = true)
  (h : ∀ b' o, IterIs g vt row kt b es ck o l → Ok n w0 ((d, .pointer (some ⟨b', 0, none⟩)) :: m) (.blk b' o :: H) g K) :
  OpOk P K Q ⟨some d, .range T x, ty, pos, after, gd⟩ n w0 m H g := fun ac W hA hW => by
 have hb := hW.at hi
 show Oper.upon P _ ac _ Q (Sem.run P (execOp ac.eval _) W)
 have e1 : (execOp ac.eval ⟨some d, .range T x, ty, pos, after, gd⟩).run P W = .ok (.value (.pointer (some ⟨W.heap.size, 0, none⟩))) (W.alloc (.mapIter (some b) ck #[] ck)) := by
  simp only [execOp, hA.eval hx, Sem.run_bind, run_range_map W T KT E b es ck hu hb, Result.andThen]; rfl
 rw [e1, Oper.upon_value]
 refine h _ _ ⟨#[], rfl, ?_⟩ _ _ (hA.put (Nat.le_of_ble_eq_true hn) _) (hW.push _)
 have : (leftOf es #[]).toList = es.toList := by simp [leftOf]
 rw [this]; exact hM.1

end
end Go.Eng
