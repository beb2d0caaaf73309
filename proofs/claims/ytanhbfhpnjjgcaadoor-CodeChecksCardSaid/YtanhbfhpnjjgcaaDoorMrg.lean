/- Range over a map of the call's own: the order is whatever the tape says. -/
import Derived.Test.YtanhbfhpnjjgcaaDoorSto
import Derived.Maps.RangeRun
namespace Go.Eng
open Go.RowKit (Below)
set_option linter.unusedVariables false

/-- the entries were born apart, below the clock -/
def Apart (es : List MapEntry) (ck : Nat) : Prop := (es.map (·.born)).Nodup ∧ ∀ e ∈ es, e.born < ck
/-- a map's entries, born apart -/
def RepMapA (g : Ghost) (vt : Ty) (row : Bool) {κ : Type} (kt : κ → Value) (es : Array MapEntry) (ck : Nat) (l : List (κ × vt.den)) : Prop := RepMap g vt row kt es.toList l ∧ Apart es.toList ck
theorem RepMapA.mono {g g' : Ghost} (h : Gle g g') {vt : Ty} {row : Bool} {κ : Type} {kt : κ → Value} {es : Array MapEntry} {ck : Nat} {l : List (κ × vt.den)} (hM : RepMapA g vt row kt es ck l) : RepMapA g' vt row kt es ck l := ⟨hM.1.mono h, hM.2⟩
theorem Apart.nil (ck : Nat) : Apart [] ck := ⟨List.nodup_nil, fun _ h => by cases h⟩
theorem Apart.push {es : List MapEntry} {ck : Nat} (h : Apart es ck) {e : MapEntry} (he : e.born = ck) : Apart (es ++ [e]) (ck + 1) := by
 refine ⟨?_, fun x hx => ?_⟩
 ·rw [List.map_append, List.map_cons, List.map_nil, List.nodup_append]
  refine ⟨h.1, by simp, fun a ha b hb => ?_⟩
  obtain ⟨y, hy, rfl⟩ := List.mem_map.1 ha
  have := h.2 y hy
  simp only [List.mem_singleton] at hb
  omega
 ·rcases List.mem_append.1 hx with hx | hx
  ·have := h.2 x hx; omega
  ·simp only [List.mem_singleton] at hx
   subst hx; omega
theorem Apart.set {es : List MapEntry} {ck : Nat} (h : Apart es ck) {j : Nat} {e e' : MapEntry} (hj : es[j]? = some e) (he : e'.born = e.born) : Apart (es.set j e') ck := by
 refine ⟨?_, fun x hx => ?_⟩
 ·have : (es.set j e').map (·.born) = es.map (·.born) := by
   apply List.ext_getElem?
   intro q
   rw [List.map_set, List.getElem?_set]
   by_cases hq : j = q
   ·subst hq
    have hlt := (List.getElem?_eq_some_iff.1 hj).1
    simp [hlt, he, (List.getElem?_eq_some_iff.1 hj).2]
   ·simp [hq]
  rw [this]; exact h.1
 ·rcases List.mem_or_eq_of_mem_set hx with hx | hx
  ·exact h.2 x hx
  ·subst hx; rw [he]; exact h.2 e (List.mem_of_getElem? hj)

/-- one of a list is taken out -/
def Sel {α : Type} (x : α) (l r : List α) : Prop := ∃ i, l[i]? = some x ∧ r = l.eraseIdx i
/-- the iterator: what is left -/
def IterIs (g : Ghost) (vt : Ty) (row : Bool) {κ : Type} (kt : κ → Value) (bm : Nat) (es : Array MapEntry) (ck : Nat) (o : Obj) (rem : List (κ × vt.den)) : Prop :=
 ∃ seen, o = .mapIter (some bm) ck seen ck ∧ RepMap g vt row kt (leftOf es seen).toList rem
/-- the entry that was taken -/
def CurIs (g : Ghost) (vt : Ty) (row : Bool) {κ : Type} (kt : κ → Value) (bm : Nat) (es : Array MapEntry) (ck : Nat) (o : Obj) (x : κ × vt.den) : Prop :=
 ∃ (seen : Array Nat) (e : MapEntry), o = .mapIter (some bm) ck (seen.push e.born) ck ∧ e ∈ es.toList ∧ e.key = kt x.1 ∧ ∃ cells, ValIs row e.val cells ∧ Rep g vt cells x.2
theorem IterIs.mono {g g' : Ghost} (h : Gle g g') {vt : Ty} {row : Bool} {κ : Type} {kt : κ → Value} {bm : Nat} {es : Array MapEntry} {ck : Nat} {o : Obj} {rem : List (κ × vt.den)} (hI : IterIs g vt row kt bm es ck o rem) : IterIs g' vt row kt bm es ck o rem := by
 obtain ⟨seen, h1, h2⟩ := hI
 exact ⟨seen, h1, h2.mono h⟩
theorem CurIs.mono {g g' : Ghost} (h : Gle g g') {vt : Ty} {row : Bool} {κ : Type} {kt : κ → Value} {bm : Nat} {es : Array MapEntry} {ck : Nat} {o : Obj} {x : κ × vt.den} (hI : CurIs g vt row kt bm es ck o x) : CurIs g' vt row kt bm es ck o x := by
 obtain ⟨seen, e, h1, h2, h3, cells, h4, h5⟩ := hI
 exact ⟨seen, e, h1, h2, h3, cells, h4, h5.mono h⟩

theorem RepMap.nth {g : Ghost} {vt : Ty} {row : Bool} {κ : Type} {kt : κ → Value} : ∀ {es : List MapEntry} {l : List (κ × vt.den)}, RepMap g vt row kt es l → ∀ {i : Nat} {e : MapEntry}, es[i]? = some e →
  ∃ x, l[i]? = some x ∧ e.key = kt x.1 ∧ (∃ cells, ValIs row e.val cells ∧ Rep g vt cells x.2) ∧ RepMap g vt row kt (es.eraseIdx i) (l.eraseIdx i)
 | [], _, _, _, _, h => by simp at h
 | _ :: _, [], h, _, _, _ => h.elim
 | e :: es, x :: l, ⟨h1, h2, h3⟩, 0, e', h => by
  simp only [List.getElem?_cons_zero, Option.some.injEq] at h
  subst h
  exact ⟨x, rfl, h1, h2, h3⟩
 | e :: es, x :: l, ⟨h1, h2, h3⟩, i + 1, e', h => by
  obtain ⟨y, a1, a2, a3, a4⟩ := RepMap.nth h3 (i := i) (by simpa using h)
  exact ⟨y, by simpa using a1, a2, a3, ⟨h1, h2, a4⟩⟩

theorem left_push {es : List MapEntry} (hn : (es.map (·.born)).Nodup) {seen : Array Nat} {e : MapEntry} : ∀ {i : Nat}, (es.filter fun x => !seen.contains x.born)[i]? = some e →
  (es.filter fun x => !(seen.push e.born).contains x.born) = (es.filter fun x => !seen.contains x.born).eraseIdx i := by
 induction es with
 | nil => intro i h; simp at h
 | cons a es ih =>
  intro i h
  rw [List.map_cons, List.nodup_cons] at hn
  by_cases ha : seen.contains a.born = true
  ·have e1 : (!seen.contains a.born) = false := by rw [ha]; rfl
   have e2 : (!(seen.push e.born).contains a.born) = false := by rw [contains_push, ha]; rfl
   rw [List.filter_cons_of_neg (by rw [e2]; decide), List.filter_cons_of_neg (by rw [e1]; decide)]
   rw [List.filter_cons_of_neg (by rw [e1]; decide)] at h
   exact ih hn.2 h
  ·have ha' : seen.contains a.born = false := by simpa using ha
   have e1 : (!seen.contains a.born) = true := by rw [ha']; rfl
   rw [List.filter_cons_of_pos (p := fun x : MapEntry => !seen.contains x.born) e1] at h ⊢
   cases i with
   | zero =>
    simp only [List.getElem?_cons_zero, Option.some.injEq] at h
    subst h
    have e2 : (!(seen.push a.born).contains a.born) = false := by rw [contains_push, beq_self_eq_true, Bool.or_true]; rfl
    rw [List.filter_cons_of_neg (by rw [e2]; decide), List.eraseIdx_cons_zero]
    apply List.filter_congr
    intro x hx
    have : (x.born == a.born) = false := by
     cases hc : x.born == a.born with
     | false => rfl
     | true => exact absurd (List.mem_map.2 ⟨x, hx, beq_iff_eq.1 hc⟩) hn.1
    rw [contains_push, this, Bool.or_false]
   | succ i =>
    simp only [List.getElem?_cons_succ] at h
    have hm := List.mem_of_getElem? h
    have hme := (List.mem_filter.1 hm).1
    have : (a.born == e.born) = false := by
     cases hc : a.born == e.born with
     | false => rfl
     | true => exact absurd (List.mem_map.2 ⟨e, hme, (beq_iff_eq.1 hc).symm⟩) hn.1
    have e2 : (!(seen.push e.born).contains a.born) = true := by rw [contains_push, ha', this]; rfl
    rw [List.filter_cons_of_pos (p := fun x : MapEntry => !(seen.push e.born).contains x.born) e2, List.eraseIdx_cons_succ, ih hn.2 h]

section
variable {P : Program} {n : Fsz} {w0 : Base} {m : Env} {H : List Ent} {g : Ghost} {R : Act → World → Prop} {Q : Exit → Act → World → Prop} {ops : Array Oper}

theorem OpOk.mapUpdateA {K : Act → World → Prop} {T E KT ty : TypeId} {x ix vx : Operand} {pos : String} {after : Array Edge} {gd : Option (Nat × Bool)} {vt : Ty} {row : Bool} {b clock : Nat} {es : Array MapEntry} {κ : Type} [BEq κ] {kt : κ → Value} {l : List (κ × vt.den)} {k : κ} {kd : TypeDesc} {v : Value} {cells : List Value} {y : vt.den}
  (hL : KeyLaw kd kt) (i : Nat) (hi : H[i]? = some (.blk b (.map es clock))) (hM : RepMapA g vt row kt es clock l) (hx : val m x = some (.map (some b))) (hk : val m ix = some (kt k)) (hv : val m vx = some v) (hu : P.underlying T = some (.map KT E)) (hku : P.underlying KT = some kd)
  (hvi : ValIs row v cells) (hR : Rep g vt cells y)
  (h : ∀ es' clock', RepMapA g vt row kt es' clock' (putK k y l) → Ok n w0 m (H.set i (.blk b (.map es' clock'))) g K) :
  OpOk P K Q ⟨none, .mapUpdate T x ix vx, ty, pos, after, gd⟩ n w0 m H g := fun ac W hA hW => by
 have hb := hW.at hi
 show Oper.upon P _ ac _ Q (Sem.run P (execOp ac.eval _) W)
 have hc := MapKept.run_checkKey (P := P) (w := W) (k := kt k) hku (hL.isKey k) false 9999
 have key : ∃ es' clock', (Instr.mapUpdate T (.map (some b)) (kt k) v).run P W = .ok () { W with heap := W.heap.setIfInBounds b (.map es' clock') } ∧ RepMapA g vt row kt es' clock' (putK k y l) := by
  rcases findNow_key hL (k := k) 0 hM.1 with ⟨a0, a1⟩ | ⟨j, e, z, a1, a2, a3, _, a5, a6⟩
  ·have hf := MapKept.run_findKey (P := P) (w := W) hku a1
   refine ⟨es.push { key := kt k, val := v, born := clock }, clock + 1, ?_, ?_, ?_⟩
   ·simp [Instr.mapUpdate, run_underlying hu, getObj, Sem.run, hb, hc, hf, Sem.run_bind, Result.andThen, MapKept.run_setObj_map _ hb, go_sem]
   ·rw [Array.toList_push]
    exact RepMap.push (kt := kt) rfl ⟨cells, hvi, hR⟩ hM.1 a0
   ·rw [Array.toList_push]
    exact hM.2.push rfl
  ·have hf := MapKept.run_findKey (P := P) (w := W) hku a3
   have hj : es[j]? = some e := by simpa using a1
   have hlt : j < es.size := (Array.getElem?_eq_some_iff.1 hj).1
   have hkeep : (Instr.keyThatStays e.key (kt k)).run P W = .ok (kt k) W := by
    rw [a5]
    have hs := hL.bits k
    simp [Instr.keyThatStays, hs, go_sem]
   have e1 : (es.modify j fun e => { e with key := kt k, val := v }).toList = es.toList.set j { e with key := kt k, val := v } := by
    apply List.ext_getElem?
    intro q
    rw [Array.getElem?_toList, Array.getElem?_modify, List.getElem?_set]
    by_cases hq : j = q
    ·subst hq
     have he : es[j] = e := (Array.getElem?_eq_some_iff.1 hj).2
     simp [hlt, he]
    ·simp [hq]
   refine ⟨es.modify j fun e => { e with key := kt k, val := v }, clock, ?_, ?_, ?_⟩
   ·simp [Instr.mapUpdate, run_underlying hu, getObj, Sem.run, hb, hc, hf, Sem.run_bind, Result.andThen, hj, hkeep, MapKept.run_setObj_map _ hb, go_sem]
   ·rw [e1]
    exact a6 v _ y rfl ⟨cells, hvi, hR⟩
   ·rw [e1]
    exact hM.2.set (e := e) (by simpa using a1) rfl
 obtain ⟨es', clock', hr, hM'⟩ := key
 have e1 : (execOp ac.eval ⟨none, .mapUpdate T x ix vx, ty, pos, after, gd⟩).run P W = .ok .skip { W with heap := W.heap.setIfInBounds b (.map es' clock') } := by
  simp only [execOp, hA.eval hx, hA.eval hk, hA.eval hv, Sem.run_bind, hr, Result.andThen]; rfl
 rw [e1, Oper.upon_skip]
 refine h es' clock' hM' _ _ (hA.skip none (fun d hd => by cases hd) undef) (hW.grown (e' := .blk b (.map es' clock')) hi (grownBy_setObj hb) (MapKept.heap_set hb).1 (.inl rfl))

theorem OpOk.makeMapA {K : Act → World → Prop} {d : Nat} {T ty : TypeId} {pos : String} {after : Array Edge} {gd : Option (Nat × Bool)} (vt : Ty) (row : Bool) {κ : Type} {kt : κ → Value} (hn : Nat.ble (d + 1) n = true)
  (h : ∀ b, RepMapA g vt row kt (#[] : Array MapEntry) 0 [] → Ok n w0 ((d, .map (some b)) :: m) (.blk b (.map #[] 0) :: H) g K) : OpOk P K Q ⟨some d, .makeMap T none, ty, pos, after, gd⟩ n w0 m H g :=
 OpOk.makeMap vt row (kt := kt) hn fun b hM => h b ⟨hM, Apart.nil 0⟩

theorem OpOk.range {K : Act → World → Prop} {d : Nat} {T E KT ty : TypeId} {x : Operand} {pos : String} {after : Array Edge} {gd : Option (Nat × Bool)} {vt : Ty} {row : Bool} {b ck : Nat} {es : Array MapEntry} {κ : Type} {kt : κ → Value} {l : List (κ × vt.den)}
  (i : Nat) (hi : H[i]? = some (.blk b (.map es ck))) (hM : RepMapA g vt row kt es ck l) (hx : val m x = some (.map (some b))) (hu : P.underlying T = some (.map KT E)) (hn : Nat.ble (d + 1) n = true)
  (h : ∀ b' o, IterIs g vt row kt b es ck o l → Ok n w0 ((d, .pointer (some ⟨b', 0, none⟩)) :: m) (.blk b' o :: H) g K) :
  OpOk P K Q ⟨some d, .range T x, ty, pos, after, gd⟩ n w0 m H g := fun ac W hA hW => by
 have hb := hW.at hi
 show Oper.upon P _ ac _ Q (Sem.run P (execOp ac.eval _) W)
 have e1 : (execOp ac.eval ⟨some d, .range T x, ty, pos, after, gd⟩).run P W = .ok (.value (.pointer (some ⟨W.heap.size, 0, none⟩))) (W.alloc (.mapIter (some b) ck #[] ck)) := by
  simp only [execOp, hA.eval hx, Sem.run_bind, run_range_map W T KT E b es ck hu hb, Result.andThen]; rfl
 rw [e1, Oper.upon_value]
 refine h _ _ ⟨#[], rfl, ?_⟩ _ _ (hA.put (Nat.le_of_ble_eq_true hn) _) (hW.push _)
 have : (leftOf es #[]).toList = es.toList := by simp [leftOf]
 rw [this]; exact hM.1

theorem OpOk.next {K : Act → World → Prop} {d : Nat} {ty : TypeId} {x : Operand} {pos : String} {after : Array Edge} {gd : Option (Nat × Bool)} {vt : Ty} {row : Bool} {b b' ck : Nat} {es : Array MapEntry} {κ : Type} {kt : κ → Value} {l rem : List (κ × vt.den)} {o : Obj}
  (i j : Nat) (hi : H[i]? = some (.blk b (.map es ck))) (hj : H[j]? = some (.blk b' o)) (hM : RepMapA g vt row kt es ck l) (hI : IterIs g vt row kt b es ck o rem) (hx : val m x = some (.pointer (some ⟨b', 0, none⟩))) (hn : Nat.ble (d + 1) n = true)
  (h0 : rem = [] → Ok n w0 ((d, .tuple #[.bool false]) :: m) H g K)
  (h : ∀ (y : κ × vt.den) rem', Sel y rem rem' → ∀ kv v o', kv = kt y.1 → CurIs g vt row kt b es ck o' y → IterIs g vt row kt b es ck o' rem' → Ok n w0 ((d, .tuple #[.bool true, kv, v]) :: m) (H.set j (.blk b' o')) g K) :
  OpOk P K Q ⟨some d, .next x false, ty, pos, after, gd⟩ n w0 m H g := fun ac W hA hW => by
 have hb := hW.at hi
 have hb' := hW.at hj
 obtain ⟨seen, rfl, hR⟩ := hI
 show Oper.upon P _ ac _ Q (Sem.run P (execOp ac.eval _) W)
 rcases run_next_at (P := P) W ty b' b ck ck seen es ck hb' hb hM.2.2 (Nat.le_refl _) with ⟨a1, a2⟩ | ⟨e, a1, W1, a2, a3⟩
 ·have e1 : (execOp ac.eval ⟨some d, .next x false, ty, pos, after, gd⟩).run P W = .ok (.value (.tuple #[.bool false])) W := by
   simp only [execOp, hA.eval hx, Sem.run_bind, a2, Result.andThen]; rfl
  rw [e1, Oper.upon_value]
  have hr : rem = [] := by
   have : (leftOf es seen).toList = [] := by rw [Array.eq_empty_of_size_eq_zero a1]
   rw [this] at hR
   cases rem with
   | nil => rfl
   | cons y r => exact hR.elim
  exact h0 hr _ _ (hA.put (Nat.le_of_ble_eq_true hn) _) hW
 ·have e1 : (execOp ac.eval ⟨some d, .next x false, ty, pos, after, gd⟩).run P W = .ok (.value (.tuple #[.bool true, e.key, e.val])) (ChangeMaps.setBlock W1 b' (.mapIter (some b) ck (seen.push e.born) ck)) := by
   simp only [execOp, hA.eval hx, Sem.run_bind, a3, Result.andThen]; rfl
  rw [e1, Oper.upon_value]
  obtain ⟨q, hq⟩ := List.mem_iff_getElem?.1 a1
  obtain ⟨y, c1, c2, c3, c4⟩ := hR.nth hq
  have hl : (leftOf es (seen.push e.born)).toList = (leftOf es seen).toList.eraseIdx q := by
   simp only [leftOf, Array.toList_filter] at hq ⊢
   exact left_push hM.2.1 hq
  have hg : W.grownBy (ChangeMaps.setBlock W1 b' (.mapIter (some b) ck (seen.push e.born) ck)) (some b') := by
   rcases a2 with rfl | rfl <;> exact ⟨rfl, rfl, rfl, by show _ ≤ (Array.setIfInBounds _ _ _).size; rw [Array.size_setIfInBounds]; exact Nat.le_refl _, fun k _ hk => (MapKept.heap_set hb').2 k (fun e => hk (by rw [e]))⟩
  have hs : (ChangeMaps.setBlock W1 b' (.mapIter (some b) ck (seen.push e.born) ck)).heap[b']? = some (.mapIter (some b) ck (seen.push e.born) ck) := by
   rcases a2 with rfl | rfl <;> exact (MapKept.heap_set hb').1
  exact h y _ ⟨q, c1, rfl⟩ _ _ _ c2 ⟨seen, e, rfl, (mem_left a1).1, c2, c3⟩ ⟨seen.push e.born, rfl, by rw [hl]; exact c4⟩ _ _ (hA.put (Nat.le_of_ble_eq_true hn) _) (hW.grown (e' := .blk b' _) hj hg hs (.inl rfl))

theorem OpOk.entry {K : Act → World → Prop} {d : Nat} {ty : TypeId} {x : Operand} {pos : String} {after : Array Edge} {gd : Option (Nat × Bool)} {vt : Ty} {row : Bool} {b b' ck : Nat} {es : Array MapEntry} {κ : Type} {kt : κ → Value} {l : List (κ × vt.den)} {y : κ × vt.den} {o : Obj}
  (i j : Nat) (hi : H[i]? = some (.blk b (.map es ck))) (hj : H[j]? = some (.blk b' o)) (hM : RepMapA g vt row kt es ck l) (hC : CurIs g vt row kt b es ck o y) (hx : val m x = some (.pointer (some ⟨b', 0, none⟩))) (hn : Nat.ble (d + 1) n = true)
  (h : ∀ v cells, ValIs row v cells → Rep g vt cells y.2 → Ok n w0 ((d, .tuple #[kt y.1, v]) :: m) H g K) :
  OpOk P K Q ⟨some d, .entry x, ty, pos, after, gd⟩ n w0 m H g := fun ac W hA hW => by
 have hb := hW.at hi
 have hb' := hW.at hj
 obtain ⟨seen, e, rfl, h1, h2, cells, h3, h4⟩ := hC
 show Oper.upon P _ ac _ Q (Sem.run P (execOp ac.eval _) W)
 have e1 : (execOp ac.eval ⟨some d, .entry x, ty, pos, after, gd⟩).run P W = .ok (.value (.tuple #[e.key, e.val])) W := by
  simp only [execOp, hA.eval hx, Sem.run_bind, run_entry_at (P := P) W b' b ck seen es ck e hb' hb h1 hM.2.1, Result.andThen]; rfl
 rw [e1, Oper.upon_value, h2]
 exact h _ _ h3 h4 _ _ (hA.put (Nat.le_of_ble_eq_true hn) _) hW
end
end Go.Eng
