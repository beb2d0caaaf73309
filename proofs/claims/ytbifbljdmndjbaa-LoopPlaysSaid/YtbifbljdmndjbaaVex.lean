/-
 Parts of a slice of the call's own: what slices.Delete and slices.Insert do with them. No program in sight.
-/
import Derived.Test.YtbifbljdmndjbaaVew
import Derived.Lib.AppendZerosOnto
import Derived.Lib.Overlaps
import Derived.Laws.Externs
namespace Go.Eng
open Go.RowKit (Below)
theorem StW.pushFr {w0 : Base} {H : List Ent} {g : Ghost} {W W' : World} {v : Value} {E : TypeId} {size n : Nat} {xs : List Value} (h : StW w0 H g W) (hb : Below W.heap.size W W') (hok : W'.ownsRow W.heap.size E size v n xs) : StW w0 (.own v E size n xs :: H) g W' := by
 have h' := h.of_below hb
 have hge : ∀ q, v.ownBlock = some q → W.heap.size ≤ q := fun q hq => (hok.lt q hq).1
 refine ⟨fun e he => ?_, ?_, h'.ghost, fun e he q hq => ?_, fun e he q hq => ?_, h'.below⟩
 ·rcases List.mem_cons.1 he with rfl | he
  ·exact ⟨hok.1, hok.2.imp id fun ⟨b, cap, cur, h1, _, h3⟩ => ⟨b, cap, cur, h1, Nat.zero_le _, h3⟩⟩
  ·exact h'.ents e he
 ·rw [List.filterMap_cons]
  split
  ·exact h'.nodup
  ·rename_i q hq
   refine List.nodup_cons.2 ⟨fun hm => ?_, h'.nodup⟩
   obtain ⟨e, he, heq⟩ := List.mem_filterMap.1 hm
   have h1 := Ent.ok_lt (h.ents e he) heq
   have h2 := hge q hq
   omega
 ·rcases List.mem_cons.1 he with rfl | he
  ·cases hc : g q with
   | none => rfl
   | some o =>
    have h1 := lt_of_some (h.ghost q o hc)
    have h2 := hge q hq
    omega
  ·exact h'.apart e he q hq
 ·rcases List.mem_cons.1 he with rfl | he
  ·have h2 := hge q hq
   have h3 := h.below.size
   left; omega
  ·exact h'.mine e he q hq
section
variable {P : Program} {n : Nat} {w0 : Base} {m : Env} {H : List Ent} {g : Ghost} {R : Act → World → Prop} {Q : Exit → Act → World → Prop} {ops : Array Oper}
/-- the cells of a row from the element lo on -/
theorem row_load {W : World} {b : Nat} {cur : Array Value} {E : TypeId} {size lo k c o : Nat} (hh : W.heap[b]? = some (.cells cur E)) (hsz : cur.size = c * size) (hk : lo + k ≤ c) (ho : lo < c → o = lo * size) :
  (loadCells ⟨b, o, none⟩ (k * size)).run P W = .ok ((cur.toList.take ((lo + k) * size)).drop (lo * size)).toArray W := by
 have hle : (lo + k) * size ≤ c * size := Nat.mul_le_mul_right _ hk
 have hadd : (lo + k) * size = lo * size + k * size := Nat.add_mul ..
 have hlen : ((cur.toList.take ((lo + k) * size)).drop (lo * size)).length = k * size := by
  rw [List.length_drop, List.length_take, Array.length_toList, hsz]; omega
 have := run_loadCells_list (P := P) W ⟨b, o, none⟩ ((cur.toList.take ((lo + k) * size)).drop (lo * size)) (fun j v hj => by
  have hjl : j < k * size := by rw [← hlen]; exact (List.getElem?_eq_some_iff.1 hj).1
  have hk0 : 0 < k := Nat.pos_of_ne_zero fun h => by rw [h, Nat.zero_mul] at hjl; omega
  have := ho (by omega)
  subst this
  rw [List.getElem?_drop, List.getElem?_take] at hj
  split at hj
  ·have hc : W.cell? ⟨b, lo * size + j, none⟩ = cur[lo * size + j]? := by simp [World.cell?, hh]
   rw [Addr.add_plain, hc, ← hj, Array.getElem?_toList]
  ·cases hj)
 rwa [hlen] at this
theorem mid_end (cur vs : List Value) (o q : Nat) (h : o + vs.length = q) (hq : o ≤ cur.length) : (cur.take o ++ vs ++ cur.drop (o + vs.length)).take q = cur.take o ++ vs := by
 have hl : (cur.take o ++ vs).length = q := by rw [List.length_append, List.length_take]; omega
 rw [List.take_append_of_le_length (by omega), List.take_of_length_le (by omega)]
/-- append of a slice's end onto its beginning: what lies between is gone -/
theorem OpOk.delApp {K : Act → World → Prop} {d : Nat} {T E ty : TypeId} {s x : Operand} {pos : String} {after : Array Edge} {gd : Option (Nat × Bool)} {e : Ty} {a : Option Addr} {l : List e.den} {c p q r : Nat} {xs : List Value}
  (i : Nat) (hs : val m s = some (.slice a p c)) (hx : val m x = some (vw a e.size c q r)) (hi : H[i]? = some (.own (.slice a l.length c) E e.size l.length xs)) (hR : RepL g e xs l) (hu : P.underlying T = some (.slice E))
  (hinf : (P.info? E).map (·.size) = some e.size) (hpq : p ≤ q) (hql : q ≤ l.length) (hr : r = l.length) (hn : Nat.ble (d + 1) n = true)
  (hk : ∀ xs2, RepL g e xs2 (l.take p ++ l.drop q) → Ok n w0 ((d, .slice a (l.take p ++ l.drop q).length c) :: m) (H.set i (.own (.slice a (l.take p ++ l.drop q).length c) E e.size (l.take p ++ l.drop q).length xs2)) g K) :
  OpOk P K Q ⟨some d, .call { callee := .builtin .append, args := #[s, x], argTypes := #[T, T] }, ty, pos, after, gd⟩ n w0 m H g := fun ac W hA hW => by
 subst hr
 obtain ⟨inf, h1, h2⟩ := Option.map_eq_some_iff.1 hinf
 have hok : W.ownsRow 0 E e.size (.slice a l.length c) l.length xs := hW.ents _ (List.mem_of_getElem? hi)
 have hlen : (l.take p ++ l.drop q).length = p + (l.length - q) := by simp; omega
 show Oper.upon P _ ac _ Q (Sem.run P (execOp ac.eval _) W)
 rcases own_open hok with ⟨rfl, h3, h4⟩ | ⟨b, cur, rfl, hh, hc, hmax, hsz, htake⟩
 ·have hl : l = [] := List.eq_nil_of_length_eq_zero h3
  subst hl
  have hq0 : q = 0 := by simpa using hql
  have hp0 : p = 0 := by omega
  subst hq0 hp0 h4
  have e1 : (execOp ac.eval ⟨some d, .call { callee := .builtin .append, args := #[s, x], argTypes := #[T, T] }, ty, pos, after, gd⟩).run P W = .ok (.value (.slice none 0 0)) W := by
   simp only [execOp, resolve, invoke, builtin, List.map_toArray, List.map_cons, List.map_nil, hA.eval hs, hA.eval hx, vw, vwA]
   simp [Builtin.append_, run_underlying hu, sizeOf, typeInfo, h1, Builtin.lenOf, Builtin.firstCells, Sem.run_bind, Result.andThen, go_sem]
  rw [e1, Oper.upon_value]
  have hk := hk xs hR
  have hset : H.set i (.own (.slice none ([] : List e.den).length 0) E e.size ([] : List e.den).length xs) = H := by
   obtain ⟨hil, he⟩ := List.getElem?_eq_some_iff.1 hi
   rw [← he, List.set_getElem_self]
  have hk : Ok n w0 ((d, .slice none ([] : List e.den).length 0) :: m) (H.set i (.own (.slice none ([] : List e.den).length 0) E e.size ([] : List e.den).length xs)) g K := hk
  rw [hset] at hk
  exact hk _ W (hA.put (Nat.le_of_ble_eq_true hn) _) hW
 ·obtain ⟨o, ho, ho2⟩ := vwA_some (b := b) (size := e.size) (lo := q) (c := c)
  have hload := row_load (P := P) (k := l.length - q) hh hsz (by omega) ho2
  rw [show q + (l.length - q) = l.length by omega, htake] at hload
  have hxl : xs.length = l.length * e.size := hR.len
  have hvl : (xs.drop (q * e.size)).length = (l.length - q) * e.size := by rw [List.length_drop, hxl, Nat.sub_mul]
  have hm1 : p * e.size + (l.length - q) * e.size = (p + (l.length - q)) * e.size := (Nat.add_mul ..).symm
  have hm2 : (p + (l.length - q)) * e.size ≤ c * e.size := Nat.mul_le_mul_right _ (by omega)
  have hcl : cur.toList.length = c * e.size := by rw [Array.length_toList]; exact hsz
  have hrun := run_storeCells_at (P := P) b (p * e.size) E (xs.drop (q * e.size)) 0 cur W hh (by rw [hvl, hsz]; omega) (fun u hu => hR.ones u (List.mem_of_mem_drop hu))
  simp only [Nat.add_zero] at hrun
  have happ : (Builtin.append_ #[T, T] ty #[.slice (some ⟨b, 0, none⟩) p c, .slice (some ⟨b, o, none⟩) (l.length - q) (c - q)]).run P W = .ok (.slice (some ⟨b, 0, none⟩) (p + (l.length - q)) c) (W.setRow b (cur.toList.take (p * e.size) ++ xs.drop (q * e.size) ++ cur.toList.drop (p * e.size + (xs.drop (q * e.size)).length)).toArray) := by
   simp [Builtin.append_, run_underlying hu, sizeOf, typeInfo, h1, h2, Builtin.lenOf, Builtin.firstCells, show p + (l.length - q) ≤ c by omega, hload, Addr.add_plain, hrun]
  have e1 : (execOp ac.eval ⟨some d, .call { callee := .builtin .append, args := #[s, x], argTypes := #[T, T] }, ty, pos, after, gd⟩).run P W = .ok (.value (.slice (some ⟨b, 0, none⟩) (p + (l.length - q)) c)) (W.setRow b (cur.toList.take (p * e.size) ++ xs.drop (q * e.size) ++ cur.toList.drop (p * e.size + (xs.drop (q * e.size)).length)).toArray) := by
   simp only [execOp, resolve, invoke, builtin, List.map_toArray, List.map_cons, List.map_nil, hA.eval hs, hA.eval hx, vw, ho, Sem.run_bind, Sem.run_pure, Result.andThen_ok, happ]
  rw [e1, Oper.upon_value]
  rw [hlen] at hk
  refine hk _ ?_ _ _ (hA.put (Nat.le_of_ble_eq_true hn) _) (hW.rewr (k' := p + (l.length - q)) hi hh hmax _ (by simp only [List.length_append, List.length_take, List.length_drop, hcl, hxl] at hvl ⊢; omega) (by omega))
  rw [mid_end _ _ _ _ (by rw [hvl]; omega) (by rw [hcl]; omega)]
  have hp : cur.toList.take (p * e.size) = xs.take (p * e.size) := by rw [← htake, List.take_take, Nat.min_eq_left (Nat.mul_le_mul_right _ (by omega))]
  rw [hp]
  exact RepL.app (RepL.take p hR) (RepL.drop q hR)
/-- clear of what lies behind the elements -/
theorem OpOk.clearSpare {K : Act → World → Prop} {T E ty : TypeId} {x : Operand} {pos : String} {after : Array Edge} {gd : Option (Nat × Bool)} {size k c lo hi : Nat} {a : Option Addr} {xs : List Value} {z : Value}
  (i : Nat) (hx : val m x = some (vw a size c lo hi)) (hi' : H[i]? = some (.own (.slice a k c) E size k xs)) (hu : P.underlying T = some (.slice E))
  (hz : (P.info? E).bind (·.zero) = some z) (h1 : z.cells.toList.all (·.oneCell') = true) (hzs : z.cells.size = size) (hlo : k ≤ lo) (hlh : lo ≤ hi) (hhi : hi ≤ c)
  (hk : Ok n w0 m H g K) :
  OpOk P K Q ⟨none, .call { callee := .builtin .clear, args := #[x], argTypes := #[T] }, ty, pos, after, gd⟩ n w0 m H g := fun ac W hA hW => by
 have hok : W.ownsRow 0 E size (.slice a k c) k xs := hW.ents _ (List.mem_of_getElem? hi')
 show Oper.upon P _ ac _ Q (Sem.run P (execOp ac.eval _) W)
 by_cases h0 : hi = lo
 ·have e1 : (execOp ac.eval ⟨none, .call { callee := .builtin .clear, args := #[x], argTypes := #[T] }, ty, pos, after, gd⟩).run P W = .ok (.value (.tuple #[])) W := by
   simp only [execOp, resolve, invoke, builtin, List.map_toArray, List.map_cons, List.map_nil, hA.eval hx, vw, h0, Nat.sub_self]
   cases vwA a size lo c <;> simp [Builtin.clear_, underlying, hu, go_sem]
  rw [e1, Oper.upon_value]
  exact hk _ W (hA.skip none (fun d hd => by cases hd) _) hW
 ·rcases own_open hok with ⟨-, -, h2⟩ | ⟨b, cur, rfl, hh, hc, hmax, hsz, htake⟩
  ·omega
  obtain ⟨o, ho, ho2⟩ := vwA_some (b := b) (size := size) (lo := lo) (c := c)
  have ho2 := ho2 (by omega)
  subst ho2
  obtain ⟨q, hq⟩ : ∃ q, hi - lo = q + 1 := ⟨hi - lo - 1, by omega⟩
  have hvl : (Builtin.zeroCells z.cells (hi - lo)).toList.length = (hi - lo) * size := by rw [zeroCells_rep]; simp [hzs]
  have hmul : lo * size + (hi - lo) * size = hi * size := by rw [← Nat.add_mul]; congr 1; omega
  have hle : hi * size ≤ c * size := Nat.mul_le_mul_right _ hhi
  have hkl : k * size ≤ lo * size := Nat.mul_le_mul_right _ hlo
  have hrun := run_storeCells_at (P := P) b (lo * size) E (Builtin.zeroCells z.cells (hi - lo)).toList 0 cur W hh (by rw [hvl, hsz]; omega) (fun u hu => by
   rw [zeroCells_rep] at hu
   obtain ⟨s, hs, hu⟩ := List.mem_flatten.1 hu
   rw [List.eq_of_mem_replicate hs] at hu
   exact List.all_eq_true.1 h1 u hu)
  simp only [Nat.add_zero] at hrun
  obtain ⟨inf, hinf, hz⟩ := Option.bind_eq_some_iff.1 hz
  have hv : ∀ w, (zeroValue E).run P w = .ok z w := fun w => by simp [zeroValue, typeInfo, hinf, hz, go_sem]
  have hcl : (Builtin.clear_ #[T] ty #[.slice (some ⟨b, lo * size, none⟩) (hi - lo) (c - lo)]).run P W = .ok (.tuple #[]) (W.setRow b (cur.toList.take (lo * size) ++ (Builtin.zeroCells z.cells (hi - lo)).toList ++ cur.toList.drop (lo * size + (Builtin.zeroCells z.cells (hi - lo)).toList.length)).toArray) := by
   rw [hq] at hrun ⊢
   simp only [Builtin.clear_, run_underlying hu, hv, hrun, Sem.run_bind, Result.andThen, Sem.run_pure, List.getElem?_toArray, List.getElem?_cons_zero]
  have e1 : (execOp ac.eval ⟨none, .call { callee := .builtin .clear, args := #[x], argTypes := #[T] }, ty, pos, after, gd⟩).run P W = .ok (.value (.tuple #[])) (W.setRow b (cur.toList.take (lo * size) ++ (Builtin.zeroCells z.cells (hi - lo)).toList ++ cur.toList.drop (lo * size + (Builtin.zeroCells z.cells (hi - lo)).toList.length)).toArray) := by
   simp only [execOp, resolve, invoke, builtin, List.map_toArray, List.map_cons, List.map_nil, hA.eval hx, vw, ho, Sem.run_bind, hcl, Result.andThen_ok, Sem.run_pure]
  rw [e1, Oper.upon_value]
  have hcll : cur.toList.length = c * size := by rw [Array.length_toList]; exact hsz
  have hW' := hW.rewr (k' := k) hi' hh hmax (cur.toList.take (lo * size) ++ (Builtin.zeroCells z.cells (hi - lo)).toList ++ cur.toList.drop (lo * size + (Builtin.zeroCells z.cells (hi - lo)).toList.length)) (by simp only [List.length_append, List.length_take, List.length_drop, hcll, hvl]; omega) hc
  have ht : (cur.toList.take (lo * size) ++ (Builtin.zeroCells z.cells (hi - lo)).toList ++ cur.toList.drop (lo * size + (Builtin.zeroCells z.cells (hi - lo)).toList.length)).take (k * size) = xs := by
   rw [List.append_assoc, List.take_append_of_le_length (by rw [List.length_take, hcll]; omega), List.take_take, Nat.min_eq_left hkl, htake]
  rw [ht] at hW'
  have hset : H.set i (.own (.slice (some ⟨b, 0, none⟩) k c) E size k xs) = H := by
   obtain ⟨hil, he⟩ := List.getElem?_eq_some_iff.1 hi'
   rw [← he, List.set_getElem_self]
  rw [hset] at hW'
  exact hk _ _ (hA.skip none (fun d hd => by cases hd) _) hW'
/-- copy, at whatever size of elements -/
theorem run_copyK {T E ty : TypeId} {inf : TypeInfo} {size : Nat} (hu : P.underlying T = some (.slice E)) (h1 : P.info? E = some inf) (h2 : inf.size = size) {a a' : Addr} {k1 c1 k2 c2 k : Nat} {W W' : World} {cs : List Value}
  (hmin : Nat.min k2 k1 = k) (hload : (loadCells a' (k * size)).run P W = .ok cs.toArray W) (hst : k ≠ 0 → (storeCells a cs 0).run P W = .ok () W') (h0 : k = 0 → cs = [] ∧ W' = W) :
  (Builtin.copy_ #[T, T] ty #[.slice (some a) k1 c1, .slice (some a') k2 c2]).run P W = .ok (goInt k) W' := by
 have hst' : (storeCells a cs 0).run P W = .ok () W' := by
  by_cases hk : k = 0
  ·obtain ⟨rfl, rfl⟩ := h0 hk; rfl
  ·exact hst hk
 simp [Builtin.copy_, run_underlying hu, Builtin.lenOf, Builtin.firstCells, sizeOf, typeInfo, h1, h2, hmin, hload, hst']
/-- the elements are moved up by mm within their row, which has room -/
theorem OpOk.copyUp {K : Act → World → Prop} {d : Nat} {T E ty : TypeId} {s x : Operand} {pos : String} {after : Array Edge} {gd : Option (Nat × Bool)} {e : Ty} {a : Option Addr} {l : List e.den} {c p q r1 r2 : Nat} {xs : List Value} (mm : Nat)
  (i : Nat) (hs : val m s = some (vw a e.size c q r1)) (hx : val m x = some (vw a e.size c p r2)) (hi : H[i]? = some (.own (.slice a l.length c) E e.size l.length xs)) (hR : RepL g e xs l) (hu : P.underlying T = some (.slice E))
  (hinf : (P.info? E).map (·.size) = some e.size) (hq : q = p + mm) (hr1 : r1 = l.length + mm) (hr2 : r2 = l.length + mm) (hql : p + mm ≤ l.length) (hroom : l.length + mm ≤ c) (hn : Nat.ble (d + 1) n = true)
  (hk : ∀ xs2, RepL g e xs2 (l.take (p + mm) ++ l.drop p) → Ok n w0 ((d, .int .i64 ((l.length - p : Nat) : Int)) :: m) (H.set i (.own (.slice a (l.take (p + mm) ++ l.drop p).length c) E e.size (l.take (p + mm) ++ l.drop p).length xs2)) g K) :
  OpOk P K Q ⟨some d, .call { callee := .builtin .copy, args := #[s, x], argTypes := #[T, T] }, ty, pos, after, gd⟩ n w0 m H g := fun ac W hA hW => by
 subst hq hr1 hr2
 obtain ⟨inf, h1, h2⟩ := Option.map_eq_some_iff.1 hinf
 have hok : W.ownsRow 0 E e.size (.slice a l.length c) l.length xs := hW.ents _ (List.mem_of_getElem? hi)
 have hlen : (l.take (p + mm) ++ l.drop p).length = l.length + mm := by simp; omega
 show Oper.upon P _ ac _ Q (Sem.run P (execOp ac.eval _) W)
 rcases own_open hok with ⟨rfl, h3, h4⟩ | ⟨b, cur, rfl, hh, hc, hmax, hsz, htake⟩
 ·have hl : l = [] := List.eq_nil_of_length_eq_zero h3
  subst hl
  have : p = 0 ∧ mm = 0 := by simp at hql; omega
  obtain ⟨rfl, rfl⟩ := this
  subst h4
  have e1 : (execOp ac.eval ⟨some d, .call { callee := .builtin .copy, args := #[s, x], argTypes := #[T, T] }, ty, pos, after, gd⟩).run P W = .ok (.value (.int .i64 0)) W := by
   simp only [execOp, resolve, invoke, builtin, List.map_toArray, List.map_cons, List.map_nil, hA.eval hs, hA.eval hx, vw, vwA]
   simp [Builtin.copy_, run_underlying hu, sizeOf, typeInfo, h1, Builtin.lenOf, Builtin.firstCells, Sem.run_bind, Result.andThen, goInt, go_sem]
  rw [e1, Oper.upon_value]
  have hk := hk xs hR
  have hset : H.set i (.own (.slice none ([] : List e.den).length 0) E e.size ([] : List e.den).length xs) = H := by
   obtain ⟨hil, he⟩ := List.getElem?_eq_some_iff.1 hi
   rw [← he, List.set_getElem_self]
  have hk : Ok n w0 ((d, .int .i64 0) :: m) (H.set i (.own (.slice none ([] : List e.den).length 0) E e.size ([] : List e.den).length xs)) g K := hk
  rw [hset] at hk
  exact hk _ W (hA.put (Nat.le_of_ble_eq_true hn) _) hW
 ·obtain ⟨o, ho, ho2⟩ := vwA_some (b := b) (size := e.size) (lo := p) (c := c)
  obtain ⟨o', ho', ho2'⟩ := vwA_some (b := b) (size := e.size) (lo := p + mm) (c := c)
  have hload := row_load (P := P) (k := l.length - p) hh hsz (by omega) ho2
  rw [show p + (l.length - p) = l.length by omega, htake] at hload
  have hxl : xs.length = l.length * e.size := hR.len
  have hvl : (xs.drop (p * e.size)).length = (l.length - p) * e.size := by rw [List.length_drop, hxl, Nat.sub_mul]
  have hm1 : (p + mm) * e.size + (l.length - p) * e.size = (l.length + mm) * e.size := by rw [← Nat.add_mul]; congr 1; omega
  have hm2 : (l.length + mm) * e.size ≤ c * e.size := Nat.mul_le_mul_right _ hroom
  have hcl : cur.toList.length = c * e.size := by rw [Array.length_toList]; exact hsz
  have hmin : Nat.min (l.length + mm - p) (l.length + mm - (p + mm)) = l.length - p := by simp only [Nat.min_def]; split <;> omega
  have hcp : (Builtin.copy_ #[T, T] ty #[.slice (some ⟨b, o', none⟩) (l.length + mm - (p + mm)) (c - (p + mm)), .slice (some ⟨b, o, none⟩) (l.length + mm - p) (c - p)]).run P W = .ok (goInt (l.length - p : Nat)) (W.setRow b (cur.toList.take ((p + mm) * e.size) ++ xs.drop (p * e.size) ++ cur.toList.drop ((p + mm) * e.size + (xs.drop (p * e.size)).length)).toArray) := by
   refine run_copyK hu h1 h2 hmin hload (fun hne => ?_) fun h0 => ?_
   ·have := ho2' (by omega)
    subst this
    have hrun := run_storeCells_at (P := P) b ((p + mm) * e.size) E (xs.drop (p * e.size)) 0 cur W hh (by rw [hvl, hsz]; omega) (fun u hu => hR.ones u (List.mem_of_mem_drop hu))
    simpa using hrun
   have hd : xs.drop (p * e.size) = [] := List.eq_nil_of_length_eq_zero (by rw [hvl, h0, Nat.zero_mul])
   exact ⟨hd, by rw [hd, List.append_nil, List.length_nil, Nat.add_zero, List.take_append_drop, Array.toArray_toList, setRow_self W b cur E _ hh]⟩
  have e1 : (execOp ac.eval ⟨some d, .call { callee := .builtin .copy, args := #[s, x], argTypes := #[T, T] }, ty, pos, after, gd⟩).run P W = .ok (.value (.int .i64 ((l.length - p : Nat) : Int))) (W.setRow b (cur.toList.take ((p + mm) * e.size) ++ xs.drop (p * e.size) ++ cur.toList.drop ((p + mm) * e.size + (xs.drop (p * e.size)).length)).toArray) := by
   simp only [execOp, resolve, invoke, builtin, List.map_toArray, List.map_cons, List.map_nil, hA.eval hs, hA.eval hx, vw, ho, ho', Sem.run_bind, Sem.run_pure, Result.andThen_ok, hcp]; rfl
  rw [e1, Oper.upon_value]
  rw [hlen] at hk
  refine hk _ ?_ _ _ (hA.put (Nat.le_of_ble_eq_true hn) _) (hW.rewr (k' := l.length + mm) hi hh hmax _ (by simp only [List.length_append, List.length_take, List.length_drop, hcl, hxl] at hvl ⊢; omega) hroom)
  rw [mid_end _ _ _ _ (by rw [hvl]; omega) (by rw [hcl]; omega)]
  have hp : cur.toList.take ((p + mm) * e.size) = xs.take ((p + mm) * e.size) := by rw [← htake, List.take_take, Nat.min_eq_left (Nat.mul_le_mul_right _ hql)]
  rw [hp]
  exact RepL.app (RepL.take _ hR) (RepL.drop p hR)
/-- copy of nothing -/
theorem run_copy0 {W : World} {T E ty : TypeId} {inf : TypeInfo} (hu : P.underlying T = some (.slice E)) (h1 : P.info? E = some inf) {a a' : Option Addr} {k1 c1 k2 c2 : Nat} (hmin : Nat.min k2 k1 = 0) :
  (Builtin.copy_ #[T, T] ty #[.slice a k1 c1, .slice a' k2 c2]).run P W = .ok (goInt (0 : Nat)) W := by
 have hl : ∀ (x : Addr), (loadCells x 0).run P W = .ok #[] W := fun x => by simpa using run_loadCells_list (P := P) W x [] (by simp)
 cases a <;> cases a' <;> simp [Builtin.copy_, run_underlying hu, Builtin.lenOf, Builtin.firstCells, sizeOf, typeInfo, h1, hmin, storeCells, hl]
/-- copy out of another slice of the call's own -/
theorem OpOk.copyIn {K : Act → World → Prop} {d : Nat} {T E ty : TypeId} {s x : Operand} {pos : String} {after : Array Edge} {gd : Option (Nat × Bool)} {e : Ty} {a a2 : Option Addr} {l l2 ys : List e.den} {c c2 p r1 q r2 : Nat} {xs xs2 : List Value} {v : Value}
  (i j : Nat) (hs : val m s = some (vw a e.size c p r1)) (hx : val m x = some v) (hv : q = 0 ∧ v = .slice a2 l2.length c2 ∨ v = vw a2 e.size c2 q r2 ∧ r2 = l2.length)
  (hi : H[i]? = some (.own (.slice a l.length c) E e.size l.length xs)) (hj : H[j]? = some (.own (.slice a2 l2.length c2) E e.size l2.length xs2)) (hR : RepL g e xs l) (hR2 : RepL g e xs2 l2) (hu : P.underlying T = some (.slice E))
  (hinf : (P.info? E).map (·.size) = some e.size) (hr1 : r1 = l.length) (hq : q ≤ l2.length) (hys : l2.drop q = ys) (hfit : p + ys.length ≤ l.length) (hn : Nat.ble (d + 1) n = true)
  (hk : ∀ xs3, RepL g e xs3 (l.take p ++ ys ++ l.drop (p + ys.length)) → Ok n w0 ((d, .int .i64 (ys.length : Int)) :: m) (H.set i (.own (.slice a (l.take p ++ ys ++ l.drop (p + ys.length)).length c) E e.size (l.take p ++ ys ++ l.drop (p + ys.length)).length xs3)) g K) :
  OpOk P K Q ⟨some d, .call { callee := .builtin .copy, args := #[s, x], argTypes := #[T, T] }, ty, pos, after, gd⟩ n w0 m H g := fun ac W hA hW => by
 subst hr1
 obtain ⟨inf, h1, h2⟩ := Option.map_eq_some_iff.1 hinf
 have hok : W.ownsRow 0 E e.size (.slice a l.length c) l.length xs := hW.ents _ (List.mem_of_getElem? hi)
 have hok2 : W.ownsRow 0 E e.size (.slice a2 l2.length c2) l2.length xs2 := hW.ents _ (List.mem_of_getElem? hj)
 have hyl : ys.length = l2.length - q := by rw [← hys, List.length_drop]
 have hlen : (l.take p ++ ys ++ l.drop (p + ys.length)).length = l.length := by simp; omega
 obtain ⟨sa, sk, sc, hv1, hsk, hsa⟩ : ∃ sa sk sc, v = .slice sa sk sc ∧ sk = l2.length - q ∧ (∀ b, a2 = some ⟨b, 0, none⟩ → ∃ o, sa = some ⟨b, o, none⟩ ∧ (q < c2 → o = q * e.size)) := by
  rcases hv with ⟨rfl, rfl⟩ | ⟨rfl, rfl⟩
  ·exact ⟨_, _, _, rfl, by omega, fun b hb => ⟨0, hb, fun _ => by omega⟩⟩
  ·refine ⟨_, _, _, rfl, rfl, fun b hb => ?_⟩
   subst hb
   exact vwA_some
 subst hv1
 show Oper.upon P _ ac _ Q (Sem.run P (execOp ac.eval _) W)
 have hmin : Nat.min sk (l.length - p) = ys.length := by simp only [Nat.min_def]; split <;> omega
 by_cases h0 : ys.length = 0
 ·have hy0 : ys = [] := List.eq_nil_of_length_eq_zero h0
  subst hy0
  have e1 : (execOp ac.eval ⟨some d, .call { callee := .builtin .copy, args := #[s, x], argTypes := #[T, T] }, ty, pos, after, gd⟩).run P W = .ok (.value (.int .i64 0)) W := by
   have := run_copy0 (P := P) (W := W) (ty := ty) hu h1 (a := vwA a e.size p c) (a' := sa) (c1 := c - p) (c2 := sc) hmin
   simp only [execOp, resolve, invoke, builtin, List.map_toArray, List.map_cons, List.map_nil, hA.eval hs, hA.eval hx, vw, Sem.run_bind, Sem.run_pure, Result.andThen_ok, this]; rfl
  rw [e1, Oper.upon_value]
  have hk := hk xs (by rw [List.append_nil, List.length_nil, Nat.add_zero, List.take_append_drop]; exact hR)
  rw [hlen] at hk
  have hset : H.set i (.own (.slice a l.length c) E e.size l.length xs) = H := by
   obtain ⟨hil, he⟩ := List.getElem?_eq_some_iff.1 hi
   rw [← he, List.set_getElem_self]
  rw [hset] at hk
  exact hk _ W (hA.put (Nat.le_of_ble_eq_true hn) _) hW
 ·rcases own_open hok with ⟨rfl, h3, h4⟩ | ⟨b, cur, rfl, hh, hc, hmax, hsz, htake⟩
  ·omega
  rcases own_open hok2 with ⟨rfl, h3, h4⟩ | ⟨b2, cur2, rfl, hh2, hc2, hmax2, hsz2, htake2⟩
  ·omega
  obtain ⟨o2, rfl, ho2⟩ := hsa b2 rfl
  obtain ⟨o, ho, ho1⟩ := vwA_some (b := b) (size := e.size) (lo := p) (c := c)
  have := ho1 (by omega)
  subst this
  have hload := row_load (P := P) (k := l2.length - q) hh2 hsz2 (by omega) ho2
  rw [show q + (l2.length - q) = l2.length by omega, htake2] at hload
  have hRy : RepL g e (xs2.drop (q * e.size)) ys := by rw [← hys]; exact RepL.drop q hR2
  have hvl : (xs2.drop (q * e.size)).length = ys.length * e.size := hRy.len
  have hxl : xs.length = l.length * e.size := hR.len
  have hm1 : p * e.size + ys.length * e.size = (p + ys.length) * e.size := (Nat.add_mul ..).symm
  have hm2 : (p + ys.length) * e.size ≤ l.length * e.size := Nat.mul_le_mul_right _ hfit
  have hm3 : l.length * e.size ≤ c * e.size := Nat.mul_le_mul_right _ hc
  have hcl : cur.toList.length = c * e.size := by rw [Array.length_toList]; exact hsz
  have hrun := run_storeCells_at (P := P) b (p * e.size) E (xs2.drop (q * e.size)) 0 cur W hh (by rw [hvl, hsz]; omega) (fun u hu => hRy.ones u hu)
  simp only [Nat.add_zero] at hrun
  have hcp := run_copyK (P := P) (ty := ty) hu h1 h2 (a := ⟨b, p * e.size, none⟩) (a' := ⟨b2, o2, none⟩) (c1 := c - p) (c2 := sc) (W := W) hmin (by rw [hyl]; exact hload) (fun _ => hrun) (fun h => absurd h h0)
  have e1 : (execOp ac.eval ⟨some d, .call { callee := .builtin .copy, args := #[s, x], argTypes := #[T, T] }, ty, pos, after, gd⟩).run P W = .ok (.value (.int .i64 (ys.length : Int))) (W.setRow b (cur.toList.take (p * e.size) ++ xs2.drop (q * e.size) ++ cur.toList.drop (p * e.size + (xs2.drop (q * e.size)).length)).toArray) := by
   simp only [execOp, resolve, invoke, builtin, List.map_toArray, List.map_cons, List.map_nil, hA.eval hs, hA.eval hx, vw, ho, Sem.run_bind, Sem.run_pure, Result.andThen_ok, hcp]; rfl
  rw [e1, Oper.upon_value]
  rw [hlen] at hk
  refine hk _ ?_ _ _ (hA.put (Nat.le_of_ble_eq_true hn) _) (hW.rewr (k' := l.length) hi hh hmax _ (by simp only [List.length_append, List.length_take, hcl, hvl]; rw [List.length_drop, hcl]; omega) hc)
  rw [mid_take _ _ _ _ (by rw [hvl]; omega) (by rw [hcl]; exact hm3), htake, hvl, hm1]
  exact RepL.app (RepL.app (RepL.take _ hR) hRy) (RepL.drop _ hR)
/-- append of zero elements, which do not fit -/
theorem OpOk.growZ {K : Act → World → Prop} {d : Nat} {T Tn E ty : TypeId} {s x : Operand} {pos : String} {after : Array Edge} {gd : Option (Nat × Bool)} {e : Ty} {a : Option Addr} {l : List e.den} {c p k : Nat} {xs : List Value} {y : e.den} {z : Value} {kq kn : IntKind} {kk : Int} (bytes cap : Nat)
  (i : Nat) (hs : val m s = some (.slice a p c)) (hx : val m x = some (.int kq kk)) (hi : H[i]? = some (.own (.slice a l.length c) E e.size l.length xs)) (hR : RepL g e xs l) (hu : P.underlying T = some (.slice E)) (hun : P.underlying Tn = some (.int kn))
  (hinf : (P.info? E).map (fun i => (i.size, i.bytes, i.zero.map (·.cells.toList))) = some (e.size, bytes, some z.cells.toList)) (h0 : Nat.ble 1 e.size = true) (hcap : (Nat.ble cap maxLen && Nat.ble (cap * bytes) 140737488355328) = true) (hRz : Rep g e z.cells.toList y)
  (hkk : kk = (k : Int)) (hk0 : 0 < k) (hp : p ≤ l.length) (hroom : c < p + k) (hlen : p + k ≤ cap) (hn : Nat.ble (d + 1) n = true)
  (hk : ∀ a2 c2 xs2, RepL g e xs2 (l.take p ++ List.replicate k y) → Ok n w0 ((d, .slice a2 (l.take p ++ List.replicate k y).length c2) :: m) (.own (.slice a2 (l.take p ++ List.replicate k y).length c2) E e.size (l.take p ++ List.replicate k y).length xs2 :: H) g K) :
  OpOk P K Q ⟨some d, .call { callee := .builtin .append, args := #[s, x], argTypes := #[T, Tn] }, ty, pos, after, gd⟩ n w0 m H g := fun ac W hA hW => by
 subst hkk
 rw [Bool.and_eq_true] at hcap
 obtain ⟨inf, h1, h2⟩ := Option.map_eq_some_iff.1 hinf
 simp only [Prod.mk.injEq] at h2
 obtain ⟨h3, h4, h5⟩ := h2
 obtain ⟨z', h6, h7⟩ := Option.map_eq_some_iff.1 h5
 have h0 := Nat.le_of_ble_eq_true h0
 have hbig : (p + k) * inf.bytes ≤ 140737488355328 := by rw [h4]; exact Nat.le_trans (Nat.mul_le_mul_right _ hlen) (Nat.le_of_ble_eq_true hcap.2)
 have hml : p + k ≤ maxLen := Nat.le_trans hlen (Nat.le_of_ble_eq_true hcap.1)
 have hml2 : p + k ≤ 9223372036854775807 := by have := hml; unfold maxLen at this; omega
 have hzs : z'.cells.size = e.size := by rw [← Array.length_toList, h7, hRz.size]
 have hok : W.ownsRow 0 E e.size (.slice a l.length c) l.length xs := hW.ents _ (List.mem_of_getElem? hi)
 have hold : (Builtin.firstCells inf.size p (.slice a p c)).run P W.drew = .ok (xs.take (p * e.size)).toArray W.drew := by
  rcases own_open hok with ⟨rfl, h8, h9⟩ | ⟨b, cur, rfl, hh, hc, hmax, hsz, htake⟩
  ·have : p = 0 := by omega
   subst this
   simp [Builtin.firstCells]
  ·have hh' : W.drew.heap[b]? = some (.cells cur E) := hh
   have hload := row_load (P := P) (lo := 0) (k := p) (o := 0) hh' hsz (by omega) (fun _ => by omega)
   rw [Nat.zero_add, Nat.zero_mul, List.drop_zero] at hload
   have hp' : cur.toList.take (p * e.size) = xs.take (p * e.size) := by rw [← htake, List.take_take, Nat.min_eq_left (Nat.mul_le_mul_right _ hp)]
   rw [hp'] at hload
   simp only [Builtin.firstCells, h3]
   exact hload
 have hrun := Lib.run_append_grow_zeros (P := P) W T Tn ty E inf z' kq kn hu hun h1 h6 a p c (xs.take (p * e.size)) hold k hk0 (by omega) hroom (by omega) (by
  have : k * inf.bytes ≤ (p + k) * inf.bytes := Nat.mul_le_mul_right _ (by omega)
  omega) (growslice_fits hroom hbig)
 show Oper.upon P _ ac _ Q (Sem.run P (execOp ac.eval _) W)
 have e1 : (execOp ac.eval ⟨some d, .call { callee := .builtin .append, args := #[s, x], argTypes := #[T, Tn] }, ty, pos, after, gd⟩).run P W = .ok (.value (.slice (some ⟨W.heap.size, 0, none⟩) (p + k) (grownCap W (p + k) c E))) (W.drew.alloc (.cells ((xs.take (p * e.size)).toArray ++ Builtin.zeroCells z'.cells k ++ Builtin.zeroCells z'.cells (grownCap W (p + k) c E - (p + k))) E)) := by
  simp only [execOp, resolve, invoke, builtin, List.map_toArray, List.map_cons, List.map_nil, hA.eval hs, hA.eval hx, Sem.run_bind, Sem.run_pure, Result.andThen_ok, hrun]
 rw [e1, Oper.upon_value]
 have hge := grownCap_ge W (p + k) c E
 have hle := grownCap_le_maxLen W (p + k) c E hml
 generalize grownCap W (p + k) c E = G at hge hle ⊢
 have hll : (l.take p ++ List.replicate k y).length = p + k := by simp; omega
 rw [hll] at hk
 have hRn : RepL g e (xs.take (p * e.size) ++ (Builtin.zeroCells z'.cells k).toList) (l.take p ++ List.replicate k y) := by
  rw [zeroCells_rep, h7]
  exact RepL.app (RepL.take p hR) (RepL.rep hRz k)
 have hln := hRn.len
 rw [hll] at hln
 have hz1 : (Builtin.zeroCells z'.cells k).toList.length = k * e.size := by rw [zeroCells_rep]; simp [hzs]
 have hz2 : (Builtin.zeroCells z'.cells (G - (p + k))).size = (G - (p + k)) * e.size := by rw [← Array.length_toList, zeroCells_rep]; simp [hzs]
 have hmul : (p + k) * e.size + (G - (p + k)) * e.size = G * e.size := by rw [← Nat.add_mul]; congr 1; omega
 refine hk _ _ _ hRn _ _ (hA.put (Nat.le_of_ble_eq_true hn) _) (hW.pushFr ?_ ?_)
 ·exact (Below.refl _ W).grown (row := none) ⟨rfl, rfl, rfl, by simp, fun q hq _ => heap_alloc_old W.drew _ hq⟩ (Nat.le_refl _) (fun j hj => by cases hj)
 ·refine ⟨hln, .inr ⟨W.heap.size, G, _, rfl, Nat.le_refl _, heap_alloc_new W.drew _, hge, hle, ?_, ?_⟩⟩
  ·rw [Array.size_append, hz2, ← Array.length_toList, Array.toList_append, List.length_append, hz1]
   rw [List.length_append, hz1] at hln
   show (xs.take (p * e.size)).length + _ + _ = _
   omega
  ·rw [Array.toList_append, Array.toList_append, List.append_assoc, ← List.append_assoc]
   show ((xs.take (p * e.size) ++ (Builtin.zeroCells z'.cells k).toList) ++ _).take _ = _
   rw [← hln, List.take_left']; rfl
theorem Yields.capOf {dst : Option Nat} {T E ty : TypeId} {x : Operand} {pos : String} {after : Array Edge} {gd : Option (Nat × Bool)} {a : Option Addr} {k c : Nat} (hx : val m x = some (.slice a k c)) (hu : P.underlying T = some (.slice E)) :
  Yields P n w0 m H g ⟨dst, .call { callee := .builtin .cap, args := #[x], argTypes := #[T] }, ty, pos, after, gd⟩ (.int .i64 (c : Int)) := fun ac W hA hW => by
 have hc : (Builtin.cap_ #[T] ty #[.slice a k c]).run P W = .ok (goInt c) W := by simp [Builtin.cap_, run_underlying hu]
 simp only [execOp, resolve, invoke, builtin, List.map_toArray, List.map_cons, List.map_nil, hA.eval hx, Sem.run_bind, Sem.run_pure, Result.andThen_ok, hc]; rfl
/-- two slices of the call's own do not overlap -/
theorem Yields.apart {dst : Option Nat} {T B E ty : TypeId} {x y : Operand} {pos : String} {after : Array Edge} {gd : Option (Nat × Bool)} {a a2 : Option Addr} {k k2 c c2 size lo hi : Nat} {f : FuncId} {fn : Func} {xs xs2 : List Value}
  (i j : Nat) (hij : Nat.beq i j = false) (hi' : H[i]? = some (.own (.slice a k c) E size k xs)) (hj : H[j]? = some (.own (.slice a2 k2 c2) E size k2 xs2)) (hx : val m x = some (.slice a k c)) (hy : val m y = some (vw a2 size c2 lo hi)) (hk : 0 < k) (hk2 : 0 < k2)
  (hu : P.underlying T = some (.slice E)) (hs : (P.info? E).map (·.size) = some size) (h1 : Nat.ble 1 size = true) (hf : P.funcs[f]? = some fn) (hname : (fn.name == "runtime.NumGoroutine") = false) (hb : fn.body.isNone = true) (hne : Extern.findNext fn = none) (he : Extern.find fn = some (Extern.SlicesOverlaps.overlaps #[T, T] #[B])) :
  Yields P n w0 m H g ⟨dst, .call { callee := .value (.func f), args := #[x, y], argTypes := #[T, T] }, ty, pos, after, gd⟩ (.bool false) := fun ac W hA hW => by
 obtain ⟨inf, h3, h4⟩ := Option.map_eq_some_iff.1 hs
 have h1 := Nat.le_of_ble_eq_true h1
 have hok : W.ownsRow 0 E size (.slice a k c) k xs := hW.ents _ (List.mem_of_getElem? hi')
 have hok2 : W.ownsRow 0 E size (.slice a2 k2 c2) k2 xs2 := hW.ents _ (List.mem_of_getElem? hj)
 rcases own_open hok with ⟨rfl, h8, h9⟩ | ⟨b, cur, rfl, hh, hc, hmax, hsz, htake⟩
 ·omega
 rcases own_open hok2 with ⟨rfl, h8, h9⟩ | ⟨b2, cur2, rfl, hh2, hc2, hmax2, hsz2, htake2⟩
 ·omega
 obtain ⟨o, ho, ho1⟩ := vwA_some (b := b2) (size := size) (lo := lo) (c := c2)
 have hbb : b ≠ b2 := fun e => by
  subst e
  have hne : i ≠ j := fun h => by rw [h, Nat.beq_refl] at hij; cases hij
  exact nodup_filterMap_clash hW.nodup hi' hj (fun h => hne h) rfl rfl
 have hcs : cur.size ≠ 0 := by rw [hsz]; exact Nat.pos_iff_ne_zero.1 (Nat.mul_pos (by omega) (by omega))
 have hcs2 : cur2.size ≠ 0 := by rw [hsz2]; exact Nat.pos_iff_ne_zero.1 (Nat.mul_pos (by omega) (by omega))
 have hov := Lib.run_overlaps_apart (P := P) W T B E hu size (fun w => by simp [sizeOf, typeInfo, h3, h4]) ⟨b, 0, none⟩ ⟨b2, o, none⟩ k c (hi - lo) (c2 - lo) hbb E E cur.size cur2.size (by simp [World.shape?, hh]) (by simp [World.shape?, hh2]) hcs2 (by simp [World.frozen?, hh]) (by simp [World.frozen?, hh])
 have hcall : (callFunc f #[.slice (some ⟨b, 0, none⟩) k c, .slice (some ⟨b2, o, none⟩) (hi - lo) (c2 - lo)]).run P W = .ok (.value (.bool false)) W := by
  rw [run_callFunc_extern hf hname hb hne he, hov]; rfl
 have hx' : ac.eval x = .slice (some ⟨b, 0, none⟩) k c := hA.eval hx
 have hy' : ac.eval y = .slice (some ⟨b2, o, none⟩) (hi - lo) (c2 - lo) := by rw [hA.eval hy, vw, ho]
 have hF : ac.eval (.func f) = .func (.func f) #[] #[] := rfl
 simp only [execOp, resolve, List.map_toArray, List.map_cons, List.map_nil, hx', hy', hF]
 simp [Deferred.ofValue, invoke, hcall]
theorem slice0_run {dst : Option Nat} {T E ty : TypeId} {x o : Operand} {pos : String} {after : Array Edge} {gd : Option (Nat × Bool)} {a : Option Addr} {k c : Nat} {q : IntKind} {h : Int}
  (hx : val m x = some (.slice a k c)) (hu : P.underlying T = some (.slice E)) (hs : (P.info? E).isSome = true) (ho : val m o = some (.int q h)) (h0 : 0 ≤ h) (h2 : h ≤ (c : Int)) : Yields P n w0 m H g ⟨dst, .slice T x none (some o) none, ty, pos, after, gd⟩ (.slice a h.toNat c) := fun ac W hA hW => by
 cases hinf : P.info? E with
 | none => simp [hinf] at hs
 | some inf =>
  simp only [execOp, hA.eval hx, hA.eval ho, Option.map_some, Option.map_none]
  simp [Instr.sliceAt, underlying, hu, Instr.slice, Instr.sliceBounds, Instr.sliceBound, asIntOf, h0, h2, sizeOf, typeInfo, hinf, go_sem]
theorem OpOk.copyUp' {K : Act → World → Prop} {d : Nat} {T E ty : TypeId} {s x : Operand} {pos : String} {after : Array Edge} {gd : Option (Nat × Bool)} {e : Ty} {a : Option Addr} {l : List e.den} {c p q r1 r2 : Nat} {xs : List Value}
  (i : Nat) (hs : val m s = some (vw a e.size c q r1)) (hx : val m x = some (vw a e.size c p r2)) (hi : H[i]? = some (.own (.slice a l.length c) E e.size l.length xs)) (hR : RepL g e xs l) (hu : P.underlying T = some (.slice E))
  (hinf : (P.info? E).map (·.size) = some e.size) (hpq : p ≤ q) (hql : q ≤ l.length) (hr1 : r1 = l.length + (q - p)) (hr2 : r2 = l.length + (q - p)) (hroom : r1 ≤ c) (hn : Nat.ble (d + 1) n = true)
  (hk : ∀ xs2, RepL g e xs2 (l.take q ++ l.drop p) → Ok n w0 ((d, .int .i64 ((l.length - p : Nat) : Int)) :: m) (H.set i (.own (.slice a (l.take q ++ l.drop p).length c) E e.size (l.take q ++ l.drop p).length xs2)) g K) :
  OpOk P K Q ⟨some d, .call { callee := .builtin .copy, args := #[s, x], argTypes := #[T, T] }, ty, pos, after, gd⟩ n w0 m H g := by
 obtain ⟨k, rfl⟩ : ∃ k, q = p + k := ⟨q - p, by omega⟩
 rw [Nat.add_sub_cancel_left] at hr1 hr2
 exact OpOk.copyUp k i hs hx hi hR hu hinf rfl hr1 hr2 hql (by omega) hn hk
theorem OpOk.delAppL {K : Act → World → Prop} {d : Nat} {T E ty : TypeId} {s x : Operand} {pos : String} {after : Array Edge} {gd : Option (Nat × Bool)} {e : Ty} {a : Option Addr} {l L : List e.den} {c p q r : Nat} {xs : List Value}
  (i : Nat) (hs : val m s = some (.slice a p c)) (hx : val m x = some (vw a e.size c q r)) (hi : H[i]? = some (.own (.slice a l.length c) E e.size l.length xs)) (hR : RepL g e xs l) (hu : P.underlying T = some (.slice E))
  (hinf : (P.info? E).map (·.size) = some e.size) (hpq : p ≤ q) (hql : q ≤ l.length) (hr : r = l.length) (hL : L = l.take p ++ l.drop q) (hn : Nat.ble (d + 1) n = true)
  (hk : ∀ xs2, RepL g e xs2 L → Ok n w0 ((d, .slice a L.length c) :: m) (H.set i (.own (.slice a L.length c) E e.size L.length xs2)) g K) :
  OpOk P K Q ⟨some d, .call { callee := .builtin .append, args := #[s, x], argTypes := #[T, T] }, ty, pos, after, gd⟩ n w0 m H g := by
 subst hL; exact OpOk.delApp i hs hx hi hR hu hinf hpq hql hr hn hk
theorem OpOk.copyUpL {K : Act → World → Prop} {d : Nat} {T E ty : TypeId} {s x : Operand} {pos : String} {after : Array Edge} {gd : Option (Nat × Bool)} {e : Ty} {a : Option Addr} {l L : List e.den} {c p q r1 r2 : Nat} {xs : List Value}
  (i : Nat) (hs : val m s = some (vw a e.size c q r1)) (hx : val m x = some (vw a e.size c p r2)) (hi : H[i]? = some (.own (.slice a l.length c) E e.size l.length xs)) (hR : RepL g e xs l) (hu : P.underlying T = some (.slice E))
  (hinf : (P.info? E).map (·.size) = some e.size) (hpq : p ≤ q) (hql : q ≤ l.length) (hr1 : r1 = l.length + (q - p)) (hr2 : r2 = l.length + (q - p)) (hroom : r1 ≤ c) (hL : L = l.take q ++ l.drop p) (hn : Nat.ble (d + 1) n = true)
  (hk : ∀ xs2, RepL g e xs2 L → Ok n w0 ((d, .int .i64 ((l.length - p : Nat) : Int)) :: m) (H.set i (.own (.slice a L.length c) E e.size L.length xs2)) g K) :
  OpOk P K Q ⟨some d, .call { callee := .builtin .copy, args := #[s, x], argTypes := #[T, T] }, ty, pos, after, gd⟩ n w0 m H g := by
 subst hL; exact OpOk.copyUp' i hs hx hi hR hu hinf hpq hql hr1 hr2 hroom hn hk
theorem OpOk.copyInL {K : Act → World → Prop} {d : Nat} {T E ty : TypeId} {s x : Operand} {pos : String} {after : Array Edge} {gd : Option (Nat × Bool)} {e : Ty} {a a2 : Option Addr} {l l2 ys L : List e.den} {c c2 p r1 q r2 : Nat} {xs xs2 : List Value} {v : Value}
  (i j : Nat) (hs : val m s = some (vw a e.size c p r1)) (hx : val m x = some v) (hv : q = 0 ∧ v = .slice a2 l2.length c2 ∨ v = vw a2 e.size c2 q r2 ∧ r2 = l2.length)
  (hi : H[i]? = some (.own (.slice a l.length c) E e.size l.length xs)) (hj : H[j]? = some (.own (.slice a2 l2.length c2) E e.size l2.length xs2)) (hR : RepL g e xs l) (hR2 : RepL g e xs2 l2) (hu : P.underlying T = some (.slice E))
  (hinf : (P.info? E).map (·.size) = some e.size) (hr1 : r1 = l.length) (hq : q ≤ l2.length) (hys : l2.drop q = ys) (hfit : p + ys.length ≤ l.length) (hL : L = l.take p ++ ys ++ l.drop (p + ys.length)) (hn : Nat.ble (d + 1) n = true)
  (hk : ∀ xs3, RepL g e xs3 L → Ok n w0 ((d, .int .i64 (ys.length : Int)) :: m) (H.set i (.own (.slice a L.length c) E e.size L.length xs3)) g K) :
  OpOk P K Q ⟨some d, .call { callee := .builtin .copy, args := #[s, x], argTypes := #[T, T] }, ty, pos, after, gd⟩ n w0 m H g := by
 subst hL; exact OpOk.copyIn i j hs hx hv hi hj hR hR2 hu hinf hr1 hq hys hfit hn hk
theorem OpOk.growZL {K : Act → World → Prop} {d : Nat} {T Tn E ty : TypeId} {s x : Operand} {pos : String} {after : Array Edge} {gd : Option (Nat × Bool)} {e : Ty} {a : Option Addr} {l L : List e.den} {c p k : Nat} {xs : List Value} {y : e.den} {z : Value} {kq kn : IntKind} {kk : Int} (bytes cap : Nat)
  (i : Nat) (hs : val m s = some (.slice a p c)) (hx : val m x = some (.int kq kk)) (hi : H[i]? = some (.own (.slice a l.length c) E e.size l.length xs)) (hR : RepL g e xs l) (hu : P.underlying T = some (.slice E)) (hun : P.underlying Tn = some (.int kn))
  (hinf : (P.info? E).map (fun i => (i.size, i.bytes, i.zero.map (·.cells.toList))) = some (e.size, bytes, some z.cells.toList)) (h0 : Nat.ble 1 e.size = true) (hcap : (Nat.ble cap maxLen && Nat.ble (cap * bytes) 140737488355328) = true) (hRz : Rep g e z.cells.toList y)
  (hkk : kk = (k : Int)) (hk0 : 0 < k) (hp : p ≤ l.length) (hroom : c < p + k) (hlen : p + k ≤ cap) (hL : L = l.take p ++ List.replicate k y) (hn : Nat.ble (d + 1) n = true)
  (hk : ∀ a2 c2 xs2, RepL g e xs2 L → Ok n w0 ((d, .slice a2 L.length c2) :: m) (.own (.slice a2 L.length c2) E e.size L.length xs2 :: H) g K) :
  OpOk P K Q ⟨some d, .call { callee := .builtin .append, args := #[s, x], argTypes := #[T, Tn] }, ty, pos, after, gd⟩ n w0 m H g := by
 subst hL; exact OpOk.growZ bytes cap i hs hx hi hR hu hun hinf h0 hcap hRz hkk hk0 hp hroom hlen hn hk
/-- one of two slices -/
theorem pick2 {e : Ty} {a1 a2 : Option Addr} {c1 c2 : Nat} {x1 x2 : List e.den} (h1 : Rep g (.slice e) [.slice a1 x1.length c1] x1) (h2 : Rep g (.slice e) [.slice a2 x2.length c2] x2) (i : Int) (h0 : 0 ≤ i) (hi : i < 2) :
  ∃ a c, (#[.slice a1 x1.length c1, .slice a2 x2.length c2] : Array Value)[i.toNat]? = some (.slice a (([x1, x2] : List (List e.den)).getD i.toNat []).length c) ∧ Rep g (.slice e) [.slice a (([x1, x2] : List (List e.den)).getD i.toNat []).length c] (([x1, x2] : List (List e.den)).getD i.toNat []) := by
 rcases (show i = 0 ∨ i = 1 by omega) with rfl | rfl
 ·exact ⟨a1, c1, rfl, h1⟩
 ·exact ⟨a2, c2, rfl, h2⟩
theorem OpOk.cutR {o : Oper} {K : Act → World → Prop} (I : Act → World → Prop) (h : OpOk P I noExit o n w0 m H g) (h2 : ∀ R, R = K → ∀ a W, I a W → R a W) : OpOk P K Q o n w0 m H g := OpOk.cut I h (h2 K rfl)
/-- an entry, said in another way -/
theorem Ok.entEq (i : Nat) {e e' : Ent} (hi : H[i]? = some e) (h : e = e') (k : Ok n w0 m (H.set i e') g R) : Ok n w0 m H g R := by
 subst h
 obtain ⟨hil, he⟩ := List.getElem?_eq_some_iff.1 hi
 rwa [← he, List.set_getElem_self] at k
end
end Go.Eng
