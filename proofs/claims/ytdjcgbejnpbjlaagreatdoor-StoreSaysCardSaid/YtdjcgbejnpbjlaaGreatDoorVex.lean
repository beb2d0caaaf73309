/-
 Parts of a slice of the call's own: what slices.Delete and slices.Insert do with them. No program in sight.
-/
import Derived.Test.YtdjcgbejnpbjlaaGreatDoorVew
import Derived.Lib.AppendZerosOnto
import Derived.Lib.Overlaps
import Derived.Laws.Externs
namespace Go.Eng
open Go.RowKit (Below)
section
variable {P : Program} {n : Fsz} {w0 : Base} {m : Env} {H : List Ent} {g : Ghost} {R : Act → World → Prop} {Q : Exit → Act → World → Prop} {ops : Array Oper}
/-- the cells of a row from the element lo on -/
theorem row_load {W : World} {b : Nat} {cur : Array Value} {E : TypeId} {size lo k c o : Nat} (hh : W.heap[b]? = some (.cells cur E)) (hsz : cur.size = c * size) (hk : lo + k ≤ c) (ho : lo < c → o = lo * size) :
  (loadCells ⟨b, o, none⟩ (k * size)).run P W = .ok ((cur.toList.take ((lo + k) * size)).drop (lo * size)).toArray W := by
 have hle : (lo + k) * size ≤ c * size := Nat.mul_le_mul_right _ hk
 have hadd : (lo + k) * size = lo * size + k * size := Nat.add_mul ..
 have hlen : ((cur.toList.take ((lo + k) * size)).drop (lo * size)).length = k * size := by
  rw [List.length_drop, List.length_take, Array.length_toList, hsz]; omega
 have := run_loadCells_list (P := P) W ⟨b, o, none⟩ ((cur.toList.take ((lo + k) * size)).drop (lo * size)) (fun j v hj => by
  have hjl : j < k * size := by rw [← hlen]; exact (List.getElem?_eq_some_iff.1 hj).1
  have hk0 : 0 < k := Nat.pos_of_ne_zero fun h => by rw [h, Nat.zero_mul] at hjl; omega
  have := ho (by omega)
  subst this
  rw [List.getElem?_drop, List.getElem?_take] at hj
  split at hj
  ·have hc : W.cell? ⟨b, lo * size + j, none⟩ = cur[lo * size + j]? := by simp [World.cell?, hh]
   rw [Addr.add_plain, hc, ← hj, Array.getElem?_toList]
  ·cases hj)
 rwa [hlen] at this
theorem mid_end (cur vs : List Value) (o q : Nat) (h : o + vs.length = q) (hq : o ≤ cur.length) : (cur.take o ++ vs ++ cur.drop (o + vs.length)).take q = cur.take o ++ vs := by
 have hl : (cur.take o ++ vs).length = q := by rw [List.length_append, List.length_take]; omega
 rw [List.take_append_of_le_length (by omega), List.take_of_length_le (by omega)]
/-- append of a slice's end onto its beginning: what lies between is gone -/
theorem OpOk.delApp {K : Act → World → Prop} {d : Nat} {T E ty : TypeId} {s x : Operand} {pos : String} {after : Array Edge} {gd : Option (Nat × Bool)} {e : Ty} {a : Option Addr} {l : List e.den} {c p q r : Nat} {xs : List Value}
  (i : Nat) (hs : val m s = some (.slice a p c)) (hx : val m x = some (vw a e.size c q r)) (hi : H[i]? = some (.own (.slice a l.length c) E e.size l.length xs)) (hR : RepL g e xs l) (hu : P.underlying T = some (.slice E))
  (hinf : (P.info? E).map (·.size) = some e.size) (hpq : p ≤ q) (hql : q ≤ l.length) (hr : r = l.length) (hn : Nat.ble (d + 1) n = true)
  (hk : ∀ xs2, RepL g e xs2 (l.take p ++ l.drop q) → Ok n w0 ((d, .slice a (l.take p ++ l.drop q).length c) :: m) (H.set i (.own (.slice a (l.take p ++ l.drop q).length c) E e.size (l.take p ++ l.drop q).length xs2)) g K) :
  OpOk P K Q ⟨some d, .call { callee := .builtin .append, args := #[s, x], argTypes := #[T, T] }, ty, pos, after, gd⟩ n w0 m H g := fun ac W hA hW => by
 subst hr
 obtain ⟨inf, h1, h2⟩ := Option.map_eq_some_iff.1 hinf
 have hok : W.ownsRow 0 E e.size (.slice a l.length c) l.length xs := hW.ents _ (List.mem_of_getElem? hi)
 have hlen : (l.take p ++ l.drop q).length = p + (l.length - q) := by simp; omega
 show Oper.upon P _ ac _ Q (Sem.run P (execOp ac.eval _) W)
 rcases own_open hok with ⟨rfl, h3, h4⟩ | ⟨b, cur, rfl, hh, hc, hmax, hsz, htake⟩
 ·have hl : l = [] := List.eq_nil_of_length_eq_zero h3
  subst hl
  have hq0 : q = 0 := by simpa using hql
  have hp0 : p = 0 := by omega
  subst hq0 hp0 h4
  have e1 : (execOp ac.eval ⟨some d, .call { callee := .builtin .append, args := #[s, x], argTypes := #[T, T] }, ty, pos, after, gd⟩).run P W = .ok (.value (.slice none 0 0)) W := by
   simp only [execOp, resolve, invoke, builtin, List.map_toArray, List.map_cons, List.map_nil, hA.eval hs, hA.eval hx, vw, vwA]
   simp [Builtin.append_, run_underlying hu, sizeOf, typeInfo, h1, Builtin.lenOf, Builtin.firstCells, Sem.run_bind, Result.andThen, go_sem]
  rw [e1, Oper.upon_value]
  have hk := hk xs hR
  have hset : H.set i (.own (.slice none ([] : List e.den).length 0) E e.size ([] : List e.den).length xs) = H := by
   obtain ⟨hil, he⟩ := List.getElem?_eq_some_iff.1 hi
   rw [← he, List.set_getElem_self]
  have hk : Ok n w0 ((d, .slice none ([] : List e.den).length 0) :: m) (H.set i (.own (.slice none ([] : List e.den).length 0) E e.size ([] : List e.den).length xs)) g K := hk
  rw [hset] at hk
  exact hk _ W (hA.put (Nat.le_of_ble_eq_true hn) _) hW
 ·obtain ⟨o, ho, ho2⟩ := vwA_some (b := b) (size := e.size) (lo := q) (c := c)
  have hload := row_load (P := P) (k := l.length - q) hh hsz (by omega) ho2
  rw [show q + (l.length - q) = l.length by omega, htake] at hload
  have hxl : xs.length = l.length * e.size := hR.len
  have hvl : (xs.drop (q * e.size)).length = (l.length - q) * e.size := by rw [List.length_drop, hxl, Nat.sub_mul]
  have hm1 : p * e.size + (l.length - q) * e.size = (p + (l.length - q)) * e.size := (Nat.add_mul ..).symm
  have hm2 : (p + (l.length - q)) * e.size ≤ c * e.size := Nat.mul_le_mul_right _ (by omega)
  have hcl : cur.toList.length = c * e.size := by rw [Array.length_toList]; exact hsz
  have hrun := run_storeCells_at (P := P) b (p * e.size) E (xs.drop (q * e.size)) 0 cur W hh (by rw [hvl, hsz]; omega) (fun u hu => hR.ones u (List.mem_of_mem_drop hu))
  simp only [Nat.add_zero] at hrun
  have happ : (Builtin.append_ #[T, T] ty #[.slice (some ⟨b, 0, none⟩) p c, .slice (some ⟨b, o, none⟩) (l.length - q) (c - q)]).run P W = .ok (.slice (some ⟨b, 0, none⟩) (p + (l.length - q)) c) (W.setRow b (cur.toList.take (p * e.size) ++ xs.drop (q * e.size) ++ cur.toList.drop (p * e.size + (xs.drop (q * e.size)).length)).toArray) := by
   simp [Builtin.append_, run_underlying hu, sizeOf, typeInfo, h1, h2, Builtin.lenOf, Builtin.firstCells, show p + (l.length - q) ≤ c by omega, hload, Addr.add_plain, hrun]
  have e1 : (execOp ac.eval ⟨some d, .call { callee := .builtin .append, args := #[s, x], argTypes := #[T, T] }, ty, pos, after, gd⟩).run P W = .ok (.value (.slice (some ⟨b, 0, none⟩) (p + (l.length - q)) c)) (W.setRow b (cur.toList.take (p * e.size) ++ xs.drop (q * e.size) ++ cur.toList.drop (p * e.size + (xs.drop (q * e.size)).length)).toArray) := by
   simp only [execOp, resolve, invoke, builtin, List.map_toArray, List.map_cons, List.map_nil, hA.eval hs, hA.eval hx, vw, ho, Sem.run_bind, Sem.run_pure, Result.andThen_ok, happ]
  rw [e1, Oper.upon_value]
  rw [hlen] at hk
  refine hk _ ?_ _ _ (hA.put (Nat.le_of_ble_eq_true hn) _) (hW.rewr (k' := p + (l.length - q)) hi hh hmax _ (by simp only [List.length_append, List.length_take, List.length_drop, hcl, hxl] at hvl ⊢; omega) (by omega))
  rw [mid_end _ _ _ _ (by rw [hvl]; omega) (by rw [hcl]; omega)]
  have hp : cur.toList.take (p * e.size) = xs.take (p * e.size) := by rw [← htake, List.take_take, Nat.min_eq_left (Nat.mul_le_mul_right _ (by omega))]
  rw [hp]
  exact RepL.app (RepL.take p hR) (RepL.drop q hR)
/-- clear of what lies behind the elements -/
theorem OpOk.clearSpare {K : Act → World → Prop} {T E ty : TypeId} {x : Operand} {pos : String} {after : Array Edge} {gd : Option (Nat × Bool)} {size k c lo hi : Nat} {a : Option Addr} {xs : List Value} {z : Value}
  (i : Nat) (hx : val m x = some (vw a size c lo hi)) (hi' : H[i]? = some (.own (.slice a k c) E size k xs)) (hu : P.underlying T = some (.slice E))
  (hz : (P.info? E).bind (·.zero) = some z) (h1 : z.cells.toList.all (·.oneCell') = true) (hzs : z.cells.size = size) (hlo : k ≤ lo) (hlh : lo ≤ hi) (hhi : hi ≤ c)
  (hk : Ok n w0 m H g K) :
  OpOk P K Q ⟨none, .call { callee := .builtin .clear, args := #[x], argTypes := #[T] }, ty, pos, after, gd⟩ n w0 m H g := fun ac W hA hW => by
 have hok : W.ownsRow 0 E size (.slice a k c) k xs := hW.ents _ (List.mem_of_getElem? hi')
 show Oper.upon P _ ac _ Q (Sem.run P (execOp ac.eval _) W)
 by_cases h0 : hi = lo
 ·have e1 : (execOp ac.eval ⟨none, .call { callee := .builtin .clear, args := #[x], argTypes := #[T] }, ty, pos, after, gd⟩).run P W = .ok (.value (.tuple #[])) W := by
   simp only [execOp, resolve, invoke, builtin, List.map_toArray, List.map_cons, List.map_nil, hA.eval hx, vw, h0, Nat.sub_self]
   cases vwA a size lo c <;> simp [Builtin.clear_, underlying, hu, go_sem]
  rw [e1, Oper.upon_value]
  exact hk _ W (hA.skip none (fun d hd => by cases hd) _) hW
 ·rcases own_open hok with ⟨-, -, h2⟩ | ⟨b, cur, rfl, hh, hc, hmax, hsz, htake⟩
  ·omega
  obtain ⟨o, ho, ho2⟩ := vwA_some (b := b) (size := size) (lo := lo) (c := c)
  have ho2 := ho2 (by omega)
  subst ho2
  obtain ⟨q, hq⟩ : ∃ q, hi - lo = q + 1 := ⟨hi - lo - 1, by omega⟩
  have hvl : (Builtin.zeroCells z.cells (hi - lo)).toList.length = (hi - lo) * size := by rw [zeroCells_rep]; simp [hzs]
  have hmul : lo * size + (hi - lo) * size = hi * size := by rw [← Nat.add_mul]; congr 1; omega
  have hle : hi * size ≤ c * size := Nat.mul_le_mul_right _ hhi
  have hkl : k * size ≤ lo * size := Nat.mul_le_mul_right _ hlo
  have hrun := run_storeCells_at (P := P) b (lo * size) E (Builtin.zeroCells z.cells (hi - lo)).toList 0 cur W hh (by rw [hvl, hsz]; omega) (fun u hu => by
   rw [zeroCells_rep] at hu
   obtain ⟨s, hs, hu⟩ := List.mem_flatten.1 hu
   rw [List.eq_of_mem_replicate hs] at hu
   exact List.all_eq_true.1 h1 u hu)
  simp only [Nat.add_zero] at hrun
  obtain ⟨inf, hinf, hz⟩ := Option.bind_eq_some_iff.1 hz
  have hv : ∀ w, (zeroValue E).run P w = .ok z w := fun w => by simp [zeroValue, typeInfo, hinf, hz, go_sem]
  have hcl : (Builtin.clear_ #[T] ty #[.slice (some ⟨b, lo * size, none⟩) (hi - lo) (c - lo)]).run P W = .ok (.tuple #[]) (W.setRow b (cur.toList.take (lo * size) ++ (Builtin.zeroCells z.cells (hi - lo)).toList ++ cur.toList.drop (lo * size + (Builtin.zeroCells z.cells (hi - lo)).toList.length)).toArray) := by
   rw [hq] at hrun ⊢
   simp only [Builtin.clear_, run_underlying hu, hv, hrun, Sem.run_bind, Result.andThen, Sem.run_pure, List.getElem?_toArray, List.getElem?_cons_zero]
  have e1 : (execOp ac.eval ⟨none, .call { callee := .builtin .clear, args := #[x], argTypes := #[T] }, ty, pos, after, gd⟩).run P W = .ok (.value (.tuple #[])) (W.setRow b (cur.toList.take (lo * size) ++ (Builtin.zeroCells z.cells (hi - lo)).toList ++ cur.toList.drop (lo * size + (Builtin.zeroCells z.cells (hi - lo)).toList.length)).toArray) := by
   simp only [execOp, resolve, invoke, builtin, List.map_toArray, List.map_cons, List.map_nil, hA.eval hx, vw, ho, Sem.run_bind, hcl, Result.andThen_ok, Sem.run_pure]
  rw [e1, Oper.upon_value]
  have hcll : cur.toList.length = c * size := by rw [Array.length_toList]; exact hsz
  have hW' := hW.rewr (k' := k) hi' hh hmax (cur.toList.take (lo * size) ++ (Builtin.zeroCells z.cells (hi - lo)).toList ++ cur.toList.drop (lo * size + (Builtin.zeroCells z.cells (hi - lo)).toList.length)) (by simp only [List.length_append, List.length_take, List.length_drop, hcll, hvl]; omega) hc
  have ht : (cur.toList.take (lo * size) ++ (Builtin.zeroCells z.cells (hi - lo)).toList ++ cur.toList.drop (lo * size + (Builtin.zeroCells z.cells (hi - lo)).toList.length)).take (k * size) = xs := by
   rw [List.append_assoc, List.take_append_of_le_length (by rw [List.length_take, hcll]; omega), List.take_take, Nat.min_eq_left hkl, htake]
  rw [ht] at hW'
  have hset : H.set i (.own (.slice (some ⟨b, 0, none⟩) k c) E size k xs) = H := by
   obtain ⟨hil, he⟩ := List.getElem?_eq_some_iff.1 hi'
   rw [← he, List.set_getElem_self]
  rw [hset] at hW'
  exact hk _ _ (hA.skip none (fun d hd => by cases hd) _) hW'
/-- two slices of the call's own do not overlap -/
theorem Yields.apart {dst : Option Nat} {T B E ty : TypeId} {x y : Operand} {pos : String} {after : Array Edge} {gd : Option (Nat × Bool)} {a a2 : Option Addr} {k k2 c c2 size lo hi : Nat} {f : FuncId} {fn : Func} {xs xs2 : List Value}
  (i j : Nat) (hij : Nat.beq i j = false) (hi' : H[i]? = some (.own (.slice a k c) E size k xs)) (hj : H[j]? = some (.own (.slice a2 k2 c2) E size k2 xs2)) (hx : val m x = some (.slice a k c)) (hy : val m y = some (vw a2 size c2 lo hi)) (hk : 0 < k) (hk2 : 0 < k2)
  (hu : P.underlying T = some (.slice E)) (hs : (P.info? E).map (·.size) = some size) (h1 : Nat.ble 1 size = true) (hf : P.funcs[f]? = some fn) (hname : (fn.name == "runtime.NumGoroutine") = false) (hb : fn.body.isNone = true) (hne : Extern.findNext fn = none) (he : Extern.find fn = some (Extern.SlicesOverlaps.overlaps #[T, T] #[B])) :
  Yields P n w0 m H g ⟨dst, .call { callee := .value (.func f), args := #[x, y], argTypes := #[T, T] }, ty, pos, after, gd⟩ (.bool false) := fun ac W hA hW => by
 obtain ⟨inf, h3, h4⟩ := Option.map_eq_some_iff.1 hs
 have h1 := Nat.le_of_ble_eq_true h1
 have hok : W.ownsRow 0 E size (.slice a k c) k xs := hW.ents _ (List.mem_of_getElem? hi')
 have hok2 : W.ownsRow 0 E size (.slice a2 k2 c2) k2 xs2 := hW.ents _ (List.mem_of_getElem? hj)
 rcases own_open hok with ⟨rfl, h8, h9⟩ | ⟨b, cur, rfl, hh, hc, hmax, hsz, htake⟩
 ·omega
 rcases own_open hok2 with ⟨rfl, h8, h9⟩ | ⟨b2, cur2, rfl, hh2, hc2, hmax2, hsz2, htake2⟩
 ·omega
 obtain ⟨o, ho, ho1⟩ := vwA_some (b := b2) (size := size) (lo := lo) (c := c2)
 have hbb : b ≠ b2 := fun e => by
  subst e
  have hne : i ≠ j := fun h => by rw [h, Nat.beq_refl] at hij; cases hij
  exact nodup_filterMap_clash hW.nodup hi' hj (fun h => hne h) rfl rfl
 have hcs : cur.size ≠ 0 := by rw [hsz]; exact Nat.pos_iff_ne_zero.1 (Nat.mul_pos (by omega) (by omega))
 have hcs2 : cur2.size ≠ 0 := by rw [hsz2]; exact Nat.pos_iff_ne_zero.1 (Nat.mul_pos (by omega) (by omega))
 have hov := Lib.run_overlaps_apart (P := P) W T B E hu size (fun w => by simp [sizeOf, typeInfo, h3, h4]) ⟨b, 0, none⟩ ⟨b2, o, none⟩ k c (hi - lo) (c2 - lo) hbb E E cur.size cur2.size (by simp [World.shape?, hh]) (by simp [World.shape?, hh2]) hcs2 (by simp [World.frozen?, hh]) (by simp [World.frozen?, hh])
 have hcall : (callFunc f #[.slice (some ⟨b, 0, none⟩) k c, .slice (some ⟨b2, o, none⟩) (hi - lo) (c2 - lo)]).run P W = .ok (.value (.bool false)) W := by
  rw [run_callFunc_extern hf hname hb hne he, hov]; rfl
 have hx' : ac.eval x = .slice (some ⟨b, 0, none⟩) k c := hA.eval hx
 have hy' : ac.eval y = .slice (some ⟨b2, o, none⟩) (hi - lo) (c2 - lo) := by rw [hA.eval hy, vw, ho]
 have hF : ac.eval (.func f) = .func (.func f) #[] #[] := rfl
 simp only [execOp, resolve, List.map_toArray, List.map_cons, List.map_nil, hx', hy', hF]
 simp [Deferred.ofValue, invoke, hcall]
theorem slice0_run {dst : Option Nat} {T E ty : TypeId} {x o : Operand} {pos : String} {after : Array Edge} {gd : Option (Nat × Bool)} {a : Option Addr} {k c : Nat} {q : IntKind} {h : Int}
  (hx : val m x = some (.slice a k c)) (hu : P.underlying T = some (.slice E)) (hs : (P.info? E).isSome = true) (ho : val m o = some (.int q h)) (h0 : 0 ≤ h) (h2 : h ≤ (c : Int)) : Yields P n w0 m H g ⟨dst, .slice T x none (some o) none, ty, pos, after, gd⟩ (.slice a h.toNat c) := fun ac W hA hW => by
 cases hinf : P.info? E with
 | none => simp [hinf] at hs
 | some inf =>
  simp only [execOp, hA.eval hx, hA.eval ho, Option.map_some, Option.map_none]
  simp [Instr.sliceAt, underlying, hu, Instr.slice, Instr.sliceBounds, Instr.sliceBound, asIntOf, h0, h2, sizeOf, typeInfo, hinf, go_sem]
theorem OpOk.delAppL {K : Act → World → Prop} {d : Nat} {T E ty : TypeId} {s x : Operand} {pos : String} {after : Array Edge} {gd : Option (Nat × Bool)} {e : Ty} {a : Option Addr} {l L : List e.den} {c p q r : Nat} {xs : List Value}
  (i : Nat) (hs : val m s = some (.slice a p c)) (hx : val m x = some (vw a e.size c q r)) (hi : H[i]? = some (.own (.slice a l.length c) E e.size l.length xs)) (hR : RepL g e xs l) (hu : P.underlying T = some (.slice E))
  (hinf : (P.info? E).map (·.size) = some e.size) (hpq : p ≤ q) (hql : q ≤ l.length) (hr : r = l.length) (hL : L = l.take p ++ l.drop q) (hn : Nat.ble (d + 1) n = true)
  (hk : ∀ xs2, RepL g e xs2 L → Ok n w0 ((d, .slice a L.length c) :: m) (H.set i (.own (.slice a L.length c) E e.size L.length xs2)) g K) :
  OpOk P K Q ⟨some d, .call { callee := .builtin .append, args := #[s, x], argTypes := #[T, T] }, ty, pos, after, gd⟩ n w0 m H g := by
 subst hL; exact OpOk.delApp i hs hx hi hR hu hinf hpq hql hr hn hk
/-- one of two slices -/
theorem pick2 {e : Ty} {a1 a2 : Option Addr} {c1 c2 : Nat} {x1 x2 : List e.den} (h1 : Rep g (.slice e) [.slice a1 x1.length c1] x1) (h2 : Rep g (.slice e) [.slice a2 x2.length c2] x2) (i : Int) (h0 : 0 ≤ i) (hi : i < 2) :
  ∃ a c, (#[.slice a1 x1.length c1, .slice a2 x2.length c2] : Array Value)[i.toNat]? = some (.slice a (([x1, x2] : List (List e.den)).getD i.toNat []).length c) ∧ Rep g (.slice e) [.slice a (([x1, x2] : List (List e.den)).getD i.toNat []).length c] (([x1, x2] : List (List e.den)).getD i.toNat []) := by
 rcases (show i = 0 ∨ i = 1 by omega) with rfl | rfl
 ·exact ⟨a1, c1, rfl, h1⟩
 ·exact ⟨a2, c2, rfl, h2⟩
end
end Go.Eng
