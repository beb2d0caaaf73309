/-
 Parts of a slice of the call's own, as the library's functions on slices cut them: what lies behind a part is not forgotten. No program in sight.
-/
import Derived.Test.YtdjcgbejnpbjlaaGreatDoorCuo
import Derived.Lib.SliceRun
import Derived.Laws.CopyRow
namespace Go.Eng
open Go.RowKit (Below)
def vwA (a : Option Addr) (size lo c : Nat) : Option Addr := if c = lo then a else a.map (·.add (lo * size))
/-- the part from lo to hi of a slice whose row has room for c -/
def vw (a : Option Addr) (size c lo hi : Nat) : Value := .slice (vwA a size lo c) (hi - lo) (c - lo)
theorem vwA_some {b size lo c : Nat} : ∃ o, vwA (some ⟨b, 0, none⟩) size lo c = some ⟨b, o, none⟩ ∧ (lo < c → o = lo * size) := by
 unfold vwA
 split
 ·exact ⟨0, rfl, fun h => by omega⟩
 ·exact ⟨lo * size, by simp [Addr.add_plain], fun _ => rfl⟩
theorem own_open {W : World} {E : TypeId} {size n c : Nat} {a : Option Addr} {xs : List Value} (h : W.ownsRow 0 E size (.slice a n c) n xs) :
  (a = none ∧ n = 0 ∧ c = 0) ∨ ∃ b cur, a = some ⟨b, 0, none⟩ ∧ W.heap[b]? = some (.cells cur E) ∧ n ≤ c ∧ c ≤ maxLen ∧ cur.size = c * size ∧ cur.toList.take (n * size) = xs := by
 rcases h.2 with ⟨he, hl⟩ | ⟨b, cap, cur, he, hB, hh, hcap, hmax, hsize, htake⟩
 ·simp only [Value.slice.injEq] at he
  exact .inl ⟨he.1, hl, he.2.2⟩
 ·simp only [Value.slice.injEq, true_and] at he
  obtain ⟨rfl, rfl⟩ := he
  exact .inr ⟨b, cur, rfl, hh, hcap, hmax, hsize, htake⟩
section
variable {P : Program} {n : Fsz} {w0 : Base} {m : Env} {H : List Ent} {g : Ghost} {R : Act → World → Prop} {Q : Exit → Act → World → Prop} {ops : Array Oper}
theorem Ok.capOwn {a : Option Addr} {E : TypeId} {size k c : Nat} {xs : List Value} (i : Nat) (hi : H[i]? = some (.own (.slice a k c) E size k xs)) (h : k ≤ c → c ≤ maxLen → Ok n w0 m H g R) : Ok n w0 m H g R := fun ac W hA hW => by
 have hok : W.ownsRow 0 E size (.slice a k c) k xs := hW.ents _ (List.mem_of_getElem? hi)
 rcases own_open hok with ⟨-, h1, h2⟩ | ⟨b, cur, -, -, h1, h2, -⟩
 ·exact h (by omega) (by rw [h2]; exact Nat.zero_le _) ac W hA hW
 ·exact h h1 h2 ac W hA hW
theorem slice_run {dst : Option Nat} {T E ty : TypeId} {x : Operand} {lo hi : Option Operand} {pos : String} {after : Array Edge} {gd : Option (Nat × Bool)} {a : Option Addr} {k c size : Nat} {l h : Int}
  (hx : val m x = some (.slice a k c)) (hu : P.underlying T = some (.slice E)) (hs : (P.info? E).map (·.size) = some size)
  (hl : (∃ o k, lo = some o ∧ val m o = some (.int k l)) ∨ (lo = none ∧ l = 0)) (hh : (∃ o k, hi = some o ∧ val m o = some (.int k h)) ∨ (hi = none ∧ h = (k : Int)))
  (h0 : 0 ≤ l) (h1 : l ≤ h) (h2 : h ≤ (c : Int)) : Yields P n w0 m H g ⟨dst, .slice T x lo hi none, ty, pos, after, gd⟩ (vw a size c l.toNat h.toNat) := fun ac W hA hW => by
 cases hinf : P.info? E with
 | none => simp [hinf] at hs
 | some inf =>
  simp only [hinf, Option.map_some, Option.some.injEq] at hs
  unfold vw vwA
  rcases hl with ⟨o, q, rfl, ho⟩ | ⟨rfl, rfl⟩ <;> rcases hh with ⟨o', q', rfl, ho'⟩ | ⟨rfl, rfl⟩
  ·simp only [execOp, hA.eval hx, hA.eval ho, hA.eval ho', Option.map_some, Option.map_none]
   simp [Instr.sliceAt, underlying, hu, Instr.slice, Instr.sliceBounds, Instr.sliceBound, asIntOf, h0, show 0 ≤ h by omega, h2, show ((h.toNat : Nat) : Int) = h by omega, h1, sizeOf, typeInfo, hinf, hs, go_sem]
  ·simp only [execOp, hA.eval hx, hA.eval ho, Option.map_some, Option.map_none]
   simp [Instr.sliceAt, underlying, hu, Instr.slice, Instr.sliceBounds, Instr.sliceBound, asIntOf, h0, h1, sizeOf, typeInfo, hinf, hs, go_sem]
  ·simp only [execOp, hA.eval hx, hA.eval ho', Option.map_some, Option.map_none]
   simp [Instr.sliceAt, underlying, hu, Instr.slice, Instr.sliceBounds, Instr.sliceBound, asIntOf, h1, h2, sizeOf, typeInfo, hinf, go_sem]
  ·simp only [execOp, hA.eval hx, Option.map_none]
   simp [Instr.sliceAt, underlying, hu, Instr.slice, Instr.sliceBounds, sizeOf, typeInfo, hinf, go_sem]
theorem slice3_run {dst : Option Nat} {T E ty : TypeId} {x o1 o2 o3 : Operand} {pos : String} {after : Array Edge} {gd : Option (Nat × Bool)} {a : Option Addr} {k c size : Nat} {k1 k2 k3 : IntKind} {l h q : Int}
  (hx : val m x = some (.slice a k c)) (hu : P.underlying T = some (.slice E)) (hs : (P.info? E).map (·.size) = some size)
  (ho1 : val m o1 = some (.int k1 l)) (ho2 : val m o2 = some (.int k2 h)) (ho3 : val m o3 = some (.int k3 q)) (h0 : 0 ≤ l) (h1 : l ≤ h) (h2 : h ≤ q) (h3 : q ≤ (c : Int)) : Yields P n w0 m H g ⟨dst, .slice T x (some o1) (some o2) (some o3), ty, pos, after, gd⟩ (vw a size q.toNat l.toNat h.toNat) := fun ac W hA hW => by
 cases hinf : P.info? E with
 | none => simp [hinf] at hs
 | some inf =>
  simp only [hinf, Option.map_some, Option.some.injEq] at hs
  unfold vw vwA
  simp only [execOp, hA.eval hx, hA.eval ho1, hA.eval ho2, hA.eval ho3, Option.map_some]
  simp [Instr.sliceAt, underlying, hu, Instr.slice, Instr.sliceBounds, Instr.sliceBound, asIntOf, h0, show 0 ≤ h by omega, show 0 ≤ q by omega, h2, h3, show ((h.toNat : Nat) : Int) = h by omega, show ((q.toNat : Nat) : Int) = q by omega, h1, sizeOf, typeInfo, hinf, hs, go_sem]
/-- a row of the call's own is written: the cells ys for what was there; from then on the slice has k' elements -/
theorem StW.rewr {W : World} {E : TypeId} {size k k' b c : Nat} {xs : List Value} {cur : Array Value} (hW : StW w0 H g W) {i : Nat} (hi : H[i]? = some (.own (.slice (some ⟨b, 0, none⟩) k c) E size k xs))
  (hh : W.heap[b]? = some (.cells cur E)) (hmax : c ≤ maxLen) (ys : List Value) (hy : ys.length = c * size) (hk : k' ≤ c) :
  StW w0 (H.set i (.own (.slice (some ⟨b, 0, none⟩) k' c) E size k' (ys.take (k' * size)))) g (W.setRow b ys.toArray) := by
 refine hW.grown hi ⟨rfl, rfl, rfl, by simp [World.setRow], fun q _ hq => setRow_other W b q _ (fun e => hq (by simp [Ent.block, Value.ownBlock, e]))⟩ ?_ (.inl rfl)
 refine ⟨?_, .inr ⟨b, c, _, rfl, Nat.zero_le _, setRow_heap W b cur _ E _ hh, hk, hmax, by simpa using hy, by simp⟩⟩
 rw [List.length_take, hy]
 exact Nat.min_eq_left (Nat.mul_le_mul_right _ hk)
theorem RepL.drop {e : Ty} : ∀ {l : List e.den} {xs : List Value} (k : Nat), RepL g e xs l → RepL g e (xs.drop (k * e.size)) (l.drop k)
 | l, xs, 0, h => by rw [Nat.zero_mul, List.drop_zero, List.drop_zero]; exact h
 | [], xs, k + 1, h => by rw [show xs = [] from h]; simp; rfl
 | x :: l, xs, k + 1, ⟨c, r, h1, h2, h3⟩ => by
  rw [h1, Nat.succ_mul, Nat.add_comm, ← h2.size, List.drop_length_add_append, List.drop_succ_cons]
  rw [h2.size]
  exact RepL.drop k h3
theorem RepL.app {e : Ty} : ∀ {l l' : List e.den} {xs ys : List Value}, RepL g e xs l → RepL g e ys l' → RepL g e (xs ++ ys) (l ++ l')
 | [], _, _, _, h, h' => by rw [show _ = [] from h]; exact h'
 | x :: l, l', _, ys, ⟨c, r, h1, h2, h3⟩, h' => ⟨c, r ++ ys, by rw [h1, List.append_assoc], h2, RepL.app h3 h'⟩
theorem RepL.len {e : Ty} : ∀ {l : List e.den} {xs : List Value}, RepL g e xs l → xs.length = l.length * e.size
 | [], _, h => by rw [show _ = [] from h]; simp
 | x :: l, _, ⟨c, r, h1, h2, h3⟩ => by rw [h1, List.length_append, h2.size, RepL.len h3, List.length_cons, Nat.succ_mul]; omega
theorem RepL.rep {e : Ty} {cs : List Value} {y : e.den} (h : Rep g e cs y) : ∀ k, RepL g e (List.replicate k cs).flatten (List.replicate k y)
 | 0 => rfl
 | k + 1 => ⟨cs, _, by rw [List.replicate_succ, List.flatten_cons], h, RepL.rep h k⟩
theorem zeroCells_rep (z : Array Value) : ∀ k, (Builtin.zeroCells z k).toList = (List.replicate k z.toList).flatten := fun k => by
 have hfl : ∀ k, (List.replicate k z.toList).flatten.length = k * z.size := fun k => by simp
 apply List.ext_getElem?
 intro j
 by_cases hj : j < k * z.size
 ·have hpos : 0 < z.size := Nat.pos_of_ne_zero fun h => by rw [h, Nat.mul_zero] at hj; omega
  have key : ∀ (k j : Nat), j < k * z.size → (List.replicate k z.toList).flatten[j]? = z.toList[j % z.size]? := by
   intro k
   induction k with
   | zero => intro j hj; simp at hj
   | succ k ih =>
    intro j hj
    rw [List.replicate_succ, List.flatten_cons, List.getElem?_append]
    split
    ·rename_i hlt; rw [Array.length_toList] at hlt; rw [Nat.mod_eq_of_lt hlt]
    ·rename_i hge
     rw [Array.length_toList] at hge ⊢
     rw [ih (j - z.size) (by rw [Nat.succ_mul] at hj; omega)]
     rw [Nat.mod_eq_sub_mod (by omega : z.size ≤ j)]
  rw [key k j hj]
  have hmod := Nat.mod_lt j hpos
  simp only [Builtin.zeroCells, Array.toList_map, Array.toList_range, List.getElem?_map]
  rw [List.getElem?_range hj]
  simp only [Option.map_some]
  rw [Array.getElem?_toList, getElem!_pos z (j % z.size) hmod, Array.getElem?_eq_getElem hmod]
 ·rw [List.getElem?_eq_none (by simp only [Builtin.zeroCells, Array.toList_map, Array.toList_range, List.length_map, List.length_range]; omega), List.getElem?_eq_none (by rw [hfl]; omega)]
/-- what is written in the middle of a row, seen from its beginning -/
theorem mid_take (cur vs : List Value) (o q : Nat) (h : o + vs.length ≤ q) (hq : q ≤ cur.length) : (cur.take o ++ vs ++ cur.drop (o + vs.length)).take q = (cur.take q).take o ++ vs ++ (cur.take q).drop (o + vs.length) := by
 have h1 : (cur.take o).length = o := by rw [List.length_take]; omega
 rw [List.take_append, List.take_of_length_le (by rw [List.length_append, h1]; omega), List.length_append, h1, List.take_take, Nat.min_eq_left (by omega), List.drop_take]
/-- zero from lo to the end -/
def clr {α : Type} (l : List α) (lo : Nat) (y : α) : List α := l.take lo ++ List.replicate (l.length - lo) y
theorem clr_len {α : Type} (l : List α) (lo : Nat) (y : α) (h : lo ≤ l.length) : l.length = (clr l lo y).length := by unfold clr; simp; omega
/-- clear from lo to the end -/
theorem OpOk.clearOwn {K : Act → World → Prop} {T E ty : TypeId} {x : Operand} {pos : String} {after : Array Edge} {gd : Option (Nat × Bool)} {e : Ty} {a : Option Addr} {l : List e.den} {c lo hi : Nat} {xs : List Value} {y : e.den} {z : Value}
  (i : Nat) (hx : val m x = some (vw a e.size c lo hi)) (hi' : H[i]? = some (.own (.slice a l.length c) E e.size l.length xs)) (hR : RepL g e xs l) (hu : P.underlying T = some (.slice E))
  (hz : (P.info? E).bind (·.zero) = some z) (h1 : z.cells.toList.all (·.oneCell') = true) (hRz : Rep g e z.cells.toList y) (hlo : lo ≤ hi) (hhi : hi = l.length)
  (hk : ∀ xs2, RepL g e xs2 (clr l lo y) → Ok n w0 m (H.set i (.own (.slice a (clr l lo y).length c) E e.size (clr l lo y).length xs2)) g K) :
  OpOk P K Q ⟨none, .call { callee := .builtin .clear, args := #[x], argTypes := #[T] }, ty, pos, after, gd⟩ n w0 m H g := fun ac W hA hW => by
 subst hhi
 have hok : W.ownsRow 0 E e.size (.slice a l.length c) l.length xs := hW.ents _ (List.mem_of_getElem? hi')
 have hlen : (clr l lo y).length = l.length := (clr_len l lo y hlo).symm
 show Oper.upon P _ ac _ Q (Sem.run P (execOp ac.eval _) W)
 rw [hlen] at hk
 by_cases h0 : l.length = lo
 ·have e1 : (execOp ac.eval ⟨none, .call { callee := .builtin .clear, args := #[x], argTypes := #[T] }, ty, pos, after, gd⟩).run P W = .ok (.value (.tuple #[])) W := by
   simp only [execOp, resolve, invoke, builtin, List.map_toArray, List.map_cons, List.map_nil, hA.eval hx, vw, h0, Nat.sub_self]
   cases vwA a e.size lo c <;> simp [Builtin.clear_, underlying, hu, go_sem]
  rw [e1, Oper.upon_value]
  have hk := hk xs (by unfold clr; rw [h0, Nat.sub_self, List.replicate_zero, List.append_nil, ← h0, List.take_length]; exact hR)
  have hset : H.set i (.own (.slice a l.length c) E e.size l.length xs) = H := by
   obtain ⟨hil, he⟩ := List.getElem?_eq_some_iff.1 hi'
   rw [← he, List.set_getElem_self]
  rw [hset] at hk
  exact hk _ W (hA.skip none (fun d hd => by cases hd) _) hW
 ·rcases own_open hok with ⟨-, h2, -⟩ | ⟨b, cur, rfl, hh, hc, hmax, hsz, htake⟩
  ·omega
  obtain ⟨o, ho, ho2⟩ := vwA_some (b := b) (size := e.size) (lo := lo) (c := c)
  have ho2 := ho2 (by omega)
  subst ho2
  obtain ⟨q, hq⟩ : ∃ q, l.length - lo = q + 1 := ⟨l.length - lo - 1, by omega⟩
  have hzl : z.cells.size = e.size := by rw [← Array.length_toList]; exact hRz.size
  have hvl : (Builtin.zeroCells z.cells (l.length - lo)).toList.length = (l.length - lo) * e.size := by rw [zeroCells_rep]; simp [hzl]
  have hmul : lo * e.size + (l.length - lo) * e.size = l.length * e.size := by rw [← Nat.add_mul]; congr 1; omega
  have hle : l.length * e.size ≤ c * e.size := Nat.mul_le_mul_right _ hc
  have hrun := run_storeCells_at (P := P) b (lo * e.size) E (Builtin.zeroCells z.cells (l.length - lo)).toList 0 cur W hh (by rw [hvl, hsz]; omega) (fun u hu => by
   rw [zeroCells_rep] at hu
   obtain ⟨s, hs, hu⟩ := List.mem_flatten.1 hu
   rw [List.eq_of_mem_replicate hs] at hu
   exact List.all_eq_true.1 h1 u hu)
  simp only [Nat.add_zero] at hrun
  obtain ⟨inf, hinf, hz⟩ := Option.bind_eq_some_iff.1 hz
  have e1 : (execOp ac.eval ⟨none, .call { callee := .builtin .clear, args := #[x], argTypes := #[T] }, ty, pos, after, gd⟩).run P W = .ok (.value (.tuple #[])) (W.setRow b (cur.toList.take (lo * e.size) ++ (Builtin.zeroCells z.cells (l.length - lo)).toList ++ cur.toList.drop (lo * e.size + (Builtin.zeroCells z.cells (l.length - lo)).toList.length)).toArray) := by
   simp only [execOp, resolve, invoke, builtin, List.map_toArray, List.map_cons, List.map_nil, hA.eval hx, vw, ho]
   have hv : ∀ w, (zeroValue E).run P w = .ok z w := fun w => by simp [zeroValue, typeInfo, hinf, hz, go_sem]
   have hcl : (Builtin.clear_ #[T] ty #[.slice (some ⟨b, lo * e.size, none⟩) (l.length - lo) (c - lo)]).run P W = .ok (.tuple #[]) (W.setRow b (cur.toList.take (lo * e.size) ++ (Builtin.zeroCells z.cells (l.length - lo)).toList ++ cur.toList.drop (lo * e.size + (Builtin.zeroCells z.cells (l.length - lo)).toList.length)).toArray) := by
    rw [hq] at hrun ⊢
    simp only [Builtin.clear_, run_underlying hu, hv, hrun, Sem.run_bind, Result.andThen, Sem.run_pure, List.getElem?_toArray, List.getElem?_cons_zero]
   simp only [Sem.run_bind, hcl, Result.andThen_ok, Sem.run_pure]
  rw [e1, Oper.upon_value]
  have hcl : cur.toList.length = c * e.size := by rw [Array.length_toList]; exact hsz
  refine hk _ ?_ _ _ (hA.skip none (fun d hd => by cases hd) _) (hW.rewr (k' := l.length) hi' hh hmax _ (by simp only [List.length_append, List.length_take, List.length_drop, hcl, hvl]; omega) hc)
  rw [mid_take _ _ _ _ (by rw [hvl]; omega) (by rw [hcl]; exact hle), htake, hvl, List.drop_of_length_le (by rw [hR.len]; omega), List.append_nil, zeroCells_rep]
  unfold clr
  exact RepL.app (RepL.take lo hR) (RepL.rep hRz _)
end
end Go.Eng
