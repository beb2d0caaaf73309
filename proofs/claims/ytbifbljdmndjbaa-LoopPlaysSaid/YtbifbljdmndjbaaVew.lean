/-
 Parts of a slice of the call's own, as the library's functions on slices cut them: what lies behind a part is not forgotten. No program in sight.
-/
import Derived.Test.YtbifbljdmndjbaaCuo
import Derived.Lib.SliceRun
import Derived.Laws.CopyRow
namespace Go.Eng
open Go.RowKit (Below)
def vwA (a : Option Addr) (size lo c : Nat) : Option Addr := if c = lo then a else a.map (·.add (lo * size))
/-- the part from lo to hi of a slice whose row has room for c -/
def vw (a : Option Addr) (size c lo hi : Nat) : Value := .slice (vwA a size lo c) (hi - lo) (c - lo)
theorem vwA_some {b size lo c : Nat} : ∃ o, vwA (some ⟨b, 0, none⟩) size lo c = some ⟨b, o, none⟩ ∧ (lo < c → o = lo * size) := by
 unfold vwA
 split
 ·exact ⟨0, rfl, fun h => by omega⟩
 ·exact ⟨lo * size, by simp [Addr.add_plain], fun _ => rfl⟩
theorem own_open {W : World} {E : TypeId} {size n c : Nat} {a : Option Addr} {xs : List Value} (h : W.ownsRow 0 E size (.slice a n c) n xs) :
  (a = none ∧ n = 0 ∧ c = 0) ∨ ∃ b cur, a = some ⟨b, 0, none⟩ ∧ W.heap[b]? = some (.cells cur E) ∧ n ≤ c ∧ c ≤ maxLen ∧ cur.size = c * size ∧ cur.toList.take (n * size) = xs := by
 rcases h.2 with ⟨he, hl⟩ | ⟨b, cap, cur, he, hB, hh, hcap, hmax, hsize, htake⟩
 ·simp only [Value.slice.injEq] at he
  exact .inl ⟨he.1, hl, he.2.2⟩
 ·simp only [Value.slice.injEq, true_and] at he
  obtain ⟨rfl, rfl⟩ := he
  exact .inr ⟨b, cur, rfl, hh, hcap, hmax, hsize, htake⟩
section
variable {P : Program} {n : Nat} {w0 : Base} {m : Env} {H : List Ent} {g : Ghost} {R : Act → World → Prop} {Q : Exit → Act → World → Prop} {ops : Array Oper}
theorem Ok.capOwn {a : Option Addr} {E : TypeId} {size k c : Nat} {xs : List Value} (i : Nat) (hi : H[i]? = some (.own (.slice a k c) E size k xs)) (h : k ≤ c → c ≤ maxLen → Ok n w0 m H g R) : Ok n w0 m H g R := fun ac W hA hW => by
 have hok : W.ownsRow 0 E size (.slice a k c) k xs := hW.ents _ (List.mem_of_getElem? hi)
 rcases own_open hok with ⟨-, h1, h2⟩ | ⟨b, cur, -, -, h1, h2, -⟩
 ·exact h (by omega) (by rw [h2]; exact Nat.zero_le _) ac W hA hW
 ·exact h h1 h2 ac W hA hW
theorem slice_run {dst : Option Nat} {T E ty : TypeId} {x : Operand} {lo hi : Option Operand} {pos : String} {after : Array Edge} {gd : Option (Nat × Bool)} {a : Option Addr} {k c size : Nat} {l h : Int}
  (hx : val m x = some (.slice a k c)) (hu : P.underlying T = some (.slice E)) (hs : (P.info? E).map (·.size) = some size)
  (hl : (∃ o k, lo = some o ∧ val m o = some (.int k l)) ∨ (lo = none ∧ l = 0)) (hh : (∃ o k, hi = some o ∧ val m o = some (.int k h)) ∨ (hi = none ∧ h = (k : Int)))
  (h0 : 0 ≤ l) (h1 : l ≤ h) (h2 : h ≤ (c : Int)) : Yields P n w0 m H g ⟨dst, .slice T x lo hi none, ty, pos, after, gd⟩ (vw a size c l.toNat h.toNat) := fun ac W hA hW => by
 cases hinf : P.info? E with
 | none => simp [hinf] at hs
 | some inf =>
  simp only [hinf, Option.map_some, Option.some.injEq] at hs
  unfold vw vwA
  rcases hl with ⟨o, q, rfl, ho⟩ | ⟨rfl, rfl⟩ <;> rcases hh with ⟨o', q', rfl, ho'⟩ | ⟨rfl, rfl⟩
  ·simp only [execOp, hA.eval hx, hA.eval ho, hA.eval ho', Option.map_some, Option.map_none]
   simp [Instr.sliceAt, underlying, hu, Instr.slice, Instr.sliceBounds, Instr.sliceBound, asIntOf, h0, show 0 ≤ h by omega, h2, show ((h.toNat : Nat) : Int) = h by omega, h1, sizeOf, typeInfo, hinf, hs, go_sem]
  ·simp only [execOp, hA.eval hx, hA.eval ho, Option.map_some, Option.map_none]
   simp [Instr.sliceAt, underlying, hu, Instr.slice, Instr.sliceBounds, Instr.sliceBound, asIntOf, h0, h1, sizeOf, typeInfo, hinf, hs, go_sem]
  ·simp only [execOp, hA.eval hx, hA.eval ho', Option.map_some, Option.map_none]
   simp [Instr.sliceAt, underlying, hu, Instr.slice, Instr.sliceBounds, Instr.sliceBound, asIntOf, h1, h2, sizeOf, typeInfo, hinf, go_sem]
  ·simp only [execOp, hA.eval hx, Option.map_none]
   simp [Instr.sliceAt, underlying, hu, Instr.slice, Instr.sliceBounds, sizeOf, typeInfo, hinf, go_sem]
theorem slice3_run {dst : Option Nat} {T E ty : TypeId} {x o1 o2 o3 : Operand} {pos : String} {after : Array Edge} {gd : Option (Nat × Bool)} {a : Option Addr} {k c size : Nat} {k1 k2 k3 : IntKind} {l h q : Int}
  (hx : val m x = some (.slice a k c)) (hu : P.underlying T = some (.slice E)) (hs : (P.info? E).map (·.size) = some size)
  (ho1 : val m o1 = some (.int k1 l)) (ho2 : val m o2 = some (.int k2 h)) (ho3 : val m o3 = some (.int k3 q)) (h0 : 0 ≤ l) (h1 : l ≤ h) (h2 : h ≤ q) (h3 : q ≤ (c : Int)) : Yields P n w0 m H g ⟨dst, .slice T x (some o1) (some o2) (some o3), ty, pos, after, gd⟩ (vw a size q.toNat l.toNat h.toNat) := fun ac W hA hW => by
 cases hinf : P.info? E with
 | none => simp [hinf] at hs
 | some inf =>
  simp only [hinf, Option.map_some, Option.some.injEq] at hs
  unfold vw vwA
  simp only [execOp, hA.eval hx, hA.eval ho1, hA.eval ho2, hA.eval ho3, Option.map_some]
  simp [Instr.sliceAt, underlying, hu, Instr.slice, Instr.sliceBounds, Instr.sliceBound, asIntOf, h0, show 0 ≤ h by omega, show 0 ≤ q by omega, h2, h3, show ((h.toNat : Nat) : Int) = h by omega, show ((q.toNat : Nat) : Int) = q by omega, h1, sizeOf, typeInfo, hinf, hs, go_sem]
/-- a row of the call's own is written: the cells ys for what was there; from then on the slice has k' elements -/
theorem StW.rewr {W : World} {E : TypeId} {size k k' b c : Nat} {xs : List Value} {cur : Array Value} (hW : StW w0 H g W) {i : Nat} (hi : H[i]? = some (.own (.slice (some ⟨b, 0, none⟩) k c) E size k xs))
  (hh : W.heap[b]? = some (.cells cur E)) (hmax : c ≤ maxLen) (ys : List Value) (hy : ys.length = c * size) (hk : k' ≤ c) :
  StW w0 (H.set i (.own (.slice (some ⟨b, 0, none⟩) k' c) E size k' (ys.take (k' * size)))) g (W.setRow b ys.toArray) := by
 refine hW.grown hi ⟨rfl, rfl, rfl, by simp [World.setRow], fun q _ hq => setRow_other W b q _ (fun e => hq (by simp [Ent.block, Value.ownBlock, e]))⟩ ?_ (.inl rfl)
 refine ⟨?_, .inr ⟨b, c, _, rfl, Nat.zero_le _, setRow_heap W b cur _ E _ hh, hk, hmax, by simpa using hy, by simp⟩⟩
 rw [List.length_take, hy]
 exact Nat.min_eq_left (Nat.mul_le_mul_right _ hk)
theorem RepL.drop {e : Ty} : ∀ {l : List e.den} {xs : List Value} (k : Nat), RepL g e xs l → RepL g e (xs.drop (k * e.size)) (l.drop k)
 | l, xs, 0, h => by rw [Nat.zero_mul, List.drop_zero, List.drop_zero]; exact h
 | [], xs, k + 1, h => by rw [show xs = [] from h]; simp; rfl
 | x :: l, xs, k + 1, ⟨c, r, h1, h2, h3⟩ => by
  rw [h1, Nat.succ_mul, Nat.add_comm, ← h2.size, List.drop_length_add_append, List.drop_succ_cons]
  rw [h2.size]
  exact RepL.drop k h3
theorem RepL.app {e : Ty} : ∀ {l l' : List e.den} {xs ys : List Value}, RepL g e xs l → RepL g e ys l' → RepL g e (xs ++ ys) (l ++ l')
 | [], _, _, _, h, h' => by rw [show _ = [] from h]; exact h'
 | x :: l, l', _, ys, ⟨c, r, h1, h2, h3⟩, h' => ⟨c, r ++ ys, by rw [h1, List.append_assoc], h2, RepL.app h3 h'⟩
theorem RepL.len {e : Ty} : ∀ {l : List e.den} {xs : List Value}, RepL g e xs l → xs.length = l.length * e.size
 | [], _, h => by rw [show _ = [] from h]; simp
 | x :: l, _, ⟨c, r, h1, h2, h3⟩ => by rw [h1, List.length_append, h2.size, RepL.len h3, List.length_cons, Nat.succ_mul]; omega
theorem RepL.rep {e : Ty} {cs : List Value} {y : e.den} (h : Rep g e cs y) : ∀ k, RepL g e (List.replicate k cs).flatten (List.replicate k y)
 | 0 => rfl
 | k + 1 => ⟨cs, _, by rw [List.replicate_succ, List.flatten_cons], h, RepL.rep h k⟩
theorem zeroCells_rep (z : Array Value) : ∀ k, (Builtin.zeroCells z k).toList = (List.replicate k z.toList).flatten := fun k => by
 have hfl : ∀ k, (List.replicate k z.toList).flatten.length = k * z.size := fun k => by simp
 apply List.ext_getElem?
 intro j
 by_cases hj : j < k * z.size
 ·have hpos : 0 < z.size := Nat.pos_of_ne_zero fun h => by rw [h, Nat.mul_zero] at hj; omega
  have key : ∀ (k j : Nat), j < k * z.size → (List.replicate k z.toList).flatten[j]? = z.toList[j % z.size]? := by
   intro k
   induction k with
   | zero => intro j hj; simp at hj
   | succ k ih =>
    intro j hj
    rw [List.replicate_succ, List.flatten_cons, List.getElem?_append]
    split
    ·rename_i hlt; rw [Array.length_toList] at hlt; rw [Nat.mod_eq_of_lt hlt]
    ·rename_i hge
     rw [Array.length_toList] at hge ⊢
     rw [ih (j - z.size) (by rw [Nat.succ_mul] at hj; omega)]
     rw [Nat.mod_eq_sub_mod (by omega : z.size ≤ j)]
  rw [key k j hj]
  have hmod := Nat.mod_lt j hpos
  simp only [Builtin.zeroCells, Array.toList_map, Array.toList_range, List.getElem?_map]
  rw [List.getElem?_range hj]
  simp only [Option.map_some]
  rw [Array.getElem?_toList, getElem!_pos z (j % z.size) hmod, Array.getElem?_eq_getElem hmod]
 ·rw [List.getElem?_eq_none (by simp only [Builtin.zeroCells, Array.toList_map, Array.toList_range, List.length_map, List.length_range]; omega), List.getElem?_eq_none (by rw [hfl]; omega)]
/-- what is written in the middle of a row, seen from its beginning -/
theorem mid_take (cur vs : List Value) (o q : Nat) (h : o + vs.length ≤ q) (hq : q ≤ cur.length) : (cur.take o ++ vs ++ cur.drop (o + vs.length)).take q = (cur.take q).take o ++ vs ++ (cur.take q).drop (o + vs.length) := by
 have h1 : (cur.take o).length = o := by rw [List.length_take]; omega
 rw [List.take_append, List.take_of_length_le (by rw [List.length_append, h1]; omega), List.length_append, h1, List.take_take, Nat.min_eq_left (by omega), List.drop_take]
end
end Go.Eng
