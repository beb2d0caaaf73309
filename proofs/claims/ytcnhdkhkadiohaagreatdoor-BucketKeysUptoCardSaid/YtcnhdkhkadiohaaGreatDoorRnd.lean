/-
 Parts of a slice of the call's own, as the library's functions on slices cut them: what lies behind a part is not forgotten. No program in sight.
-/
import Derived.Test.YtcnhdkhkadiohaaGreatDoorTri
import Derived.Lib.SliceRun
import Derived.Laws.CopyRow
import Derived.Lib.AppendZerosOnto
import Derived.Lib.Overlaps
import Derived.Laws.Externs
import Derived.Test.YtcnhdkhkadiohaaGreatDoorOwn
import Derived.Test.YtcnhdkhkadiohaaGreatDoorSto
import Derived.LoopN
namespace Go.Eng
open Go.RowKit (Below)
def vwA (a : Option Addr) (size lo c : Nat) : Option Addr := if c = lo then a else a.map (·.add (lo * size))
/-- the part from lo to hi of a slice whose row has room for c -/
def vw (a : Option Addr) (size c lo hi : Nat) : Value := .slice (vwA a size lo c) (hi - lo) (c - lo)
theorem vwA_some {b size lo c : Nat} : ∃ o, vwA (some ⟨b, 0, none⟩) size lo c = some ⟨b, o, none⟩ ∧ (lo < c → o = lo * size) := by
 unfold vwA
 split
 ·exact ⟨0, rfl, fun h => by omega⟩
 exact ⟨lo * size, by simp [Addr.add_plain], fun _ => rfl⟩
theorem own_open {W : World} {E : TypeId} {size n c : Nat} {a : Option Addr} {xs : List Value} (h : W.ownsRow 0 E size (.slice a n c) n xs) :
  (a = none ∧ n = 0 ∧ c = 0) ∨ ∃ b cur, a = some ⟨b, 0, none⟩ ∧ W.heap[b]? = some (.cells cur E) ∧ n ≤ c ∧ c ≤ maxLen ∧ cur.size = c * size ∧ cur.toList.take (n * size) = xs := by
 rcases h.2 with ⟨he, hl⟩ | ⟨b, cap, cur, he, hB, hh, hcap, hmax, hsize, htake⟩
 ·simp only [Value.slice.injEq] at he
  exact .inl ⟨he.1, hl, he.2.2⟩
 simp only [Value.slice.injEq, true_and] at he
 obtain ⟨rfl, rfl⟩ := he
 exact .inr ⟨b, cur, rfl, hh, hcap, hmax, hsize, htake⟩
section
variable {P : Program} {n : Fsz} {w0 : Base} {m : Env} {H : List Ent} {g : Ghost} {R : Act → World → Prop} {Q : Exit → Act → World → Prop} {ops : Array Oper}
theorem Ok.capOwn {a : Option Addr} {E : TypeId} {size k c : Nat} {xs : List Value} (i : Nat) (hi : H[i]? = some (.own (.slice a k c) E size k xs)) (h : k ≤ c → c ≤ maxLen → Ok n w0 m H g R) : Ok n w0 m H g R := fun ac W hA hW => by
 have hok : W.ownsRow 0 E size (.slice a k c) k xs := hW.ents _ (List.mem_of_getElem? hi)
 rcases own_open hok with ⟨-, h1, h2⟩ | ⟨b, cur, -, -, h1, h2, -⟩
 ·exact h om (by rw [h2]; exact Nat.zero_le _) ac W hA hW
 exact h h1 h2 ac W hA hW
theorem slice_run {dst : Option Nat} {T E ty : TypeId} {x : Operand} {lo hi : Option Operand} {pos : String} {after : Array Edge} {gd : Option (Nat × Bool)} {a : Option Addr} {k c size : Nat} {l h : Int}
  (hx : val m x = some (.slice a k c)) (hu : P.underlying T = some (.slice E)) (hs : (P.info? E).map (·.size) = some size)
  (hl : (∃ o k, lo = some o ∧ val m o = some (.int k l)) ∨ (lo = none ∧ l = 0)) (hh : (∃ o k, hi = some o ∧ val m o = some (.int k h)) ∨ (hi = none ∧ h = (k : Int)))
  (h0 : 0 ≤ l) (h1 : l ≤ h) (h2 : h ≤ (c : Int)) : Yields P n w0 m H g ⟨dst, .slice T x lo hi none, ty, pos, after, gd⟩ (vw a size c l.toNat h.toNat) := fun ac W hA hW => by
 cases hinf : P.info? E with
 | none => simp [hinf] at hs
 | some inf =>
  simp only [hinf, Option.map_some, Option.some.injEq] at hs
  unfold vw vwA
  rcases hl with ⟨o, q, rfl, ho⟩ | ⟨rfl, rfl⟩ <;> rcases hh with ⟨o', q', rfl, ho'⟩ | ⟨rfl, rfl⟩
  ·simp only [execOp, hA.eval hx, hA.eval ho, hA.eval ho', Option.map_some, Option.map_none]
   simp [Instr.sliceAt, underlying, hu, Instr.slice, Instr.sliceBounds, Instr.sliceBound, asIntOf, h0, show 0 ≤ h by omega, h2, show ((h.toNat : Nat) : Int) = h by omega, h1, sizeOf, typeInfo, hinf, hs, go_sem]
  ·simp only [execOp, hA.eval hx, hA.eval ho, Option.map_some, Option.map_none]
   simp [Instr.sliceAt, underlying, hu, Instr.slice, Instr.sliceBounds, Instr.sliceBound, asIntOf, h0, h1, sizeOf, typeInfo, hinf, hs, go_sem]
  ·simp only [execOp, hA.eval hx, hA.eval ho', Option.map_some, Option.map_none]
   simp [Instr.sliceAt, underlying, hu, Instr.slice, Instr.sliceBounds, Instr.sliceBound, asIntOf, h1, h2, sizeOf, typeInfo, hinf, go_sem]
  simp only [execOp, hA.eval hx, Option.map_none]
  simp [Instr.sliceAt, underlying, hu, Instr.slice, Instr.sliceBounds, sizeOf, typeInfo, hinf, go_sem]
/-- a row of the call's own is written: the cells ys for what was there; from then on the slice has k' elements -/
theorem StW.rewr {W : World} {E : TypeId} {size k k' b c : Nat} {xs : List Value} {cur : Array Value} (hW : StW w0 H g W) {i : Nat} (hi : H[i]? = some (.own (.slice (some ⟨b, 0, none⟩) k c) E size k xs))
  (hh : W.heap[b]? = some (.cells cur E)) (hmax : c ≤ maxLen) (ys : List Value) (hy : ys.length = c * size) (hk : k' ≤ c) :
  StW w0 (H.set i (.own (.slice (some ⟨b, 0, none⟩) k' c) E size k' (ys.take (k' * size)))) g (W.setRow b ys.toArray) := by
 refine hW.grown hi ⟨rfl, rfl, rfl, by simp [World.setRow], fun q _ hq => setRow_other W b q _ (fun e => hq (by simp [Ent.block, Value.ownBlock, e]))⟩ ?_ (.inl rfl)
 refine ⟨?_, .inr ⟨b, c, _, rfl, Nat.zero_le _, setRow_heap W b cur _ E _ hh, hk, hmax, by simpa using hy, by simp⟩⟩
 rw [List.length_take, hy]
 exact Nat.min_eq_left (Nat.mul_le_mul_right _ hk)
theorem RepL.drop {e : Ty} : ∀ {l : List e.den} {xs : List Value} (k : Nat), RepL g e xs l → RepL g e (xs.drop (k * e.size)) (l.drop k)
 | l, xs, 0, h => by rw [Nat.zero_mul, List.drop_zero, List.drop_zero]; exact h
 | [], xs, k + 1, h => by rw [show xs = [] from h]; simp; rfl
 | x :: l, xs, k + 1, ⟨c, r, h1, h2, h3⟩ => by
  rw [h1, Nat.succ_mul, Nat.add_comm, ← h2.size, List.drop_length_add_append, List.drop_succ_cons]
  rw [h2.size]
  exact RepL.drop k h3
theorem RepL.app {e : Ty} : ∀ {l l' : List e.den} {xs ys : List Value}, RepL g e xs l → RepL g e ys l' → RepL g e (xs ++ ys) (l ++ l')
 | [], _, _, _, h, h' => by rw [show _ = [] from h]; exact h'
 | x :: l, l', _, ys, ⟨c, r, h1, h2, h3⟩, h' => ⟨c, r ++ ys, by rw [h1, List.append_assoc], h2, RepL.app h3 h'⟩
theorem RepL.len {e : Ty} : ∀ {l : List e.den} {xs : List Value}, RepL g e xs l → xs.length = l.length * e.size
 | [], _, h => by rw [show _ = [] from h]; simp
 | x :: l, _, ⟨c, r, h1, h2, h3⟩ => by rw [h1, List.length_append, h2.size, RepL.len h3, List.length_cons, Nat.succ_mul]; omega
/-- what is written in the middle of a row, seen from its beginning -/
theorem mid_take (cur vs : List Value) (o q : Nat) (h : o + vs.length ≤ q) (hq : q ≤ cur.length) : (cur.take o ++ vs ++ cur.drop (o + vs.length)).take q = (cur.take q).take o ++ vs ++ (cur.take q).drop (o + vs.length) := by
 have h1 : (cur.take o).length = o := by rw [List.length_take]; omega
 rw [List.take_append, List.take_of_length_le (by rw [List.length_append, h1]; omega), List.length_append, h1, List.take_take, Nat.min_eq_left om, List.drop_take]
end
end Go.Eng
namespace Go.Eng
open Go.RowKit (Below)
section
variable {P : Program} {n : Fsz} {w0 : Base} {m : Env} {H : List Ent} {g : Ghost} {R : Act → World → Prop} {Q : Exit → Act → World → Prop} {ops : Array Oper}
/-- copy, at whatever size of elements -/
theorem run_copyK {T E ty : TypeId} {inf : TypeInfo} {size : Nat} (hu : P.underlying T = some (.slice E)) (h1 : P.info? E = some inf) (h2 : inf.size = size) {a a' : Addr} {k1 c1 k2 c2 k : Nat} {W W' : World} {cs : List Value}
  (hmin : Nat.min k2 k1 = k) (hload : (loadCells a' (k * size)).run P W = .ok cs.toArray W) (hst : k ≠ 0 → (storeCells a cs 0).run P W = .ok () W') (h0 : k = 0 → cs = [] ∧ W' = W) :
  (Builtin.copy_ #[T, T] ty #[.slice (some a) k1 c1, .slice (some a') k2 c2]).run P W = .ok (goInt k) W' := by
 have hst' : (storeCells a cs 0).run P W = .ok () W' := by
  by_cases hk : k = 0
  ·obtain ⟨rfl, rfl⟩ := h0 hk; rfl
  exact hst hk
 simp [Builtin.copy_, run_underlying hu, Builtin.lenOf, Builtin.firstCells, sizeOf, typeInfo, h1, h2, hmin, hload, hst']
/-- copy of nothing -/
theorem run_copy0 {W : World} {T E ty : TypeId} {inf : TypeInfo} (hu : P.underlying T = some (.slice E)) (h1 : P.info? E = some inf) {a a' : Option Addr} {k1 c1 k2 c2 : Nat} (hmin : Nat.min k2 k1 = 0) :
  (Builtin.copy_ #[T, T] ty #[.slice a k1 c1, .slice a' k2 c2]).run P W = .ok (goInt (0 : Nat)) W := by
 have hl : ∀ (x : Addr), (loadCells x 0).run P W = .ok #[] W := fun x => by simpa using run_loadCells_list (P := P) W x [] (by simp)
 cases a <;> cases a' <;> simp [Builtin.copy_, run_underlying hu, Builtin.lenOf, Builtin.firstCells, sizeOf, typeInfo, h1, hmin, storeCells, hl]
/-- two slices of the call's own do not overlap -/
theorem Yields.apart {dst : Option Nat} {T B E ty : TypeId} {x y : Operand} {pos : String} {after : Array Edge} {gd : Option (Nat × Bool)} {a a2 : Option Addr} {k k2 c c2 size lo hi : Nat} {f : FuncId} {fn : Func} {xs xs2 : List Value}
  (i j : Nat) (hij : Nat.beq i j = false) (hi' : H[i]? = some (.own (.slice a k c) E size k xs)) (hj : H[j]? = some (.own (.slice a2 k2 c2) E size k2 xs2)) (hx : val m x = some (.slice a k c)) (hy : val m y = some (vw a2 size c2 lo hi)) (hk : 0 < k) (hk2 : 0 < k2)
  (hu : P.underlying T = some (.slice E)) (hs : (P.info? E).map (·.size) = some size) (h1 : Nat.ble 1 size = true) (hf : P.funcs[f]? = some fn) (hname : (fn.name == "runtime.NumGoroutine") = false) (hb : fn.body.isNone = true) (hne : Extern.findNext fn = none) (he : Extern.find fn = some (Extern.SlicesOverlaps.overlaps #[T, T] #[B])) :
  Yields P n w0 m H g ⟨dst, .call { callee := .value (.func f), args := #[x, y], argTypes := #[T, T] }, ty, pos, after, gd⟩ (.bool false) := fun ac W hA hW => by
 obtain ⟨inf, h3, h4⟩ := Option.map_eq_some_iff.1 hs
 have h1 := Nat.le_of_ble_eq_true h1
 have hok : W.ownsRow 0 E size (.slice a k c) k xs := hW.ents _ (List.mem_of_getElem? hi')
 have hok2 : W.ownsRow 0 E size (.slice a2 k2 c2) k2 xs2 := hW.ents _ (List.mem_of_getElem? hj)
 rcases own_open hok with ⟨rfl, h8, h9⟩ | ⟨b, cur, rfl, hh, hc, hmax, hsz, htake⟩
 ·omega
 rcases own_open hok2 with ⟨rfl, h8, h9⟩ | ⟨b2, cur2, rfl, hh2, hc2, hmax2, hsz2, htake2⟩
 ·omega
 obtain ⟨o, ho, ho1⟩ := vwA_some (b := b2) (size := size) (lo := lo) (c := c2)
 have hbb : b ≠ b2 := fun e => by
  subst e
  have hne : i ≠ j := fun h => by rw [h, Nat.beq_refl] at hij; cases hij
  exact nodup_filterMap_clash hW.nodup hi' hj (fun h => hne h) rfl rfl
 have hcs : cur.size ≠ 0 := by rw [hsz]; exact Nat.pos_iff_ne_zero.1 (Nat.mul_pos om om)
 have hcs2 : cur2.size ≠ 0 := by rw [hsz2]; exact Nat.pos_iff_ne_zero.1 (Nat.mul_pos om om)
 have hov := Lib.run_overlaps_apart (P := P) W T B E hu size (fun w => by simp [sizeOf, typeInfo, h3, h4]) ⟨b, 0, none⟩ ⟨b2, o, none⟩ k c (hi - lo) (c2 - lo) hbb E E cur.size cur2.size (by simp [World.shape?, hh]) (by simp [World.shape?, hh2]) hcs2 (by simp [World.frozen?, hh]) (by simp [World.frozen?, hh])
 have hcall : (callFunc f #[.slice (some ⟨b, 0, none⟩) k c, .slice (some ⟨b2, o, none⟩) (hi - lo) (c2 - lo)]).run P W = .ok (.value (.bool false)) W := by
  rw [run_callFunc_extern hf hname hb hne he, hov]; rfl
 have hx' : ac.eval x = .slice (some ⟨b, 0, none⟩) k c := hA.eval hx
 have hy' : ac.eval y = .slice (some ⟨b2, o, none⟩) (hi - lo) (c2 - lo) := by rw [hA.eval hy, vw, ho]
 have hF : ac.eval (.func f) = .func (.func f) #[] #[] := rfl
 simp only [execOp, resolve, List.map_toArray, List.map_cons, List.map_nil, hx', hy', hF]
 simp [Deferred.ofValue, invoke, hcall]
end
end Go.Eng
namespace Go.Eng
open Go.RowKit (Below)
theorem StW.setCell {w0 : Base} {g : Ghost} {W : World} {b i : Nat} {cs : Array Value} {T : TypeId} (h : StW w0 [.blk b (.cells cs T)] g W) (v : Value) : StW w0 [.blk b (.cells (cs.setIfInBounds i v) T)] g (W.setCell ⟨b, i, none⟩ v) := by
 have hb : W.heap[b]? = some (.cells cs T) := h.ents (.blk b (.cells cs T)) (by simp)
 have e : W.setCell ⟨b, i, none⟩ v = W.setRow b (cs.setIfInBounds i v) := by
  show { W with heap := _ } = { W with heap := _ }
  congr 1
  apply Array.ext_getElem?
  intro k
  simp only [Array.getElem?_modify]
  split
  ·rename_i hk
   have hk : b = k := hk
   subst hk
   rw [hb]; rfl
  rfl
 rw [e]
 exact h.setRow (i := 0) rfl
theorem StW.drew {w0 : Base} {H : List Ent} {g : Ghost} {W : World} (h : StW w0 H g W) : StW w0 H g W.drew := ⟨fun e he => Ent.ok_of_block (h.ents e he) fun _ _ => rfl, h.nodup, h.ghost, h.apart, h.mine, ⟨h.below.os, h.below.tape, h.below.output, h.below.size, h.below.block⟩⟩
theorem StW.rebase {W W1 W2 : World} {L : List Nat} {H : List Ent} {g : Ghost} (h : StW ⟨W1, L⟩ H g W2) (hk : Kept ⟨W, L⟩ W1) : StW ⟨W, L⟩ H g W2 :=
 ⟨h.ents, h.nodup, h.ghost, h.apart, fun e he b hb => (h.mine e he b hb).imp_left (fun h1 => Nat.le_trans hk.size h1), ⟨h.below.os.trans hk.os, h.below.tape.trans hk.tape, h.below.output.trans hk.output, Nat.le_trans hk.size h.below.size,
  fun k hlt hl => (h.below.block k (Nat.lt_of_lt_of_le hlt hk.size) hl).trans (hk.block k hlt hl)⟩⟩
theorem Gext.rebase {W W1 : World} {L : List Nat} {g g' : Ghost} (h : Gext ⟨W1, L⟩ g g') (hk : Kept ⟨W, L⟩ W1) : Gext ⟨W, L⟩ g g' := ⟨h.1, fun b o hb => (h.2 b o hb).imp_right fun h1 => h1.imp_left fun h2 => Nat.le_trans hk.size h2⟩
theorem StW.lend1 {w0 : Base} {g : Ghost} {W : World} {b : Nat} {o : Obj} (h : StW w0 [.blk b o] g W) : StW ⟨W, [b]⟩ [.blk b o] g W :=
 ⟨h.ents, h.nodup, h.ghost, h.apart, fun e he k hk => by
  rcases List.mem_singleton.1 he with rfl
  cases hk; exact .inr (List.mem_singleton.2 rfl), Kept.refl _⟩
theorem StW.cellAt {w0 : Base} {g : Ghost} {W : World} {b : Nat} {cs : Array Value} {T : TypeId} (h : StW w0 [.blk b (.cells cs T)] g W) {i : Nat} {v : Value} (hv : cs[i]? = some v) : W.cell? ⟨b, i, none⟩ = some v := by
 have hb : W.heap[b]? = some (.cells cs T) := h.ents (.blk b (.cells cs T)) (by simp)
 show (match W.heap[b]? with | some (.cells c _ _) => if (none : Option _).isSome then none else c[i]? | _ => none) = _
 rw [hb]; exact hv
theorem StW.thawed {w0 : Base} {g : Ghost} {W : World} {b : Nat} {cs : Array Value} {T : TypeId} (h : StW w0 [.blk b (.cells cs T)] g W) (i : Nat) : W.frozen? ⟨b, i, none⟩ = false := by
 have hb : W.heap[b]? = some (.cells cs T) := h.ents (.blk b (.cells cs T)) (by simp)
 show (match W.heap[b]? with | some (.cells _ _ (lo, hi)) => decide (lo ≤ i) && decide (i < hi) | _ => false) = _
 rw [hb]; simp
end Go.Eng
namespace Go.Eng
open Go.RowKit (Below)
section
variable {P : Program} {n : Fsz} {w0 : Base} {m : Env} {H : List Ent} {g : Ghost} {R : Act → World → Prop} {Q : Exit → Act → World → Prop}
theorem Ok.rounds {c : Code} (k : Nat) (h : Ok n w0 m H g (Code.rounds P c Q k)) : Ok n w0 m H g ((Code.loop c).wp P Q) := fun a W hA hW => wp_loop_rounds k (h a W hA hW)
theorem Ok.round {c : Code} {k : Nat} (h : Ok n w0 m H g (c.wp P (Exit.then (Code.rounds P c Q k) Q))) : Ok n w0 m H g (Code.rounds P c Q (k + 1)) := h
/-- a block is not written any more -/
theorem Ok.frzBlk {b : Nat} {cs : Array Value} {T : TypeId} {H' : List Ent} (i : Nat) (hi : H[i]? = some (.blk b (.cells cs T))) (hH : H.eraseIdx i = H')
  (h : ∀ g', Gext w0 g g' → g' b = some (.cells cs T) → Ok n w0 m H' g' R) : Ok n w0 m H g R := fun ac W hA hW => by
 have hmem := List.mem_of_getElem? hi
 have hok : W.heap[b]? = some (.cells cs T) := hW.ents _ hmem
 have hgb : g b = none := hW.apart _ hmem b rfl
 have hd := hW.drop i hH
 have hnot : ∀ x ∈ H', ∀ k, x.block = some k → k ≠ b := fun x hx k hk hc => by
  subst hc
  subst hH
  obtain ⟨j, hj⟩ := List.mem_iff_getElem?.1 hx
  rw [List.getElem?_eraseIdx] at hj
  split at hj
  ·rename_i hlt
   exact nodup_filterMap_clash hW.nodup hj hi om hk rfl
  rename_i hlt
  exact nodup_filterMap_clash hW.nodup hj hi om hk rfl
 have hle : Gle g (fun k => if k = b then some (.cells cs T) else g k) := fun k o hk => by
  show (if k = b then _ else _) = _
  split
  ·rename_i e; subst e; rw [hgb] at hk; cases hk
  exact hk
 refine h _ ⟨hle, fun k o hk => ?_⟩ (if_pos rfl) ac W hA ⟨hd.ents, hd.nodup, fun k o hk => ?_, fun x hx k hk => ?_, hd.mine, hd.below⟩
 ·have hk : (if k = b then some _ else g k) = some o := hk
  split at hk
  ·rename_i e; subst e; exact .inr (hW.mine _ hmem k rfl)
  exact .inl hk
 ·have hk : (if k = b then some _ else g k) = some o := hk
  by_cases e : k = b
  ·rw [if_pos e] at hk; injection hk with hk; subst hk; subst e; exact hok
  rw [if_neg e] at hk; exact hW.ghost k o hk
 show (if k = b then _ else _) = _
 rw [if_neg (hnot x hx k hk)]
 exact hd.apart x hx k hk
/-- 'make' of no elements, with room for k -/
theorem OpOk.makeCap {K : Act → World → Prop} {d : Nat} {T E ty : TypeId} {x1 x2 : Operand} {pos : String} {after : Array Edge} {gd : Option (Nat × Bool)} {e : Ty} {kl kc : IntKind} (bytes k : Nat) (hx : val m x1 = some (.int kl 0)) (hx2 : val m x2 = some (.int kc (k : Int)))
  (hu : P.underlying T = some (.slice E)) (hinf : (P.info? E).map (fun i => (i.size, i.bytes, i.zero.isSome)) = some (e.size, bytes, true)) (hcap : (Nat.ble k maxLen && Nat.ble (bytes * k) 281474976710656) = true) (hn : Nat.ble (d + 1) n = true)
  (h : ∀ b, Ok n w0 ((d, .slice (some ⟨b, 0, none⟩) ([] : List e.den).length k) :: m) (.own (.slice (some ⟨b, 0, none⟩) ([] : List e.den).length k) E e.size ([] : List e.den).length [] :: H) g K) :
  OpOk P K Q ⟨some d, .makeSlice T x1 x2, ty, pos, after, gd⟩ n w0 m H g := fun ac W hA hW => by
 rw [Bool.and_eq_true] at hcap
 obtain ⟨inf, i1, i2⟩ := Option.map_eq_some_iff.1 hinf
 simp only [Prod.mk.injEq] at i2
 obtain ⟨i3, i4, i5⟩ := i2
 obtain ⟨z', i6⟩ := Option.isSome_iff_exists.1 i5
 obtain ⟨W', r1, r2, r3⟩ := run_make_own (P := P) W 0 T E inf z' e.size hu i1 i6 i3 kl kc k (by rw [i4]; exact Nat.le_of_ble_eq_true hcap.2) (Nat.le_of_ble_eq_true hcap.1) (Nat.zero_le _)
 show Oper.upon P _ ac _ Q (Sem.run P (execOp ac.eval _) W)
 have e1 : (execOp ac.eval ⟨some d, .makeSlice T x1 x2, ty, pos, after, gd⟩).run P W = .ok (.value (.slice (some ⟨W.heap.size, 0, none⟩) 0 k)) W' := by
  simp only [execOp, hA.eval hx, hA.eval hx2, Sem.run_bind, r1, Result.andThen]; rfl
 rw [e1, Oper.upon_value]
 have h := h W.heap.size
 refine h _ W' (hA.put (Nat.le_of_ble_eq_true hn) _) ⟨fun x hx => ?_, ?_, fun b o hb => ?_, fun x hx b hb => ?_, fun x hx b hb => ?_, hW.below.grown r3 (by simp)⟩
 ·rcases List.mem_cons.1 hx with rfl | hx
  ·exact r2
  exact Ent.ok_of_block (hW.ents x hx) fun b hb => r3.block b (Ent.ok_lt (hW.ents x hx) hb) (by simp)
 ·show (List.filterMap Ent.block (_ :: H)).Nodup
  simp only [List.filterMap_cons, Ent.block, Value.ownBlock, List.nodup_cons]
  refine ⟨fun hc => ?_, hW.nodup⟩
  obtain ⟨x, hx, hb⟩ := List.mem_filterMap.1 hc
  exact absurd (Ent.ok_lt (hW.ents x hx) hb) (Nat.lt_irrefl _)
 ·rw [r3.block b (lt_of_some (hW.ghost b o hb)) (by simp)]; exact hW.ghost b o hb
 ·rcases List.mem_cons.1 hx with rfl | hx
  ·simp only [Ent.block, Value.ownBlock, Option.some.injEq] at hb
   subst hb
   cases hc : g W.heap.size with
   | none => rfl
   | some o => exact absurd (lt_of_some (hW.ghost _ _ hc)) (Nat.lt_irrefl _)
  exact hW.apart x hx b hb
 rcases List.mem_cons.1 hx with rfl | hx
 ·simp only [Ent.block, Value.ownBlock, Option.some.injEq] at hb
  subst hb
  exact .inl hW.below.size
 exact hW.mine x hx b hb
end
end Go.Eng
