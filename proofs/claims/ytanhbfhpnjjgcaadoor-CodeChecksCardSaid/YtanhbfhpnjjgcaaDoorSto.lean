import Derived.Test.YtanhbfhpnjjgcaaDoorMap
import Derived.Laws.IdiomStrings
import Derived.Laws.OwnMore
namespace Go.Eng
open Go.RowKit (Below)
section
variable {P : Program} {n : Fsz} {w0 : Base} {m : Env} {H : List Ent} {g : Ghost} {R : Act → World → Prop} {Q : Exit → Act → World → Prop} {ops : Array Oper}

theorem patch_eq {α : Type} {xs c v : List α} {o size j k : Nat} (hc : (xs.drop o).take size = c) (hj : j + k ≤ size) (hl : o + size ≤ xs.length) :
  xs.take o ++ (c.take j ++ v ++ c.drop (j + k)) ++ xs.drop (o + size) = xs.take (o + j) ++ v ++ xs.drop (o + j + k) := by
 subst hc
 have e1 : xs.take (o + j) = xs.take o ++ ((xs.drop o).take size).take j := by
  rw [List.take_add, List.take_take, Nat.min_eq_left (by omega)]
 have e2 : xs.drop (o + j + k) = ((xs.drop o).take size).drop (j + k) ++ xs.drop (o + size) := by
  have d1 : xs.drop (o + j + k) = (xs.drop o).drop (j + k) := by rw [List.drop_drop, Nat.add_assoc]
  have d2 : xs.drop (o + size) = (xs.drop o).drop size := by rw [List.drop_drop]
  rw [d1, d2]
  have h := List.take_append_drop size (xs.drop o)
  conv => lhs; rw [← h]
  rw [List.drop_append_of_le_length (by simp; omega)]
 rw [e1, e2]
 simp only [List.append_assoc]

theorem OpOk.storeOwn {K : Act → World → Prop} {T E ty : TypeId} {x y : Operand} {pos : String} {after : Array Edge} {gd : Option (Nat × Bool)} {e : Ty} {a : Option Addr} {l : List e.den} {c q : Nat} {xs cells vs : List Value} {v : Value} {el' : e.den}
  (i j k : Nat) (hi : H[i]? = some (.own (.slice a l.length c) E e.size l.length xs)) (hR : RepL g e xs l) (hc : ∀ j v, cells[j]? = some v → xs[q * e.size + j]? = some v) (hcl : Nat.beq cells.length e.size = true)
  (hx : val m x = some (.pointer (some ⟨ablk a, q * e.size + j, none⟩))) (hy : val m y = some v) (hv : v.cells.toList = vs) (hk : (P.info? T).map (·.size) = some k) (hvk : Nat.beq vs.length k = true) (hjk : Nat.ble (j + k) e.size = true) (hone : vs.all (·.oneCell') = true) (h1 : Nat.ble 1 e.size = true)
  (hR' : Rep g e (cells.take j ++ vs ++ cells.drop (j + k)) el')
  (h : ∀ xs2, RepL g e xs2 (l.set q el') → Ok n w0 m (H.set i (.own (.slice a (l.set q el').length c) E e.size (l.set q el').length xs2)) g K) :
  OpOk P K Q ⟨none, .store T x y, ty, pos, after, gd⟩ n w0 m H g := fun ac W hA hW => by
 have hcl := Nat.eq_of_beq_eq_true hcl
 have hvk := Nat.eq_of_beq_eq_true hvk
 have hjk := Nat.le_of_ble_eq_true hjk
 have h1 := Nat.le_of_ble_eq_true h1
 have hok : W.ownsRow 0 E e.size (.slice a l.length c) l.length xs := hW.ents _ (List.mem_of_getElem? hi)
 have hsz := hR.size
 have hlast := hc (e.size - 1) _ (List.getElem?_eq_getElem (by omega))
 have hlt : q * e.size + (e.size - 1) < xs.length := (List.getElem?_eq_some_iff.1 hlast).1
 have hq : q < l.length := by
  rcases Nat.lt_or_ge q l.length with h | h
  ·exact h
  ·have := Nat.mul_le_mul_right e.size h
   omega
 have hcs : (xs.drop (q * e.size)).take e.size = cells := by
  apply List.ext_getElem?
  intro p
  rw [List.getElem?_take, List.getElem?_drop]
  split
  ·rename_i hp
   have hp' : p < cells.length := by omega
   rw [hc p _ (List.getElem?_eq_getElem hp'), List.getElem?_eq_getElem hp']
  ·rw [List.getElem?_eq_none (by omega)]
 have hpatch := patch_eq (v := vs) (j := j) (k := k) hcs hjk (by omega)
 have hRn := hR.set hq hR'
 rw [hpatch] at hRn
 have hset : (l.set q el').length = l.length := List.length_set ..
 rcases hok.2 with ⟨he, hl0⟩ | ⟨b, cap, cur, he, hB, hh, hcap, hmax, hcsz, htake⟩
 ·omega
 ·simp only [Value.slice.injEq, true_and] at he
  obtain ⟨rfl, rfl⟩ := he
  have hN : l.length * e.size ≤ cur.size := by rw [hcsz]; exact Nat.mul_le_mul_right _ hcap
  show Oper.upon P _ ac _ Q (Sem.run P (execOp ac.eval _) W)
  have hrun := run_storeCells_at (P := P) b (q * e.size + j) E vs 0 cur W hh (by omega) (fun u hu => (List.all_eq_true.1 hone) u hu)
  simp only [Nat.add_zero, hvk] at hrun
  have e1 : (execOp ac.eval ⟨none, .store T x y, ty, pos, after, gd⟩).run P W = .ok .skip (W.setRow b (cur.toList.take (q * e.size + j) ++ vs ++ cur.toList.drop (q * e.size + j + k)).toArray) := by
   cases hinf : P.info? T with
   | none => simp [hinf] at hk
   | some inf =>
    simp only [hinf, Option.map_some, Option.some.injEq] at hk
    have hvs : v.cells.size = k := by rw [← hvk, ← hv]; simp
    have hx' : val m x = some (.pointer (some ⟨b, q * e.size + j, none⟩)) := hx
    simp only [execOp, Instr.storeAt, hA.eval hx', hA.eval hy, Instr.sureAddr, storeVar, sizeOf, typeInfo]
    simp [hinf, hk, hvs, hv, hrun]
  rw [e1, Oper.upon_skip]
  have hnew : (W.setRow b (cur.toList.take (q * e.size + j) ++ vs ++ cur.toList.drop (q * e.size + j + k)).toArray).ownsRow 0 E e.size (.slice (some ⟨b, 0, none⟩) (l.set q el').length c) (l.set q el').length (xs.take (q * e.size + j) ++ vs ++ xs.drop (q * e.size + j + k)) := by
   rw [hset]
   refine ⟨?_, .inr ⟨b, c, _, rfl, hB, setRow_heap W b cur _ E _ hh, hcap, hmax, ?_, ?_⟩⟩
   ·simp only [List.length_append, List.length_take, List.length_drop]
    omega
   ·simp only [List.size_toArray, List.length_append, List.length_take, List.length_drop, Array.length_toList]
    omega
   ·have hA1 : (cur.toList.take (q * e.size + j)).length = q * e.size + j := by simp; omega
    rw [← htake, List.take_take, Nat.min_eq_left (by omega), List.drop_take]
    rw [List.take_append, List.take_of_length_le (by simp; omega)]
    congr 1
    congr 1
    simp only [List.length_append, hA1, hvk]
  exact h _ hRn _ _ (hA.skip none (fun d hd => by cases hd) undef) (hW.grown (e' := .own (.slice (some ⟨b, 0, none⟩) (l.set q el').length c) E e.size (l.set q el').length (xs.take (q * e.size + j) ++ vs ++ xs.drop (q * e.size + j + k))) hi
   ⟨rfl, rfl, rfl, by simp [World.setRow], fun k' _ hk' => setRow_other W b k' _ (fun e => hk' (by simp [Ent.block, Value.ownBlock, e]))⟩ hnew (.inl (by rw [hset]; rfl)))

def lookRes (ok : Bool) (v : Value) (b : Bool) : Value := if ok = true then .tuple #[v, .bool b] else v

theorem OpOk.lookupSome {K : Act → World → Prop} {d : Nat} {T E KT ty : TypeId} {x ix : Operand} {pos : String} {after : Array Edge} {gd : Option (Nat × Bool)} {vt : Ty} {row ok : Bool} {b clock : Nat} {es : Array MapEntry} {κ : Type} [BEq κ] {kt : κ → Value} {l : List (κ × vt.den)} {k : κ} {kd : TypeDesc} {el : vt.den}
  (hL : KeyLaw kd kt) (i : Nat) (hi : H[i]? = some (.blk b (.map es clock))) (hM : RepMap g vt row kt es.toList l) (hx : val m x = some (.map (some b))) (hk : val m ix = some (kt k)) (hu : P.underlying T = some (.map KT E)) (hku : P.underlying KT = some kd) (he : assocK k l = some el) (hn : Nat.ble (d + 1) n = true)
  (h : ∀ v cells, ValIs row v cells → Rep g vt cells el → ∀ u, u = lookRes ok v true → Ok n w0 ((d, u) :: m) H g K) : OpOk P K Q ⟨some d, .lookup T x ix ok, ty, pos, after, gd⟩ n w0 m H g := by
 obtain ⟨v, cells, h1, h2, hy⟩ := lookup_some (P := P) (n := n) (w0 := w0) (dst := some d) (ty := ty) (pos := pos) (after := after) (gd := gd) (ok := ok) hL i hi hM hx hk hu hku he
 exact OpOk.step hy rfl hn (h v cells h1 h2 _ rfl)
theorem OpOk.lookupNone {K : Act → World → Prop} {d : Nat} {T E KT ty : TypeId} {x ix : Operand} {pos : String} {after : Array Edge} {gd : Option (Nat × Bool)} {vt : Ty} {row ok : Bool} {b clock : Nat} {es : Array MapEntry} {κ : Type} [BEq κ] {kt : κ → Value} {l : List (κ × vt.den)} {k : κ} {kd : TypeDesc} {z u : Value}
  (hL : KeyLaw kd kt) (i : Nat) (hi : H[i]? = some (.blk b (.map es clock))) (hM : RepMap g vt row kt es.toList l) (hx : val m x = some (.map (some b))) (hk : val m ix = some (kt k)) (hu : P.underlying T = some (.map KT E)) (hku : P.underlying KT = some kd) (hz : (P.info? E).bind (·.zero) = some z) (he : assocK k l = none)
  (hr : lookRes ok z false = u) (hn : Nat.ble (d + 1) n = true) (h : Ok n w0 ((d, u) :: m) H g K) : OpOk P K Q ⟨some d, .lookup T x ix ok, ty, pos, after, gd⟩ n w0 m H g := by
 subst hr
 exact OpOk.step (lookup_none (ok := ok) hL i hi hM hx hk hu hku hz he) rfl hn h
theorem OpQ.lookupSome {KQ : Act → Prop} {d : Nat} {T E KT ty : TypeId} {x ix : Operand} {pos : String} {after : Array Edge} {gd : Option (Nat × Bool)} {vt : Ty} {row ok : Bool} {b clock : Nat} {es : Array MapEntry} {κ : Type} [BEq κ] {kt : κ → Value} {l : List (κ × vt.den)} {k : κ} {kd : TypeDesc} {el : vt.den}
  (hL : KeyLaw kd kt) (i : Nat) (hi : H[i]? = some (.blk b (.map es clock))) (hM : RepMap g vt row kt es.toList l) (hx : val m x = some (.map (some b))) (hk : val m ix = some (kt k)) (hu : P.underlying T = some (.map KT E)) (hku : P.underlying KT = some kd) (he : assocK k l = some el) (hn : Nat.ble (d + 1) n = true)
  (h : ∀ v cells, ValIs row v cells → Rep g vt cells el → ∀ u, u = lookRes ok v true → OnA n ((d, u) :: m) KQ) : OpQ P KQ ⟨some d, .lookup T x ix ok, ty, pos, after, gd⟩ n w0 m H g := by
 obtain ⟨v, cells, h1, h2, hy⟩ := lookup_some (P := P) (n := n) (w0 := w0) (dst := some d) (ty := ty) (pos := pos) (after := after) (gd := gd) (ok := ok) hL i hi hM hx hk hu hku he
 exact OpQ.step hy rfl hn (h v cells h1 h2 _ rfl)
theorem OpQ.lookupNone {KQ : Act → Prop} {d : Nat} {T E KT ty : TypeId} {x ix : Operand} {pos : String} {after : Array Edge} {gd : Option (Nat × Bool)} {vt : Ty} {row ok : Bool} {b clock : Nat} {es : Array MapEntry} {κ : Type} [BEq κ] {kt : κ → Value} {l : List (κ × vt.den)} {k : κ} {kd : TypeDesc} {z u : Value}
  (hL : KeyLaw kd kt) (i : Nat) (hi : H[i]? = some (.blk b (.map es clock))) (hM : RepMap g vt row kt es.toList l) (hx : val m x = some (.map (some b))) (hk : val m ix = some (kt k)) (hu : P.underlying T = some (.map KT E)) (hku : P.underlying KT = some kd) (hz : (P.info? E).bind (·.zero) = some z) (he : assocK k l = none)
  (hr : lookRes ok z false = u) (hn : Nat.ble (d + 1) n = true) (h : OnA n ((d, u) :: m) KQ) : OpQ P KQ ⟨some d, .lookup T x ix ok, ty, pos, after, gd⟩ n w0 m H g := by
 subst hr
 exact OpQ.step (lookup_none (ok := ok) hL i hi hM hx hk hu hku hz he) rfl hn h

/-! ### texts and rows of bytes -/
def bytesOf (l : List Int) : List UInt8 := l.map fun x => UInt8.ofNat x.toNat
theorem repL_ints {kd : IntKind} : ∀ {l : List Int} {xs : List Value}, RepL g (.int kd) xs l → xs = l.map (Value.int kd)
 | [], _, h => h
 | x :: l, _, ⟨c, r, h1, h2, h3⟩ => by
  rw [h1, show c = _ from h2, repL_ints h3]; rfl

/-- 'make' of n zero elements -/
theorem OpOk.makeZero {K : Act → World → Prop} {d : Nat} {T E ty : TypeId} {x1 x2 : Operand} {pos : String} {after : Array Edge} {gd : Option (Nat × Bool)} {e : Ty} {nn : Int} {y : e.den} {z : Value} {kl kc : IntKind} (bytes cap : Nat) (hx : val m x1 = some (.int kl nn)) (hx2 : val m x2 = some (.int kc nn))
  (hu : P.underlying T = some (.slice E)) (hinf : (P.info? E).map (fun i => (i.size, i.bytes, i.zero.map (·.cells.toList))) = some (e.size, bytes, some z.cells.toList)) (h1 : Nat.ble 1 e.size = true) (hcap : (Nat.ble cap maxLen && Nat.ble (bytes * cap) 281474976710656) = true) (hR : Rep g e z.cells.toList y)
  (h0 : 0 ≤ nn) (hle : nn ≤ cap) (hn : Nat.ble (d + 1) n = true)
  (h : ∀ a c xs, RepL g e xs (List.replicate nn.toNat y) → Ok n w0 ((d, .slice a (List.replicate nn.toNat y).length c) :: m) (.own (.slice a (List.replicate nn.toNat y).length c) E e.size (List.replicate nn.toNat y).length xs :: H) g K) :
  OpOk P K Q ⟨some d, .makeSlice T x1 x2, ty, pos, after, gd⟩ n w0 m H g := fun ac W hA hW => by
 rw [Bool.and_eq_true] at hcap
 obtain ⟨inf, i1, i2⟩ := Option.map_eq_some_iff.1 hinf
 simp only [Prod.mk.injEq] at i2
 obtain ⟨i3, i4, i5⟩ := i2
 obtain ⟨z', i6, i7⟩ := Option.map_eq_some_iff.1 i5
 have h1 := Nat.le_of_ble_eq_true h1
 obtain ⟨k, rfl⟩ : ∃ k : Nat, nn = k := ⟨nn.toNat, by omega⟩
 have hk : k ≤ cap := by omega
 have hb : inf.bytes * k ≤ 281474976710656 := by rw [i4]; exact Nat.le_trans (Nat.mul_le_mul_left _ hk) (Nat.le_of_ble_eq_true hcap.2)
 have hm : k ≤ maxLen := Nat.le_trans hk (Nat.le_of_ble_eq_true hcap.1)
 obtain ⟨W', r1, r2, r3⟩ := run_make_full (P := P) W 0 T E inf z' e.size hu i1 i6 i3 kl kc k hb hm (Nat.zero_le _)
 show Oper.upon P _ ac _ Q (Sem.run P (execOp ac.eval _) W)
 have e1 : (execOp ac.eval ⟨some d, .makeSlice T x1 x2, ty, pos, after, gd⟩).run P W = .ok (.value (.slice (some ⟨W.heap.size, 0, none⟩) k k)) W' := by
  simp only [execOp, hA.eval hx, hA.eval hx2, Sem.run_bind, r1, Result.andThen]; rfl
 rw [e1, Oper.upon_value]
 simp only [Int.toNat_natCast] at h
 have hzs : z.cells.toList.length = e.size := hR.size
 have hmade : ∀ k, (madeCells z'.cells (k * e.size)).toList = (List.replicate k z.cells.toList).flatten := fun k => by
  have hzz : z'.cells.toList = z.cells.toList := i7
  have hsz : z'.cells.size = e.size := by rw [← Array.length_toList, hzz, hzs]
  apply List.ext_getElem?
  intro j
  have hfl : (List.replicate k z.cells.toList).flatten.length = k * e.size := by simp [hzs]
  by_cases hj : j < k * e.size
  ·have hpos : 0 < e.size := h1
   have hmod : j % e.size < e.size := Nat.mod_lt _ hpos
   have e2 : (List.replicate k z.cells.toList).flatten[j]? = z.cells.toList[j % e.size]? := by
    have key : ∀ (k j : Nat), j < k * e.size → (List.replicate k z.cells.toList).flatten[j]? = z.cells.toList[j % e.size]? := by
     intro k
     induction k with
     | zero => intro j hj; simp at hj
     | succ k ih =>
      intro j hj
      rw [List.replicate_succ, List.flatten_cons, List.getElem?_append]
      split
      ·rename_i hlt; rw [hzs] at hlt; rw [Nat.mod_eq_of_lt hlt]
      ·rename_i hge
       rw [hzs] at hge ⊢
       rw [ih (j - e.size) (by rw [Nat.succ_mul] at hj; omega)]
       rw [Nat.mod_eq_sub_mod (by omega : e.size ≤ j)]
    exact key k j hj
   rw [e2]
   simp only [madeCells, Array.toList_map, Array.toList_range, List.getElem?_map, hsz]
   rw [List.getElem?_range hj]
   simp only [Option.map_some]
   rw [← hzz, Array.getElem?_toList, getElem!_pos z'.cells (j % e.size) (by omega), Array.getElem?_eq_getElem (by omega)]
  ·rw [List.getElem?_eq_none (by rw [Array.length_toList, size_madeCells]; omega), List.getElem?_eq_none (by rw [hfl]; omega)]
 have hrep : ∀ k, RepL g e ((List.replicate k z.cells.toList).flatten) (List.replicate k y) := fun k => by
  induction k with
  | zero => rfl
  | succ k ih => exact ⟨z.cells.toList, _, by rw [List.replicate_succ, List.flatten_cons], hR, ih⟩
 rw [hmade k] at r2
 have h := h (some ⟨W.heap.size, 0, none⟩) k _ (hrep k)
 simp only [List.length_replicate] at h
 refine h _ W' (hA.put (Nat.le_of_ble_eq_true hn) _) ⟨fun x hx => ?_, ?_, fun b o hb => ?_, fun x hx b hb => ?_, fun x hx b hb => ?_, hW.below.grown r3 (by simp)⟩
 ·rcases List.mem_cons.1 hx with rfl | hx
  ·exact r2
  ·exact Ent.ok_of_block (hW.ents x hx) fun b hb => r3.block b (Ent.ok_lt (hW.ents x hx) hb) (by simp)
 ·show (List.filterMap Ent.block (_ :: H)).Nodup
  simp only [List.filterMap_cons, Ent.block, Value.ownBlock, List.nodup_cons]
  refine ⟨fun hc => ?_, hW.nodup⟩
  obtain ⟨x, hx, hb⟩ := List.mem_filterMap.1 hc
  exact absurd (Ent.ok_lt (hW.ents x hx) hb) (Nat.lt_irrefl _)
 ·rw [r3.block b (lt_of_some (hW.ghost b o hb)) (by simp)]; exact hW.ghost b o hb
 ·rcases List.mem_cons.1 hx with rfl | hx
  ·simp only [Ent.block, Value.ownBlock, Option.some.injEq] at hb
   subst hb
   cases hc : g W.heap.size with
   | none => rfl
   | some o => exact absurd (lt_of_some (hW.ghost _ _ hc)) (Nat.lt_irrefl _)
  ·exact hW.apart x hx b hb
 ·rcases List.mem_cons.1 hx with rfl | hx
  ·simp only [Ent.block, Value.ownBlock, Option.some.injEq] at hb
   subst hb
   exact .inl hW.below.size
  ·exact hW.mine x hx b hb
end
end Go.Eng
