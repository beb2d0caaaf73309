/- []byte(s) that is written to: its row bears the mark of a conversion, behind its last cell. -/
import Derived.Test.YtdjcgbejnpbjlaaGreatDoorSto
namespace Go.Eng
open Go.RowKit (Below)
section
variable {P : Program} {n : Fsz} {w0 : Base} {m : Env} {H : List Ent} {g : Ghost} {R : Act → World → Prop} {Q : Exit → Act → World → Prop} {ops : Array Oper}

/-- a new row of the call's own -/
theorem StW.pushB {W W' : World} {v : Value} {E : TypeId} {k : Nat} {xs : List Value} (h : StW w0 H g W) (hg : W.grownBy W' none) (hb : v.ownBlock = some W.heap.size) (hok : (Ent.ownb v E k xs).ok W') : StW w0 (.ownb v E k xs :: H) g W' := by
 have hnew : g W.heap.size = none := by
  cases hc : g W.heap.size with
  | none => rfl
  | some o => exact absurd (lt_of_some (h.ghost _ _ hc)) (Nat.lt_irrefl _)
 have hsame : ∀ k, k < W.heap.size → W'.heap[k]? = W.heap[k]? := fun k hk => hg.block k hk (by simp)
 refine ⟨fun e he => ?_, ?_, fun b o hk => ?_, fun e he b hk => ?_, fun e he b hk => ?_, h.below.grown hg (by simp)⟩
 ·rcases List.mem_cons.1 he with rfl | he
  ·exact hok
  ·exact Ent.ok_of_block (h.ents e he) fun b hk => hsame b (Ent.ok_lt (h.ents e he) hk)
 ·rw [List.filterMap_cons, show (Ent.ownb v E k xs).block = _ from hb]
  refine List.nodup_cons.2 ⟨fun hc => ?_, h.nodup⟩
  obtain ⟨e, he, hk⟩ := List.mem_filterMap.1 hc
  exact absurd (Ent.ok_lt (h.ents e he) hk) (Nat.lt_irrefl _)
 ·rw [hsame b (lt_of_some (h.ghost b o hk))]; exact h.ghost b o hk
 ·rcases List.mem_cons.1 he with rfl | he
  ·rw [show (Ent.ownb v E k xs).block = _ from hb] at hk
   injection hk with hk; subst hk; exact hnew
  ·exact h.apart e he b hk
 ·rcases List.mem_cons.1 he with rfl | he
  ·rw [show (Ent.ownb v E k xs).block = _ from hb] at hk
   injection hk with hk; subst hk; exact .inl h.below.size
  ·exact h.mine e he b hk

theorem repInts : ∀ (l : List Int), RepL g (.int .u8) (l.map (Value.int .u8)) l
 | [] => rfl
 | x :: l => ⟨[.int .u8 x], l.map (Value.int .u8), rfl, rfl, repInts l⟩

theorem OpOk.bytesB {K : Act → World → Prop} {d : Nat} {src dt E ty : TypeId} {x : Operand} {pos : String} {after : Array Edge} {gd : Option (Nat × Bool)} {s : List UInt8} (hx : val m x = some (.string ⟨⟨s⟩⟩)) (hs : P.underlying src = some .string) (hd : P.underlying dt = some (.slice E)) (he : P.underlying E = some (.int .u8))
  (hn : Nat.ble (d + 1) n = true)
  (h : ∀ a c xs, RepL g (.int .u8) xs (intsOf s) → Ok n w0 ((d, .slice a (intsOf s).length c) :: m) (.ownb (.slice a (intsOf s).length c) E (intsOf s).length xs :: H) g K) : OpOk P K Q ⟨some d, .convert src dt x, ty, pos, after, gd⟩ n w0 m H g := fun ac W hA hW => by
 show Oper.upon P _ ac _ Q (Sem.run P (execOp ac.eval _) W)
 have hrun := run_bytes_of_string (P := P) W src dt E ⟨⟨s⟩⟩ hs hd he
 have hlen : (intsOf s).length = s.length := intsOf_length s
 have e1 : (execOp ac.eval ⟨some d, .convert src dt x, ty, pos, after, gd⟩).run P W = .ok (.value (.slice (some ⟨W.heap.size, 0, none⟩) (intsOf s).length (grownCap W s.length 0 E)))
   (W.drew.alloc (.cells (bytesRow ⟨⟨s⟩⟩ (grownCap W s.length 0 E)) E ((bytesRow ⟨⟨s⟩⟩ (grownCap W s.length 0 E)).size, (bytesRow ⟨⟨s⟩⟩ (grownCap W s.length 0 E)).size + 1))) := by
  rw [hlen]
  simp only [execOp, hA.eval hx, Sem.run_bind]
  rw [hrun]; rfl
 rw [e1, Oper.upon_value]
 have hh : ∀ o, (W.drew.alloc o).heap[W.heap.size]? = some o := fun o => by
  show (W.heap.push o)[W.heap.size]? = _
  simp
 refine h _ _ _ (repInts _) _ _ (hA.put (Nat.le_of_ble_eq_true hn) _) (hW.pushB ⟨rfl, rfl, rfl, by show W.heap.size ≤ (W.heap.push _).size; simp, fun k hk _ => by
   show (W.heap.push _)[k]? = _
   rw [Array.getElem?_push, if_neg (by omega)]⟩ rfl ⟨_, _, _, rfl, hh _, ?_, by simp, ?_⟩)
 ·rw [hlen]; simp [bytesRow, Array.size_append]
 ·rw [hlen]
  simp [bytesRow, intsOf, Function.comp_def]

theorem ownb_at {W : World} {a : Option Addr} {E : TypeId} {k c : Nat} {xs : List Value} (h : (Ent.ownb (.slice a k c) E k xs).ok W) : ∃ b cur, a = some ⟨b, 0, none⟩ ∧ W.heap[b]? = some (.cells cur E (cur.size, cur.size + 1)) ∧ k ≤ cur.size ∧ xs.length = k ∧ cur.toList.take k = xs := by
 obtain ⟨b, cap, cur, he, r⟩ := h
 injection he with h1 h2 h3
 exact ⟨b, cur, h1, r⟩
theorem ownb_cell {W : World} {a : Option Addr} {E : TypeId} {k c : Nat} {xs : List Value} (h : (Ent.ownb (.slice a k c) E k xs).ok W) {j : Nat} {v : Value} (hj : xs[j]? = some v) : a = some ⟨ablk a, 0, none⟩ ∧ W.cell? ⟨ablk a, j, none⟩ = some v := by
 obtain ⟨b, cur, rfl, hh, hk, hx, ht⟩ := ownb_at h
 refine ⟨rfl, ?_⟩
 show W.cell? ⟨b, j, none⟩ = _
 rw [← ht, List.getElem?_take] at hj
 split at hj
 ·simpa [World.cell?, hh] using hj
 ·cases hj

theorem indexB_aux {dst : Option Nat} {T E ty : TypeId} {x ix : Operand} {pos : String} {after : Array Edge} {gd : Option (Nat × Bool)} {a : Option Addr} {l : List Int} {c : Nat} {xs : List Value} {k : IntKind} {q : Int} {el : Int}
  (i : Nat) (hi : H[i]? = some (.ownb (.slice a l.length c) E l.length xs)) (hR : RepL g (.int .u8) xs l) (hx : val m x = some (.slice a l.length c)) (hix : val m ix = some (.int k q)) (hu : P.underlying T = some (.slice E)) (hs : (P.info? E).map (·.size) = some 1)
  (h0 : 0 ≤ q) (he : l[q.toNat]? = some el) :
  (∀ j v, [Value.int .u8 el][j]? = some v → xs[q.toNat * 1 + j]? = some v) ∧ Yields P n w0 m H g ⟨dst, .indexAddr T x ix, ty, pos, after, gd⟩ (.pointer (some ⟨ablk a, q.toNat * 1, none⟩)) := by
 have hxs := repL_ints hR
 have hc' : ∀ j v, [Value.int .u8 el][j]? = some v → xs[q.toNat * 1 + j]? = some v := fun j v hj => by
  cases j with
  | zero => simp at hj; subst hj; rw [hxs]; simp [he]
  | succ j => simp at hj
 refine ⟨hc', fun ac W hA hW => ?_⟩
 have hlt : q.toNat < l.length := (List.getElem?_eq_some_iff.1 he).1
 have hb : 0 ≤ q ∧ q < (l.length : Int) := ⟨h0, by omega⟩
 obtain ⟨ha, -⟩ := ownb_cell (hW.ents _ (List.mem_of_getElem? hi)) (hc' 0 _ rfl)
 cases hinf : P.info? E with
 | none => simp [hinf] at hs
 | some inf =>
  simp only [hinf, Option.map_some, Option.some.injEq] at hs
  rw [ha] at hx
  simp only [execOp, hA.eval hx, hA.eval hix]
  simp [Instr.indexAt, asIntOf, underlying, hu, hb, sizeOf, typeInfo, hinf, hs, Addr.add_plain, ablk, go_sem]

theorem OpOk.indexB {K : Act → World → Prop} {d : Nat} {T E ty : TypeId} {x ix : Operand} {pos : String} {after : Array Edge} {gd : Option (Nat × Bool)} {a : Option Addr} {l : List Int} {c : Nat} {xs : List Value} {k : IntKind} {q : Int} {el : Int}
  (i : Nat) (hi : H[i]? = some (.ownb (.slice a l.length c) E l.length xs)) (hR : RepL g (.int .u8) xs l) (hx : val m x = some (.slice a l.length c)) (hix : val m ix = some (.int k q)) (hu : P.underlying T = some (.slice E)) (hs : (P.info? E).map (·.size) = some 1)
  (h0 : 0 ≤ q) (he : l[q.toNat]? = some el) (hn : Nat.ble (d + 1) n = true)
  (h : (∀ j v, [Value.int .u8 el][j]? = some v → xs[q.toNat * 1 + j]? = some v) → Ok n w0 ((d, .pointer (some ⟨ablk a, q.toNat * 1, none⟩)) :: m) H g K) :
  OpOk P K Q ⟨some d, .indexAddr T x ix, ty, pos, after, gd⟩ n w0 m H g := by
 obtain ⟨hc, hy⟩ := indexB_aux (P := P) (n := n) (w0 := w0) (dst := some d) (ty := ty) (pos := pos) (after := after) (gd := gd) i hi hR hx hix hu hs h0 he
 exact OpOk.step hy rfl hn (h hc)

theorem Yields.loadB {dst : Option Nat} {T E ty : TypeId} {x : Operand} {pos : String} {after : Array Edge} {gd : Option (Nat × Bool)} {k : Nat} {a : Option Addr} {c o : Nat} {xs cells : List Value} {v : Value} {d : TypeDesc}
  (i j : Nat) (hi : H[i]? = some (.ownb (.slice a k c) E k xs)) (hc : ∀ j v, cells[j]? = some v → xs[o + j]? = some v) (hx : val m x = some (.pointer (some ⟨ablk a, o + j, none⟩))) (hu : P.underlying T = some d) (hd : d.isRow = false) (hv : cells[j]? = some v) :
  Yields P n w0 m H g ⟨dst, .load T x, ty, pos, after, gd⟩ v := fun ac W hA hW => by
 obtain ⟨-, hcell⟩ := ownb_cell (hW.ents _ (List.mem_of_getElem? hi)) (hc j v hv)
 simp only [execOp, Instr.loadAt, hA.eval hx, Sem.run_bind, Instr.sureAddr]
 simp [run_loadVar_one W (ablk a) (o + j) T v d hcell hu hd]

theorem OpOk.storeB {K : Act → World → Prop} {T E ty : TypeId} {x y : Operand} {pos : String} {after : Array Edge} {gd : Option (Nat × Bool)} {a : Option Addr} {l : List Int} {c q : Nat} {xs : List Value} {el' : Int} {el : Int}
  (i : Nat) (hi : H[i]? = some (.ownb (.slice a l.length c) E l.length xs)) (hR : RepL g (.int .u8) xs l) (hc : ∀ j v, [Value.int .u8 el][j]? = some v → xs[q * 1 + j]? = some v)
  (hx : val m x = some (.pointer (some ⟨ablk a, q * 1, none⟩))) (hy : val m y = some (.int .u8 el')) (hk : (P.info? T).map (·.size) = some 1)
  (h : ∀ xs2, RepL g (.int .u8) xs2 (l.set q el') → Ok n w0 m (H.set i (.ownb (.slice a (l.set q el').length c) E (l.set q el').length xs2)) g K) :
  OpOk P K Q ⟨none, .store T x y, ty, pos, after, gd⟩ n w0 m H g := fun ac W hA hW => by
 have hok := hW.ents _ (List.mem_of_getElem? hi)
 obtain ⟨b, cur, rfl, hh, hkc, hxl, ht⟩ := ownb_at hok
 have hq : q < l.length := by
  have := (List.getElem?_eq_some_iff.1 (hc 0 _ rfl)).1
  omega
 have hxs := repL_ints hR
 show Oper.upon P _ ac _ Q (Sem.run P (execOp ac.eval _) W)
 have hset : (l.set q el').length = l.length := List.length_set ..
 have hfz : W.frozen? ⟨b, q, none⟩ = false := by
  simp [World.frozen?, hh]
  omega
 have e1 : (execOp ac.eval ⟨none, .store T x y, ty, pos, after, gd⟩).run P W = .ok .skip (W.setCell ⟨b, q, none⟩ (.int .u8 el')) := by
  cases hinf : P.info? T with
  | none => simp [hinf] at hk
  | some inf =>
   simp only [hinf, Option.map_some, Option.some.injEq] at hk
   have hx' : val m x = some (.pointer (some ⟨b, q, none⟩)) := by rw [hx]; simp [ablk]
   have hcell : W.cell? ⟨b, q, none⟩ = some (.int .u8 el) := by
    have := (ownb_cell hok (hc 0 _ rfl)).2
    simpa [ablk] using this
   simp only [execOp, Instr.storeAt, hA.eval hx', hA.eval hy, Instr.sureAddr, storeVar, sizeOf, typeInfo]
   simp [hinf, hk, Value.cells]
   have hrun := run_storeCells_cells (P := P) b q [Value.int .u8 el'] 0 W (fun j hj => by
    have : j = 0 := by simpa using hj
    subst this
    simp [hcell]) (fun j hj => by
    have : j = 0 := by simpa using hj
    subst this
    simpa using hfz) (fun v hv => by simp at hv; subst hv; rfl)
   rw [hrun]
   rfl
 rw [e1, Oper.upon_skip]
 refine h (xs.set q (.int .u8 el')) (by rw [hxs, ← List.map_set]; exact repInts _) _ _ (hA.skip none (fun d hd => by cases hd) undef) (hW.grown (e' := .ownb (.slice (some ⟨b, 0, none⟩) (l.set q el').length c) E (l.set q el').length (xs.set q (.int .u8 el'))) hi
   ⟨rfl, rfl, rfl, by simp [World.setCell], fun k' _ hk' => Below.heap_setCell _ _ _ _ (fun e => hk' (by simp [Ent.block, Value.ownBlock, e]))⟩ ?_ (.inl rfl))
 rw [hset]
 refine ⟨b, c, cur.setIfInBounds q (.int .u8 el'), rfl, ?_, by simpa using hkc, by simpa using hxl, ?_⟩
 ·simp [World.setCell, Array.getElem?_modify, hh]
 ·rw [← ht]
  simp [List.take_set]

theorem Yields.strOfB {dst : Option Nat} {src dt E ty T : TypeId} {x : Operand} {pos : String} {after : Array Edge} {gd : Option (Nat × Bool)} {a : Option Addr} {l : List Int} {c : Nat} {xs : List Value} (i : Nat) (hx : val m x = some (.slice a l.length c)) {r : List UInt8} (hr : bytesOf l = r)
  (hi : H[i]? = some (.ownb (.slice a l.length c) T l.length xs)) (hR : RepL g (.int .u8) xs l) (hs : P.underlying src = some (.slice E)) (hd : P.underlying dt = some .string) (he : P.underlying E = some (.int .u8)) : Yields P n w0 m H g ⟨dst, .convert src dt x, ty, pos, after, gd⟩ (.string ⟨⟨r⟩⟩) := fun ac W hA hW => by
 subst hr
 have hok := hW.ents _ (List.mem_of_getElem? hi)
 have := run_str (P := P) (W := W) (c := c) hs hd he (a := a) (l := l) (fun ha => by
  obtain ⟨b, cur, h1, _⟩ := ownb_at hok
  rw [h1] at ha; cases ha) (fun ad ha j v hj => by
  rw [← repL_ints hR] at hj
  obtain ⟨h1, h2⟩ := ownb_cell hok hj
  rw [Option.some.inj (ha.symm.trans h1), Addr.add_plain, Nat.zero_add]; exact h2)
 simp only [execOp, hA.eval hx, Sem.run_bind, this, Result.andThen]; rfl
end
end Go.Eng
