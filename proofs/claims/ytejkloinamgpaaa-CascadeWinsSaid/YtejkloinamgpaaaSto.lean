import Derived.Test.YtejkloinamgpaaaMap
namespace Go.Eng
open Go.RowKit (Below)
section
variable {P : Program} {n : Nat} {w0 : World} {m : Env} {H : List Ent} {g : Ghost} {R : Act → World → Prop} {Q : Exit → Act → World → Prop} {ops : Array Oper}

theorem patch_eq {α : Type} {xs c v : List α} {o size j k : Nat} (hc : (xs.drop o).take size = c) (hj : j + k ≤ size) (hl : o + size ≤ xs.length) :
    xs.take o ++ (c.take j ++ v ++ c.drop (j + k)) ++ xs.drop (o + size) = xs.take (o + j) ++ v ++ xs.drop (o + j + k) := by
  subst hc
  have e1 : xs.take (o + j) = xs.take o ++ ((xs.drop o).take size).take j := by
    rw [List.take_add, List.take_take, Nat.min_eq_left (by omega)]
  have e2 : xs.drop (o + j + k) = ((xs.drop o).take size).drop (j + k) ++ xs.drop (o + size) := by
    have d1 : xs.drop (o + j + k) = (xs.drop o).drop (j + k) := by rw [List.drop_drop, Nat.add_assoc]
    have d2 : xs.drop (o + size) = (xs.drop o).drop size := by rw [List.drop_drop]
    rw [d1, d2]
    have h := List.take_append_drop size (xs.drop o)
    conv => lhs; rw [← h]
    rw [List.drop_append_of_le_length (by simp; omega)]
  rw [e1, e2]
  simp only [List.append_assoc]

theorem OpOk.storeOwn {K : Act → World → Prop} {T E ty : TypeId} {x y : Operand} {pos : String} {after : Array Edge} {gd : Option (Nat × Bool)} {e : Ty} {a : Option Addr} {l : List e.den} {c q : Nat} {xs cells vs : List Value} {v : Value} {el' : e.den}
    (i j k : Nat) (hi : H[i]? = some (.own (.slice a l.length c) E e.size l.length xs)) (hR : RepL g e xs l) (hc : ∀ j v, cells[j]? = some v → xs[q * e.size + j]? = some v) (hcl : Nat.beq cells.length e.size = true)
    (hx : val m x = some (.pointer (some ⟨ablk a, q * e.size + j, none⟩))) (hy : val m y = some v) (hv : v.cells.toList = vs) (hk : (P.info? T).map (·.size) = some k) (hvk : Nat.beq vs.length k = true) (hjk : Nat.ble (j + k) e.size = true) (hone : vs.all (·.oneCell') = true) (h1 : Nat.ble 1 e.size = true)
    (hR' : Rep g e (cells.take j ++ vs ++ cells.drop (j + k)) el')
    (h : ∀ xs2, RepL g e xs2 (l.set q el') → Ok n w0 m (H.set i (.own (.slice a (l.set q el').length c) E e.size (l.set q el').length xs2)) g K) :
    OpOk P K Q ⟨none, .store T x y, ty, pos, after, gd⟩ n w0 m H g := fun ac W hA hW => by
  have hcl := Nat.eq_of_beq_eq_true hcl
  have hvk := Nat.eq_of_beq_eq_true hvk
  have hjk := Nat.le_of_ble_eq_true hjk
  have h1 := Nat.le_of_ble_eq_true h1
  have hok : W.ownsRow w0.heap.size E e.size (.slice a l.length c) l.length xs := hW.ents _ (List.mem_of_getElem? hi)
  have hsz := hR.size
  have hlast := hc (e.size - 1) _ (List.getElem?_eq_getElem (by omega))
  have hlt : q * e.size + (e.size - 1) < xs.length := (List.getElem?_eq_some_iff.1 hlast).1
  have hq : q < l.length := by
    rcases Nat.lt_or_ge q l.length with h | h
    · exact h
    · have := Nat.mul_le_mul_right e.size h
      omega
  have hcs : (xs.drop (q * e.size)).take e.size = cells := by
    apply List.ext_getElem?
    intro p
    rw [List.getElem?_take, List.getElem?_drop]
    split
    · rename_i hp
      have hp' : p < cells.length := by omega
      rw [hc p _ (List.getElem?_eq_getElem hp'), List.getElem?_eq_getElem hp']
    · rw [List.getElem?_eq_none (by omega)]
  have hpatch := patch_eq (v := vs) (j := j) (k := k) hcs hjk (by omega)
  have hRn := hR.set hq hR'
  rw [hpatch] at hRn
  have hset : (l.set q el').length = l.length := List.length_set ..
  rcases hok.2 with ⟨he, hl0⟩ | ⟨b, cap, cur, he, hB, hh, hcap, hmax, hcsz, htake⟩
  · omega
  · simp only [Value.slice.injEq, true_and] at he
    obtain ⟨rfl, rfl⟩ := he
    have hN : l.length * e.size ≤ cur.size := by rw [hcsz]; exact Nat.mul_le_mul_right _ hcap
    show Oper.upon P _ ac _ Q (Sem.run P (execOp ac.eval _) W)
    have hrun := run_storeCells_at (P := P) b (q * e.size + j) E vs 0 cur W hh (by omega) (fun u hu => (List.all_eq_true.1 hone) u hu)
    simp only [Nat.add_zero, hvk] at hrun
    have e1 : (execOp ac.eval ⟨none, .store T x y, ty, pos, after, gd⟩).run P W = .ok .skip (W.setRow b (cur.toList.take (q * e.size + j) ++ vs ++ cur.toList.drop (q * e.size + j + k)).toArray) := by
      cases hinf : P.info? T with
      | none => simp [hinf] at hk
      | some inf =>
        simp only [hinf, Option.map_some, Option.some.injEq] at hk
        have hvs : v.cells.size = k := by rw [← hvk, ← hv]; simp
        have hx' : val m x = some (.pointer (some ⟨b, q * e.size + j, none⟩)) := hx
        simp only [execOp, Instr.storeAt, hA.eval hx', hA.eval hy, Instr.sureAddr, storeVar, sizeOf, typeInfo]
        simp [hinf, hk, hvs, hv, hrun]
    rw [e1, Oper.upon_skip]
    have hnew : (W.setRow b (cur.toList.take (q * e.size + j) ++ vs ++ cur.toList.drop (q * e.size + j + k)).toArray).ownsRow w0.heap.size E e.size (.slice (some ⟨b, 0, none⟩) (l.set q el').length c) (l.set q el').length (xs.take (q * e.size + j) ++ vs ++ xs.drop (q * e.size + j + k)) := by
      rw [hset]
      refine ⟨?_, .inr ⟨b, c, _, rfl, hB, setRow_heap W b cur _ E _ hh, hcap, hmax, ?_, ?_⟩⟩
      · simp only [List.length_append, List.length_take, List.length_drop]
        omega
      · simp only [List.size_toArray, List.length_append, List.length_take, List.length_drop, Array.length_toList]
        omega
      · have hA1 : (cur.toList.take (q * e.size + j)).length = q * e.size + j := by simp; omega
        rw [← htake, List.take_take, Nat.min_eq_left (by omega), List.drop_take]
        rw [List.take_append, List.take_of_length_le (by simp; omega)]
        congr 1
        congr 1
        simp only [List.length_append, hA1, hvk]
    exact h _ hRn _ _ (hA.skip none (fun d hd => by cases hd) undef) (hW.grown (e' := .own (.slice (some ⟨b, 0, none⟩) (l.set q el').length c) E e.size (l.set q el').length (xs.take (q * e.size + j) ++ vs ++ xs.drop (q * e.size + j + k))) hi
      ⟨rfl, rfl, rfl, by simp [World.setRow], fun k' _ hk' => setRow_other W b k' _ (fun e => hk' (by simp [Ent.block, Value.ownBlock, e]))⟩ hnew (.inl (by rw [hset]; rfl)))
theorem Ok.env {m' : Env} (e : m = m') (h : Ok n w0 m' H g R) : Ok n w0 m H g R := e ▸ h
theorem OkM.env {g0 : Ghost} {H0 : List Ent} {os : List (Nat × Bool)} {m' : Env} (e : m = m') (h : OkM P ops n w0 g0 H0 m' H g R os) : OkM P ops n w0 g0 H0 m H g R os := e ▸ h

def lookRes (ok : Bool) (v : Value) (b : Bool) : Value := if ok = true then .tuple #[v, .bool b] else v

theorem OpOk.lookupSome {K : Act → World → Prop} {d : Nat} {T E KT ty : TypeId} {x ix : Operand} {pos : String} {after : Array Edge} {gd : Option (Nat × Bool)} {vt : Ty} {row ok : Bool} {b clock : Nat} {es : Array MapEntry} {l : List (List UInt8 × vt.den)} {k : List UInt8} {el : vt.den}
    (i : Nat) (hi : H[i]? = some (.blk b (.map es clock))) (hM : RepMap g vt row es.toList l) (hx : val m x = some (.map (some b))) (hk : val m ix = some (.string ⟨⟨k⟩⟩)) (hu : P.underlying T = some (.map KT E)) (hku : P.underlying KT = some .string) (he : assocS k l = some el) (hn : Nat.ble (d + 1) n = true)
    (h : ∀ v cells, ValIs row v cells → Rep g vt cells el → ∀ u, u = lookRes ok v true → Ok n w0 ((d, u) :: m) H g K) : OpOk P K Q ⟨some d, .lookup T x ix ok, ty, pos, after, gd⟩ n w0 m H g := by
  obtain ⟨v, cells, h1, h2, hy⟩ := lookup_some (P := P) (n := n) (w0 := w0) (dst := some d) (ty := ty) (pos := pos) (after := after) (gd := gd) (ok := ok) i hi hM hx hk hu hku he
  exact OpOk.step hy rfl hn (h v cells h1 h2 _ rfl)
theorem OpOk.lookupNone {K : Act → World → Prop} {d : Nat} {T E KT ty : TypeId} {x ix : Operand} {pos : String} {after : Array Edge} {gd : Option (Nat × Bool)} {vt : Ty} {row ok : Bool} {b clock : Nat} {es : Array MapEntry} {l : List (List UInt8 × vt.den)} {k : List UInt8} {z u : Value}
    (i : Nat) (hi : H[i]? = some (.blk b (.map es clock))) (hM : RepMap g vt row es.toList l) (hx : val m x = some (.map (some b))) (hk : val m ix = some (.string ⟨⟨k⟩⟩)) (hu : P.underlying T = some (.map KT E)) (hku : P.underlying KT = some .string) (hz : (P.info? E).bind (·.zero) = some z) (he : assocS k l = none)
    (hr : lookRes ok z false = u) (hn : Nat.ble (d + 1) n = true) (h : Ok n w0 ((d, u) :: m) H g K) : OpOk P K Q ⟨some d, .lookup T x ix ok, ty, pos, after, gd⟩ n w0 m H g := by
  subst hr
  exact OpOk.step (lookup_none (ok := ok) i hi hM hx hk hu hku hz he) rfl hn h
theorem OpQ.lookupSome {KQ : Act → Prop} {d : Nat} {T E KT ty : TypeId} {x ix : Operand} {pos : String} {after : Array Edge} {gd : Option (Nat × Bool)} {vt : Ty} {row ok : Bool} {b clock : Nat} {es : Array MapEntry} {l : List (List UInt8 × vt.den)} {k : List UInt8} {el : vt.den}
    (i : Nat) (hi : H[i]? = some (.blk b (.map es clock))) (hM : RepMap g vt row es.toList l) (hx : val m x = some (.map (some b))) (hk : val m ix = some (.string ⟨⟨k⟩⟩)) (hu : P.underlying T = some (.map KT E)) (hku : P.underlying KT = some .string) (he : assocS k l = some el) (hn : Nat.ble (d + 1) n = true)
    (h : ∀ v cells, ValIs row v cells → Rep g vt cells el → ∀ u, u = lookRes ok v true → OnA n ((d, u) :: m) KQ) : OpQ P KQ ⟨some d, .lookup T x ix ok, ty, pos, after, gd⟩ n w0 m H g := by
  obtain ⟨v, cells, h1, h2, hy⟩ := lookup_some (P := P) (n := n) (w0 := w0) (dst := some d) (ty := ty) (pos := pos) (after := after) (gd := gd) (ok := ok) i hi hM hx hk hu hku he
  exact OpQ.step hy rfl hn (h v cells h1 h2 _ rfl)
theorem OpQ.lookupNone {KQ : Act → Prop} {d : Nat} {T E KT ty : TypeId} {x ix : Operand} {pos : String} {after : Array Edge} {gd : Option (Nat × Bool)} {vt : Ty} {row ok : Bool} {b clock : Nat} {es : Array MapEntry} {l : List (List UInt8 × vt.den)} {k : List UInt8} {z u : Value}
    (i : Nat) (hi : H[i]? = some (.blk b (.map es clock))) (hM : RepMap g vt row es.toList l) (hx : val m x = some (.map (some b))) (hk : val m ix = some (.string ⟨⟨k⟩⟩)) (hu : P.underlying T = some (.map KT E)) (hku : P.underlying KT = some .string) (hz : (P.info? E).bind (·.zero) = some z) (he : assocS k l = none)
    (hr : lookRes ok z false = u) (hn : Nat.ble (d + 1) n = true) (h : OnA n ((d, u) :: m) KQ) : OpQ P KQ ⟨some d, .lookup T x ix ok, ty, pos, after, gd⟩ n w0 m H g := by
  subst hr
  exact OpQ.step (lookup_none (ok := ok) i hi hM hx hk hu hku hz he) rfl hn h
end
end Go.Eng
