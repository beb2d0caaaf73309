/- One law more of regions that write: an operation that is not wanted. -/
import Derived.Test.YtjehllphdpkjeaaGreatDoorPl
namespace Go.Eng
open Go.RowKit (Below)
section
variable {P : Program} {n : Fsz} {w0 : Base} {m : Env} {H : List Ent} {g : Ghost} {R : Act → World → Prop} {ops : Array Oper} {g0 : Ghost} {pre soft : List Nat} {Hf H0 Hv : List Ent} {os : List (Nat × Bool)}
theorem OkM.tailNo {i : Nat} {o : Oper} {j d dd : Nat} {want b : Bool} (hi : ops[i]? = some o) (hg : o.guard = some (j, want)) (hj : (ops[j]?).bind (·.dst) = some d) (hb : get m d = some (.bool b)) (e : b = !want) (hd : o.dst = some dd) (hn : Nat.ble (dd + 1) n = true)
    (hv : (bif soft.contains i then Hf else H0) = Hv) (hgs : Gle g0 g) (hs : List.Sublist Hv H) (h : OkM P ops n w0 g0 pre soft Hf H0 ((dd, undef) :: m) H g R os) :
    OkM P ops n w0 g0 pre soft Hf H0 m H g R ((i, false) :: os) := fun a hA W hW => by
  unfold mOp
  simp only [hi]
  rw [if_neg (by simp [Region.wanted, hg, yielded_of hA hj hb, e])]
  exact ⟨(g, H), hW, ⟨hgs, by rw [hv]; exact hs⟩, by rw [hd]; exact h _ (hA.put (Nat.le_of_ble_eq_true hn) undef)⟩

end
section
variable {P : Program} {n : Fsz} {w0 : Base} {m : Env} {H : List Ent} {g : Ghost} {R : Act → World → Prop} {Q : Exit → Act → World → Prop} {ops : Array Oper}
theorem Yields.indexAggRow {dst : Option Nat} {T E ty : TypeId} {x ix : Operand} {pos : String} {after : Array Edge} {gd : Option (Nat × Bool)} {k : IntKind} {i : Int} {cs : Array Value} {len sz : Nat} {d : TypeDesc}
    (hx : val m x = some (.agg cs)) (hi : val m ix = some (.int k i)) (hu : P.underlying T = some (.array len E)) (hE : P.underlying E = some d) (hd : d.isRow = true) (hs : (P.info? E).map (·.size) = some sz)
    (h0 : 0 ≤ i) (hl : i < len) : Yields P n w0 m H g ⟨dst, .index T x ix, ty, pos, after, gd⟩ (.agg (cs.extract (i.toNat * sz) (i.toNat * sz + sz))) := fun a W hA hW => by
  cases hinf : P.info? E with
  | none => simp [hinf] at hs
  | some inf =>
    simp only [hinf, Option.map_some, Option.some.injEq] at hs
    simp only [execOp, hA.eval hx, hA.eval hi]
    have e1 : (isAgg E).run P W = .ok true W := by cases d <;> simp [TypeDesc.isRow] at hd <;> simp [isAgg, underlying, hE, go_sem]
    simp [Instr.index, asIntOf, underlying, hu, h0, hl, sizeOf, typeInfo, hinf, hs, part, e1, go_sem]
theorem extract_cells {g : Ghost} {e : Ty} {cs : Array Value} {L : List e.den} {q : Nat} {el : e.den} (hR : RepL g e cs.toList L) (he : L[q]? = some el) : ∃ c, c.length = e.size ∧ Rep g e c el ∧ cs.extract (q * e.size) (q * e.size + e.size) = ⟨c⟩ := by
  obtain ⟨c, h1, h2, h3⟩ := hR.get he
  refine ⟨c, h1, h2, ?_⟩
  have hl := hR.size
  have hq := (List.getElem?_eq_some_iff.1 he).1
  have hm : (q + 1) * e.size ≤ L.length * e.size := Nat.mul_le_mul_right _ hq
  rw [Nat.succ_mul] at hm
  apply Array.ext'
  apply List.ext_getElem?
  intro j
  simp only [Array.toList_extract, List.extract_eq_take_drop, List.getElem?_take, List.getElem?_drop]
  rw [show q * e.size + e.size - q * e.size = e.size by omega]
  split
  · rename_i hj; exact h3 j hj
  · rw [List.getElem?_eq_none (by omega)]
theorem OpOk.indexAggRow {K : Act → World → Prop} {d : Nat} {T E ty : TypeId} {x ix : Operand} {pos : String} {after : Array Edge} {gd : Option (Nat × Bool)} {k : IntKind} {q : Int} {cs : Array Value} {len : Nat} {td : TypeDesc} {e : Ty} {L : List e.den} {el : e.den}
    (hx : val m x = some (.agg cs)) (hi : val m ix = some (.int k q)) (hu : P.underlying T = some (.array len E)) (hE : P.underlying E = some td) (hd : td.isRow = true) (hs : (P.info? E).map (·.size) = some e.size)
    (hR : RepL g e cs.toList L) (hlen : Nat.beq L.length len = true) (h0 : 0 ≤ q) (he : L[q.toNat]? = some el) (hn : Nat.ble (d + 1) n = true)
    (h : ∀ cells, cells.length = e.size → Rep g e cells el → Ok n w0 ((d, .agg ⟨cells⟩) :: m) H g K) : OpOk P K Q ⟨some d, .index T x ix, ty, pos, after, gd⟩ n w0 m H g := by
  obtain ⟨c, h1, h2, h3⟩ := extract_cells hR he
  have hlen := Nat.eq_of_beq_eq_true hlen
  have hq := (List.getElem?_eq_some_iff.1 he).1
  have hy := Yields.indexAggRow (P := P) (n := n) (w0 := w0) (H := H) (g := g) (dst := some d) (ty := ty) (pos := pos) (after := after) (gd := gd) hx hi hu hE hd hs h0 (by omega)
  rw [h3] at hy
  exact OpOk.step hy rfl hn (h c h1 h2)
theorem OpQ.indexAggRow {KQ : Act → Prop} {d : Nat} {T E ty : TypeId} {x ix : Operand} {pos : String} {after : Array Edge} {gd : Option (Nat × Bool)} {k : IntKind} {q : Int} {cs : Array Value} {len : Nat} {td : TypeDesc} {e : Ty} {L : List e.den} {el : e.den}
    (hx : val m x = some (.agg cs)) (hi : val m ix = some (.int k q)) (hu : P.underlying T = some (.array len E)) (hE : P.underlying E = some td) (hd : td.isRow = true) (hs : (P.info? E).map (·.size) = some e.size)
    (hR : RepL g e cs.toList L) (hlen : Nat.beq L.length len = true) (h0 : 0 ≤ q) (he : L[q.toNat]? = some el) (hn : Nat.ble (d + 1) n = true)
    (h : ∀ cells, cells.length = e.size → Rep g e cells el → OnA n ((d, .agg ⟨cells⟩) :: m) KQ) : OpQ P KQ ⟨some d, .index T x ix, ty, pos, after, gd⟩ n w0 m H g := by
  obtain ⟨c, h1, h2, h3⟩ := extract_cells hR he
  have hlen := Nat.eq_of_beq_eq_true hlen
  have hq := (List.getElem?_eq_some_iff.1 he).1
  have hy := Yields.indexAggRow (P := P) (n := n) (w0 := w0) (H := H) (g := g) (dst := some d) (ty := ty) (pos := pos) (after := after) (gd := gd) hx hi hu hE hd hs h0 (by omega)
  rw [h3] at hy
  exact OpQ.step hy rfl hn (h c h1 h2)
end
/-- an error: none, or one of a package's own numbers -/
def errV (T : TypeId) (e : Int) : Value := if (e == 0) = true then .nilIface else .iface T (.int .i64 e)
theorem errV_nil {T : TypeId} {e : Int} (h : (e == 0) = true) : errV T e = .nilIface := by unfold errV; rw [h]; rfl
theorem errV_some {T : TypeId} {e : Int} (h : (e == 0) = false) : errV T e = .iface T (.int .i64 e) := by unfold errV; rw [h]; rfl
/-- is it nil? -/
def IfV (v : Value) : Bool → Prop
  | true => v = .nilIface
  | false => ∃ t p, v = .iface t p
theorem Ok.split {n : Fsz} {w0 : Base} {m : Env} {H : List Ent} {g : Ghost} {R : Act → World → Prop} (c : Bool) (h1 : c = true → Ok n w0 m H g R) (h2 : c = false → Ok n w0 m H g R) : Ok n w0 m H g R := by
  cases c
  · exact h2 rfl
  · exact h1 rfl
end Go.Eng
