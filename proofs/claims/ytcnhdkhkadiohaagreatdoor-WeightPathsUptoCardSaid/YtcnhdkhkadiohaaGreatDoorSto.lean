import Derived.Test.YtcnhdkhkadiohaaGreatDoorMap
import Derived.Laws.IdiomStrings
import Derived.Laws.OwnMore
namespace Go.Eng
open Go.RowKit (Below)
section
variable {P : Program} {n : Fsz} {w0 : Base} {m : Env} {H : List Ent} {g : Ghost} {R : Act → World → Prop} {Q : Exit → Act → World → Prop} {ops : Array Oper}

/-! ### texts and rows of bytes -/
def bytesOf (l : List Int) : List UInt8 := l.map fun x => UInt8.ofNat x.toNat
def intsOf (s : List UInt8) : List Int := s.map fun c => (c.toNat : Int)
theorem bytesOf_intsOf (s : List UInt8) : bytesOf (intsOf s) = s := by
 unfold bytesOf intsOf
 rw [List.map_map]
 conv => rhs; rw [← List.map_id s]
 apply List.map_congr_left
 intro c _
 simp
theorem intsOf_length (s : List UInt8) : (intsOf s).length = s.length := by unfold intsOf; simp

theorem foldl_push : ∀ (ns : List Int) (s : ByteArray), ns.foldl (fun r n => r.push (UInt8.ofNat n.toNat)) s = ⟨s.data ++ (bytesOf ns).toArray⟩
 | [], s => by simp [bytesOf]
 | n :: ns, s => by
  rw [List.foldl_cons, foldl_push ns]
  simp [bytesOf, ByteArray.push]

theorem repL_ints {kd : IntKind} : ∀ {l : List Int} {xs : List Value}, RepL g (.int kd) xs l → xs = l.map (Value.int kd)
 | [], _, h => h
 | x :: l, _, ⟨c, r, h1, h2, h3⟩ => by
  rw [h1, show c = _ from h2, repL_ints h3]; rfl

theorem run_str {W : World} {src dst E : TypeId} {a : Option Addr} {l : List Int} {c : Nat} (hs : P.underlying src = some (.slice E)) (hd : P.underlying dst = some .string) (he : P.underlying E = some (.int .u8))
  (h0 : a = none → l = []) (hc : ∀ ad, a = some ad → ∀ j v, (l.map (Value.int .u8))[j]? = some v → W.cell? (ad.add j) = some v) : (convert src dst (.slice a l.length c)).run P W = .ok (.string ⟨⟨bytesOf l⟩⟩) W := by
 rw [run_convert_bytes_string W src dst E a l.length c hs he hd]
 cases a with
 | none => rw [h0 rfl]; simp [Conv.bytesToString, bytesOf]; rfl
 | some ad =>
  have hl := run_loadCells_list (P := P) W ad (l.map (Value.int .u8)) (hc ad rfl)
  simp only [List.length_map] at hl
  rw [run_bytesToString W ad l.length c _ hl, foldl_push]
  simp

theorem Yields.strOfRo {dst : Option Nat} {src dt E ty : TypeId} {x : Operand} {pos : String} {after : Array Edge} {gd : Option (Nat × Bool)} {a : Option Addr} {l : List Int} {c : Nat} (hx : val m x = some (.slice a l.length c)) {r : List UInt8} (hr : bytesOf l = r)
  (hR : Rep g (.slice (.int .u8)) [.slice a l.length c] l) (hs : P.underlying src = some (.slice E)) (hd : P.underlying dt = some .string) (he : P.underlying E = some (.int .u8)) : Yields P n w0 m H g ⟨dst, .convert src dt x, ty, pos, after, gd⟩ (.string ⟨⟨r⟩⟩) := fun ac W hA hW => by
 subst hr
 obtain ⟨a1, c1, hcs, -, hel⟩ := hR
 simp only [List.cons.injEq, Value.slice.injEq, and_true] at hcs
 obtain ⟨rfl, -, rfl⟩ := hcs
 have := run_str (P := P) (W := W) (c := c) hs hd he (a := a) (l := l) (fun ha => by
  cases l with
  | nil => rfl
  | cons y l => obtain ⟨b, off, hb, _⟩ := hel 0 y rfl; rw [ha] at hb; cases hb) (fun ad ha j v hj => by
  rw [List.getElem?_map, Option.map_eq_some_iff] at hj
  obtain ⟨y, hy, rfl⟩ := hj
  obtain ⟨b, off, hb, ecs, hl, hat, hr⟩ := hel j y hy
  rw [ha] at hb
  injection hb with hb
  subst hb
  rw [show ecs = _ from hr] at hat
  have := gcell_cell hW.ghost (hat 0 _ rfl)
  simp only [Ty.size, Nat.mul_one, Nat.add_zero] at this
  rw [Addr.add_plain]; exact this)
 simp only [execOp, hA.eval hx, Sem.run_bind, this, Result.andThen]; rfl

/-- a new block that is only read from then on -/
theorem StW.pushRo {W W' : World} (h : StW w0 H g W) {b : Nat} {o : Obj} (hb : b = W.heap.size) (hg : W.grownBy W' none) (ho : W'.heap[b]? = some o) :
  ∃ g', Gext w0 g g' ∧ g' b = some o ∧ StW w0 H g' W' := by
 subst hb
 have hnew : g W.heap.size = none := by
  cases hc : g W.heap.size with
  | none => rfl
  | some o => exact absurd (lt_of_some (h.ghost _ _ hc)) (Nat.lt_irrefl _)
 have hsame : ∀ k, k < W.heap.size → W'.heap[k]? = W.heap[k]? := fun k hk => hg.block k hk (by simp)
 refine ⟨fun k => if k = W.heap.size then some o else g k, ⟨fun k q hk => ?_, fun k q hk => ?_⟩, by simp, ⟨fun e he => Ent.ok_of_block (h.ents e he) fun k hk => hsame k (Ent.ok_lt (h.ents e he) hk), h.nodup, fun k q hk => ?_, fun e he k hk => ?_, h.mine, h.below.grown hg (by simp)⟩⟩
 ·have : k ≠ W.heap.size := fun e => by rw [e, hnew] at hk; cases hk
  simp only [if_neg this]; exact hk
 ·by_cases e : k = W.heap.size
  ·subst e; exact .inr (.inl h.below.size)
  ·simp only [if_neg e] at hk; exact .inl hk
 ·by_cases e : k = W.heap.size
  ·subst e; simp only [if_true, Option.some.injEq] at hk; rw [ho, hk]
  ·simp only [if_neg e] at hk
   rw [hsame k (lt_of_some (h.ghost k q hk))]; exact h.ghost k q hk
 ·have hlt := Ent.ok_lt (h.ents e he) hk
  have : k ≠ W.heap.size := by omega
  simp only [if_neg this]; exact h.apart e he k hk

theorem OpOk.bytesRo {K : Act → World → Prop} {d : Nat} {src dt E ty : TypeId} {x : Operand} {pos : String} {after : Array Edge} {gd : Option (Nat × Bool)} {s : List UInt8} (hx : val m x = some (.string ⟨⟨s⟩⟩)) (hs : P.underlying src = some .string) (hd : P.underlying dt = some (.slice E)) (he : P.underlying E = some (.int .u8))
  (hm : s.length ≤ maxLen) (hn : Nat.ble (d + 1) n = true)
  (h : ∀ g' a c, Gext w0 g g' → Rep g' (.slice (.int .u8)) [.slice a (intsOf s).length c] (intsOf s) → Ok n w0 ((d, .slice a (intsOf s).length c) :: m) H g' K) : OpOk P K Q ⟨some d, .convert src dt x, ty, pos, after, gd⟩ n w0 m H g := fun ac W hA hW => by
 show Oper.upon P _ ac _ Q (Sem.run P (execOp ac.eval _) W)
 have hrun := run_bytes_of_string (P := P) W src dt E ⟨⟨s⟩⟩ hs hd he
 have e1 : (execOp ac.eval ⟨some d, .convert src dt x, ty, pos, after, gd⟩).run P W = .ok (.value (.slice (some ⟨W.heap.size, 0, none⟩) s.length (grownCap W s.length 0 E)))
   (W.drew.alloc (.cells (bytesRow ⟨⟨s⟩⟩ (grownCap W s.length 0 E)) E ((bytesRow ⟨⟨s⟩⟩ (grownCap W s.length 0 E)).size, (bytesRow ⟨⟨s⟩⟩ (grownCap W s.length 0 E)).size + 1))) := by
  simp only [execOp, hA.eval hx, Sem.run_bind]
  rw [hrun]; rfl
 rw [e1, Oper.upon_value]
 have hh : ∀ o, (W.drew.alloc o).heap[W.heap.size]? = some o := fun o => by
  show (W.heap.push o)[W.heap.size]? = _
  simp
 obtain ⟨g', h1, h2, h3⟩ := hW.pushRo (b := W.heap.size) rfl (W' := W.drew.alloc (.cells (bytesRow ⟨⟨s⟩⟩ (grownCap W s.length 0 E)) E ((bytesRow ⟨⟨s⟩⟩ (grownCap W s.length 0 E)).size, (bytesRow ⟨⟨s⟩⟩ (grownCap W s.length 0 E)).size + 1)))
  ⟨rfl, rfl, rfl, by show W.heap.size ≤ (W.heap.push _).size; simp, fun k hk _ => by
   show (W.heap.push _)[k]? = _
   rw [Array.getElem?_push, if_neg (by omega)]⟩ (hh _)
 have hlen : (intsOf s).length = s.length := by unfold intsOf; simp
 have h := h g' (some ⟨W.heap.size, 0, none⟩) (grownCap W s.length 0 E) h1 ⟨_, _, rfl, ⟨by rw [hlen]; exact grownCap_ge W s.length 0 E, grownCap_le_maxLen W s.length 0 E hm⟩, fun i y hy => ⟨W.heap.size, 0, rfl, [.int .u8 y], rfl, fun j v hj => ?_, rfl⟩⟩
 ·rw [hlen] at h
  exact h _ _ (hA.put (Nat.le_of_ble_eq_true hn) _) h3
 ·cases j with
  | zero =>
   simp only [List.getElem?_cons_zero, Option.some.injEq] at hj
   subst hj
   unfold intsOf at hy
   rw [List.getElem?_map, Option.map_eq_some_iff] at hy
   obtain ⟨q, hq, rfl⟩ := hy
   simp only [gcell, h2, Ty.size, Nat.mul_one, Nat.zero_add, Nat.add_zero]
   have hlt : i < s.length := (List.getElem?_eq_some_iff.1 hq).1
   simp only [bytesRow]
   rw [if_neg (by simp), Array.getElem?_append_left (by simpa using hlt)]
   simp [hq]
  | succ j => simp at hj

end
end Go.Eng
