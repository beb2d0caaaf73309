/-
  A local array that is written at computed places: kept as a row of the call's own. No program in sight.
-/
import Derived.Test.YteocjdpjpkjlaaaDoorSto
import Derived.Test.YteocjdpjpkjlaaaDoorByt
namespace Go.Eng
open Go.RowKit (Below)
section
variable {P : Program} {n : Nat} {w0 : Base} {m : Env} {H : List Ent} {g : Ghost} {R : Act → World → Prop} {Q : Exit → Act → World → Prop} {ops : Array Oper}
theorem Ok.arr {b : Nat} {T : TypeId} {k : Nat} {xs : List Value} (hk : Nat.ble k 1000000 = true) (hx : Nat.beq xs.length k = true) (h : Ok n w0 m (.own (.slice (some ⟨b, 0, none⟩) k k) T 1 k xs :: H) g R) : Ok n w0 m (.blk b (.cells ⟨xs⟩ T) :: H) g R := fun a W hA hW =>
  h a W hA ⟨fun e he => by
    rcases List.mem_cons.1 he with rfl | he
    · have hx := Nat.eq_of_beq_eq_true hx
      have hk := Nat.le_of_ble_eq_true hk
      have h0 : W.heap[b]? = some (.cells ⟨xs⟩ T) := hW.ents (.blk b (.cells ⟨xs⟩ T)) (List.mem_cons_self ..)
      exact ⟨by omega, .inr ⟨b, k, ⟨xs⟩, rfl, Nat.zero_le _, h0, Nat.le_refl _, by unfold maxLen; omega, by simp [hx], by rw [Nat.mul_one, ← hx]; simp⟩⟩
    · exact hW.ents e (List.mem_cons_of_mem _ he), hW.nodup, hW.ghost, fun e he k hk => by
    rcases List.mem_cons.1 he with rfl | he
    · exact hW.apart (.blk b (.cells ⟨xs⟩ T)) (List.mem_cons_self ..) k hk
    · exact hW.apart e (List.mem_cons_of_mem _ he) k hk, fun e he k hk => by
    rcases List.mem_cons.1 he with rfl | he
    · exact hW.mine (.blk b (.cells ⟨xs⟩ T)) (List.mem_cons_self ..) k hk
    · exact hW.mine e (List.mem_cons_of_mem _ he) k hk, hW.below⟩
theorem OpOk.indexArr {K : Act → World → Prop} {d : Nat} {T E ty : TypeId} {x ix : Operand} {pos : String} {after : Array Edge} {gd : Option (Nat × Bool)} {e : Ty} {b : Nat} {l : List e.den} {len : Nat} {xs : List Value} {k : IntKind} {q : Int} {el : e.den}
    (hR : RepL g e xs l) (hx : val m x = some (.pointer (some ⟨b, 0, none⟩))) (hix : val m ix = some (.int k q)) (hu : P.underlying T = some (.array len E)) (hs : (P.info? E).map (·.size) = some e.size)
    (hlen : l.length = len) (h0 : 0 ≤ q) (he : l[q.toNat]? = some el) (hn : Nat.ble (d + 1) n = true)
    (h : ∀ cells, cells.length = e.size → Rep g e cells el → (∀ j v, cells[j]? = some v → xs[q.toNat * e.size + j]? = some v) → Ok n w0 ((d, .pointer (some ⟨b, q.toNat * e.size, none⟩)) :: m) H g K) :
    OpOk P K Q ⟨some d, .indexAddr T x ix, ty, pos, after, gd⟩ n w0 m H g := by
  obtain ⟨cells, hl, hr, hc⟩ := hR.get he
  have hc' : ∀ j v, cells[j]? = some v → xs[q.toNat * e.size + j]? = some v := fun j v hj => by
    rw [hc j (by rw [← hl]; exact (List.getElem?_eq_some_iff.1 hj).1)]; exact hj
  have hlt : q.toNat < l.length := (List.getElem?_eq_some_iff.1 he).1
  have hb : q < (len : Int) := by omega
  refine OpOk.step (v := .pointer (some ⟨b, q.toNat * e.size, none⟩)) (fun ac W hA hW => ?_) rfl hn (h cells hl hr hc')
  cases hinf : P.info? E with
  | none => simp [hinf] at hs
  | some inf =>
    simp only [hinf, Option.map_some, Option.some.injEq] at hs
    simp only [execOp, hA.eval hx, hA.eval hix]
    simp [Instr.indexAt, Instr.sureAddr, asIntOf, underlying, hu, h0, hb, sizeOf, typeInfo, hinf, hs, Addr.add_plain, go_sem]
theorem OpOk.sliceArr {d : Nat} {T E ty : TypeId} {x : Operand} {lo hi : Option Operand} {pos : String} {after : Array Edge} {gd : Option (Nat × Bool)} {K : Act → World → Prop} {e : Ty} {b c : Nat} {xs : List e.den} {l h : Int}
    (hx : val m x = some (.pointer (some ⟨b, 0, none⟩))) (hu : P.underlying T = some (.array c E)) (hs : (P.info? E).map (·.size) = some e.size) (hlen : xs.length = c)
    (hl : (∃ o k, lo = some o ∧ val m o = some (.int k l)) ∨ (lo = none ∧ l = 0)) (hh : (∃ o k, hi = some o ∧ val m o = some (.int k h)) ∨ (hi = none ∧ h = (xs.length : Int)))
    (hR : Rep g (.slice e) [.slice (some ⟨b, 0, none⟩) xs.length c] xs) (h0 : 0 ≤ l) (h1 : l ≤ h) (h2 : h ≤ xs.length) (hn : Nat.ble (d + 1) n = true) (ys : List e.den) (hys : (xs.take h.toNat).drop l.toNat = ys)
    (hk : ∀ a' c', Rep g (.slice e) [.slice a' ys.length c'] ys → Ok n w0 ((d, .slice a' ys.length c') :: m) H g K) :
    OpOk P K Q ⟨some d, .slice T x lo hi none, ty, pos, after, gd⟩ n w0 m H g := by
  subst hys
  obtain ⟨a1, c1, hcs, ⟨hm1, hm2⟩, hel⟩ := hR
  simp only [List.cons.injEq, Value.slice.injEq, and_true] at hcs
  obtain ⟨rfl, -, rfl⟩ := hcs
  have hlen2 : ((xs.take h.toNat).drop l.toNat).length = h.toNat - l.toNat := by simp; omega
  refine OpOk.step (v := .slice (some (if c = l.toNat then (⟨b, 0, none⟩ : Addr) else (⟨b, 0, none⟩ : Addr).add (l.toNat * e.size))) ((xs.take h.toNat).drop l.toNat).length (c - l.toNat)) (fun ac W hA hW => ?_) rfl hn (hk _ _ ⟨_, _, rfl, by rw [hlen2]; omega, fun i y hy => ?_⟩)
  · rw [hlen2]
    cases hinf : P.info? E with
    | none => simp [hinf] at hs
    | some inf =>
      simp only [hinf, Option.map_some, Option.some.injEq] at hs
      have e1 : ((h.toNat : Nat) : Int) = h := by omega
      have hcap : h ≤ (c : Int) := by omega
      rcases hl with ⟨o, k, rfl, ho⟩ | ⟨rfl, rfl⟩ <;> rcases hh with ⟨o', k', rfl, ho'⟩ | ⟨rfl, rfl⟩
      · simp only [execOp, hA.eval hx, hA.eval ho, hA.eval ho', Option.map_some, Option.map_none]
        simp [Instr.sliceAt, Instr.sureAddr, underlying, hu, Instr.sliceBounds, Instr.sliceBound, asIntOf, h0, show 0 ≤ h by omega, hcap, e1, h1, sizeOf, typeInfo, hinf, hs, go_sem]
      · simp only [execOp, hA.eval hx, hA.eval ho, Option.map_some, Option.map_none]
        have h1' : l ≤ (c : Int) := by omega
        simp [Instr.sliceAt, Instr.sureAddr, underlying, hu, Instr.sliceBounds, Instr.sliceBound, asIntOf, h0, h1', hlen, sizeOf, typeInfo, hinf, hs, go_sem]
      · simp only [execOp, hA.eval hx, hA.eval ho', Option.map_some, Option.map_none]
        simp [Instr.sliceAt, Instr.sureAddr, underlying, hu, Instr.sliceBounds, Instr.sliceBound, asIntOf, h1, hcap, sizeOf, typeInfo, hinf, go_sem]
      · simp only [execOp, hA.eval hx, Option.map_none]
        simp [Instr.sliceAt, Instr.sureAddr, underlying, hu, Instr.sliceBounds, hlen, sizeOf, typeInfo, hinf, go_sem]
  · have hi2 : xs[l.toNat + i]? = some y := by
      rw [List.getElem?_drop] at hy
      rw [List.getElem?_take] at hy
      split at hy
      · exact hy
      · cases hy
    obtain ⟨b', off, hab, ecs, he1, hat, hr⟩ := hel _ _ hi2
    have hlt : l.toNat + i < xs.length := (List.getElem?_eq_some_iff.1 hi2).1
    simp only [Option.some.injEq, Addr.mk.injEq, and_true] at hab
    obtain ⟨rfl, rfl⟩ := hab
    refine ⟨b, 0 + l.toNat * e.size, ?_, ecs, he1, ?_, hr⟩
    · rw [if_neg (by omega)]
      simp [Addr.add_plain]
    · rw [Nat.add_assoc, ← Nat.add_mul]; exact hat
end
end Go.Eng
