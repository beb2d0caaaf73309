/-
 A slice of the call's own is cut at its end and kept. No program in sight.
-/
import Derived.Test.YtdjcgbejnpbjlaaGreatDoorSto
namespace Go.Eng
open Go.RowKit (Below)
section
variable {P : Program} {n : Fsz} {w0 : Base} {m : Env} {H : List Ent} {g : Ghost} {R : Act → World → Prop} {Q : Exit → Act → World → Prop} {ops : Array Oper}
theorem RepL.take {e : Ty} : ∀ {l : List e.den} {xs : List Value} (k : Nat), RepL g e xs l → RepL g e (xs.take (k * e.size)) (l.take k)
 | l, xs, 0, _ => by rw [Nat.zero_mul, List.take_zero, List.take_zero]; rfl
 | [], xs, k + 1, h => by rw [show xs = [] from h]; simp; rfl
 | x :: l, xs, k + 1, ⟨c, r, h1, h2, h3⟩ => by
  refine ⟨c, r.take (k * e.size), ?_, h2, RepL.take k h3⟩
  rw [h1, Nat.succ_mul, Nat.add_comm, ← h2.size, List.take_length_add_append]
theorem OpOk.cutOwn {K : Act → World → Prop} {d : Nat} {T E ty : TypeId} {x o : Operand} {pos : String} {after : Array Edge} {gd : Option (Nat × Bool)} {k : IntKind} {h : Int} {e : Ty} {l : List e.den} {xs : List Value} {a : Option Addr} {c : Nat}
  (i : Nat) (hx : val m x = some (.slice a l.length c)) (ho : val m o = some (.int k h)) (hi : H[i]? = some (.own (.slice a l.length c) E e.size l.length xs)) (hR : RepL g e xs l)
  (hu : P.underlying T = some (.slice E)) (hs : (P.info? E).map (·.size) = some e.size) (h0 : 0 ≤ h) (h2 : h ≤ (l.length : Int)) (hn : Nat.ble (d + 1) n = true)
  (hk : ∀ xs2, RepL g e xs2 (l.take h.toNat) → Ok n w0 ((d, .slice a (l.take h.toNat).length c) :: m) (H.set i (.own (.slice a (l.take h.toNat).length c) E e.size (l.take h.toNat).length xs2)) g K) :
  OpOk P K Q ⟨some d, .slice T x none (some o) none, ty, pos, after, gd⟩ n w0 m H g := fun ac W hA hW => by
 have hok : W.ownsRow 0 E e.size (.slice a l.length c) l.length xs := hW.ents _ (List.mem_of_getElem? hi)
 have hlen : (l.take h.toNat).length = h.toNat := by rw [List.length_take]; omega
 have hl : (l.length : Int) ≤ c := by
  rcases hok.2 with ⟨he, hl⟩ | ⟨b, cap, cur, he, hB, hh, hcap, hmax, hsize, htake⟩
  ·simp only [Value.slice.injEq] at he; omega
  ·simp only [Value.slice.injEq] at he; omega
 have e1 : ((h.toNat : Nat) : Int) = h := by omega
 have hcap : h ≤ (c : Int) := by omega
 show Oper.upon P _ ac _ Q (Sem.run P (execOp ac.eval _) W)
 have ev : (execOp ac.eval ⟨some d, .slice T x none (some o) none, ty, pos, after, gd⟩).run P W = .ok (.value (.slice a h.toNat c)) W := by
  cases hinf : P.info? E with
  | none => simp [hinf] at hs
  | some inf =>
   simp only [hinf, Option.map_some, Option.some.injEq] at hs
   simp only [execOp, hA.eval hx, hA.eval ho, Option.map_some, Option.map_none]
   simp [Instr.sliceAt, underlying, hu, Instr.slice, Instr.sliceBounds, Instr.sliceBound, asIntOf, h0, hcap, sizeOf, typeInfo, hinf, go_sem]
 rw [ev, Oper.upon_value]
 have hk := hk _ (RepL.take h.toNat hR)
 rw [hlen] at hk
 refine hk _ W (hA.put (Nat.le_of_ble_eq_true hn) _) (hW.grown (e' := .own (.slice a h.toNat c) E e.size h.toNat (xs.take (h.toNat * e.size))) hi ⟨rfl, rfl, rfl, Nat.le_refl _, fun _ _ _ => rfl⟩ ?_ (.inl ?_))
 ·show W.ownsRow 0 E e.size (.slice a h.toNat c) h.toNat (xs.take (h.toNat * e.size))
  have hlx := hok.1
  refine ⟨?_, ?_⟩
  ·rw [List.length_take, hlx]
   exact Nat.min_eq_left (Nat.mul_le_mul_right _ (by omega))
  ·rcases hok.2 with ⟨he, hl⟩ | ⟨b, cap, cur, he, hB, hh, hcap, hmax, hsize, htake⟩
   ·simp only [Value.slice.injEq] at he
    obtain ⟨rfl, -, rfl⟩ := he
    exact .inl ⟨by rw [show h.toNat = 0 by omega], by omega⟩
   ·simp only [Value.slice.injEq, true_and] at he
    obtain ⟨rfl, rfl⟩ := he
    refine .inr ⟨b, c, cur, rfl, hB, hh, by omega, hmax, hsize, ?_⟩
    rw [← htake, List.take_take, Nat.min_eq_left (Nat.mul_le_mul_right _ (by omega))]
 ·show (Value.slice a h.toNat c).ownBlock = (Value.slice a l.length c).ownBlock
  cases a <;> rfl
end
end Go.Eng
