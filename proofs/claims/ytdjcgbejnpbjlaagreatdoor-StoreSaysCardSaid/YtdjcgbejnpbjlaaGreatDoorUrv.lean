/- Addresses: the reference's Addressed. -/
import Derived.Test.YtdjcgbejnpbjlaaGreatDoorUrp
namespace Go.Proofs.YtdjcgbejnpbjlaaGreatDoor.Ub
open Go Go.Eng Go.RowKit Go.Shelf Go.Proofs Bld Sp Ti Uc Ua Ui
set_option linter.unusedVariables false
noncomputable section
/-! what stands behind the scheme -/
theorem hpf_cons (r : List UInt8) : hpfM (58 :: r) [58, 47, 47] = (cpfM r [47, 47]).2 ∧ ((cpfM r [47, 47]).2 = true → (cpfM r [47, 47]).1 = r.drop 2) := by
 have h1 : hpfM (58 :: r) [58, 47, 47] = slhpM r [47, 47] := by
  show slhpM (58 :: r) [58, 47, 47] = slhpM r [47, 47]
  have hh : ∀ s p : List UInt8, slhpM s p = (decide ((s.length : Int) ≥ (p.length : Int)) && ((s.take (Int.toNat (p.length : Int))) == p)) := fun _ _ => rfl
  rw [hh, hh]
  match r with
  | [] => rfl
  | [a] => rfl
  | a :: b :: t =>
   rw [decide_eq_true (show ((58 :: a :: b :: t).length : Int) ≥ (([58, 47, 47] : List UInt8).length : Int) by simp only [List.length_cons, List.length_nil]; omega), decide_eq_true (show ((a :: b :: t).length : Int) ≥ (([47, 47] : List UInt8).length : Int) by simp only [List.length_cons, List.length_nil]; omega), Bool.true_and, Bool.true_and]
   show ([58, a, b] == [58, 47, 47]) = ([a, b] == [47, 47])
   rw [List.cons_beq_cons]; rfl
 have h2 : cpfM r [47, 47] = if (!(slhpM r [47, 47])) = true then (r, false) else (r.drop 2, true) := rfl
 rw [h1, h2]
 cases slhpM r [47, 47]
 ·exact ⟨rfl, fun h => by cases h⟩
 ·exact ⟨rfl, fun _ => rfl⟩
theorem sch_drop (s : List UInt8) (h : (schS s).2.2 = true) : s.drop (schS s).1.length = 58 :: (schS s).2.1 := by
 rw [sch_eq] at h ⊢
 split at h
 ·rename_i hc
  rw [if_pos hc]
  rw [Bool.and_eq_true] at hc
  have hl : (lowS (s.takeWhile (ne1 58))).length = (s.takeWhile (ne1 58)).length := by unfold lowS; rw [List.length_map]
  show s.drop (lowS (s.takeWhile (ne1 58))).length = 58 :: (s.dropWhile (ne1 58)).drop 1
  rw [hl]
  have e : s.drop (s.takeWhile (ne1 58)).length = s.dropWhile (ne1 58) := by
   conv => lhs; rhs; rw [← List.takeWhile_append_dropWhile (p := ne1 58) (l := s)]
   rw [List.drop_left]
  rw [e]
  have hd := (tpf_dw 58 s).2
  rw [hc.1] at hd
  cases hq : s.dropWhile (ne1 58) with
  | nil => rw [hq] at hd; cases hd
  | cons a r =>
   have : ∀ l : List UInt8, l.dropWhile (ne1 58) = a :: r → a = 58 := by
    intro l
    induction l with
    | nil => intro h; cases h
    | cons b l ih =>
     intro h
     rw [List.dropWhile_cons] at h
     by_cases hb : ne1 58 b = true
     ·rw [if_pos hb] at h; exact ih h
     ·rw [if_neg hb] at h
      injection h with h1 h2
      rw [← h1]
      have hb : ne1 58 b = false := by simpa using hb
      unfold ne1 at hb
      simpa using hb
   rw [this s hq]; rfl
 ·cases h
/-! digits -/
def dgC (c : UInt8) : Bool := DGL.contains c
def dgV (n : Int) : List UInt8 → Int
 | [] => n
 | c :: l => dgV (10 * n + ((c.toNat : Int) - 48)) l
theorem dg_byte (c : UInt8) : rbetM (w6 (c.toNat : Int)) 48 57 = dgC c ∧ (dgC c = true → 48 ≤ c.toNat ∧ c.toNat ≤ 57) := by
 have := byte_all (p := fun c => (rbetM (w6 (c.toNat : Int)) 48 57 == dgC c) && (!(dgC c) || (decide (48 ≤ c.toNat) && decide (c.toNat ≤ 57)))) (by decide +kernel) c
 rw [Bool.and_eq_true, beq_iff_eq, Bool.or_eq_true, Bool.and_eq_true, decide_eq_true_eq, decide_eq_true_eq] at this
 refine ⟨this.1, fun h => ?_⟩
 rcases this.2 with h2 | h2
 ·rw [h] at h2; cases h2
 ·exact h2
theorem dgV_bound : ∀ (l : List UInt8) (n : Int), l.all dgC = true → 0 ≤ n → 0 ≤ dgV n l ∧ dgV n l < (n + 1) * 10 ^ l.length
 | [], n, _, h => by
  refine ⟨h, ?_⟩
  show n < (n + 1) * 1
  omega
 | c :: l, n, ha, h => by
  rw [List.all_cons, Bool.and_eq_true] at ha
  have hc := (dg_byte c).2 ha.1
  obtain ⟨i1, i2⟩ := dgV_bound l (10 * n + ((c.toNat : Int) - 48)) ha.2 (by omega)
  refine ⟨i1, ?_⟩
  rw [List.length_cons, Int.pow_succ]
  show dgV (10 * n + ((c.toNat : Int) - 48)) l < _
  have hp : (0 : Int) < 10 ^ l.length := Int.pow_pos (by decide)
  have h3 : (10 * n + ((c.toNat : Int) - 48) + 1) * 10 ^ l.length ≤ ((n + 1) * 10) * 10 ^ l.length := Int.mul_le_mul_of_nonneg_right (by omega) (Int.le_of_lt hp)
  have h4 : ((n + 1) * 10) * 10 ^ l.length = (n + 1) * (10 ^ l.length * 10) := by
   rw [Int.mul_assoc, Int.mul_comm 10]
  omega
theorem pu_dg : ∀ (l : List UInt8) (n : Nat), l.all dgC = true → (n + 1) * 10 ^ l.length ≤ 1000000 → Lib.parseUint10 n l = .ok (dgV (n : Int) l).toNat
 | [], n, _, _ => by
  show Lib.NumEnd.ok n = .ok ((n : Int)).toNat
  rw [Int.toNat_natCast]
 | c :: l, n, ha, hb => by
  rw [List.all_cons, Bool.and_eq_true] at ha
  have hc := (dg_byte c).2 ha.1
  rw [List.length_cons, Nat.pow_succ] at hb
  have hp : 1 ≤ 10 ^ l.length := Nat.one_le_pow _ _ (by decide)
  have hn : n ≤ 1000000 := by
   have h1 : (n + 1) * 1 ≤ (n + 1) * (10 ^ l.length * 10) := Nat.mul_le_mul_left _ (by omega)
   omega
  have hstep : (n * 10 + (c.toNat - 48) + 1) * 10 ^ l.length ≤ 1000000 := by
   refine Nat.le_trans ?_ hb
   have h1 : (n * 10 + (c.toNat - 48) + 1) * 10 ^ l.length ≤ ((n + 1) * 10) * 10 ^ l.length := Nat.mul_le_mul_right _ (by omega)
   have h2 : ((n + 1) * 10) * 10 ^ l.length = (n + 1) * (10 ^ l.length * 10) := by rw [Nat.mul_assoc, Nat.mul_comm 10]
   omega
  rw [Lib.parseUint10, if_pos ⟨hc.1, hc.2⟩, if_neg (by omega), if_neg (by omega), pu_dg l _ ha.2 hstep]
  show _ = Lib.NumEnd.ok (dgV (10 * (n : Int) + ((c.toNat : Int) - 48)) l).toNat
  rw [show ((n * 10 + (c.toNat - 48) : Nat) : Int) = 10 * (n : Int) + ((c.toNat : Int) - 48) by omega]
theorem pow_le5 {k : Nat} (h : k ≤ 5) : 10 ^ k ≤ 100000 := by
 have : k = 0 ∨ k = 1 ∨ k = 2 ∨ k = 3 ∨ k = 4 ∨ k = 5 := by omega
 rcases this with rfl | rfl | rfl | rfl | rfl | rfl <;> decide
theorem dg_small {l : List UInt8} (ha : l.all dgC = true) (hl : l.length ≤ 5) : 0 ≤ dgV 0 l ∧ dgV 0 l < 100000 := by
 obtain ⟨h1, h2⟩ := dgV_bound l 0 ha (by decide)
 refine ⟨h1, ?_⟩
 have h3 := pow_le5 hl
 have h4 : ((10 ^ l.length : Nat) : Int) = (10 : Int) ^ l.length := by rw [Int.natCast_pow]; rfl
 rw [Int.zero_add, Int.one_mul, ← h4] at h2
 omega
theorem atoi_dg {l : List UInt8} (h0 : l ≠ []) (ha : l.all dgC = true) (hl : l.length ≤ 5) : atoiS l = (dgV 0 l, true) := by
 have hb := dg_small ha hl
 cases l with
 | nil => exact absurd rfl h0
 | cons c r =>
  have hc : dgC c = true := by rw [List.all_cons, Bool.and_eq_true] at ha; exact ha.1
  have hcr := (dg_byte c).2 hc
  have h3 := pow_le5 hl
  have hp := pu_dg (c :: r) 0 ha (by omega)
  have e : Lib.atoiAll (c :: r) = .ok (dgV 0 (c :: r)) := by
   rw [Lib.atoiAll_plain c r (by omega) (by omega)]
   unfold Lib.parseMag
   rw [if_neg (by simp), hp]
   show Lib.signless (.ok (dgV 0 (c :: r)).toNat) = _
   unfold Lib.signless
   simp only
   rw [if_neg (by omega), Int.toNat_of_nonneg hb.1]
  unfold atoiS
  rw [e]
/-! a port -/
theorem own_port (sch : List UInt8) (n : Int) (h : badN n = false) : (if (n != uownM sch) = true then n else 0) = if ((!((sch == [104, 116, 116, 112]) && (n == 80))) && (!((sch == [104, 116, 116, 112, 115]) && (n == 443)))) = true then n else 0 := by
 unfold badN at h
 rw [Bool.or_eq_false_iff] at h
 have h1 := of_decide_eq_false h.1
 unfold uownM
 by_cases ha : (sch == [104, 116, 116, 112]) = true
 ·rw [if_t ha]
  have hs : sch = [104, 116, 116, 112] := by simpa using ha
  rw [ha, show (sch == [104, 116, 116, 112, 115]) = false by rw [hs]; rfl, Bool.true_and, Bool.false_and]
  by_cases hn : n = 80
  ·subst hn; rfl
  ·rw [if_pos (by simpa using hn), if_pos (by simpa using hn)]
 ·have ha : (sch == [104, 116, 116, 112]) = false := by simpa using ha
  rw [if_f ha, ha, Bool.false_and]
  by_cases hb : (sch == [104, 116, 116, 112, 115]) = true
  ·rw [if_t hb, hb, Bool.true_and]
   by_cases hn : n = 443
   ·subst hn; rfl
   ·rw [if_pos (by simpa using hn), if_pos (by simpa using hn)]
  ·have hb : (sch == [104, 116, 116, 112, 115]) = false := by simpa using hb
   rw [if_f hb, hb, if_pos (by rw [bne_iff_ne]; omega)]
   rfl
theorem badP_eq (p : List UInt8) : badP p = (p == [] || (decide (p.length > 5) || !(p.all dgC))) := by
 unfold badP
 rw [trim_nil, show decide ((p.length : Int) > 5) = decide (p.length > 5) from decide_eq_decide.2 (by omega)]
 cases p with
 | nil => rfl
 | cons a r =>
  rw [show decide (((a :: r).length : Int) < 1) = false from decide_eq_false (by simp; omega)]
  rfl
end
end Go.Proofs.YtdjcgbejnpbjlaaGreatDoor.Ub
