/- selector: what its reader reads, plain. -/
import Derived.Test.YtcnhdkhkadiohaaGreatDoorSya
import Derived.Lib.AtoiAll
import Derived.Lib.ItoaLen
namespace Go.Proofs.YtcnhdkhkadiohaaGreatDoor.Se
open Go Go.Eng Bld Trm Css Tk Rp Qu Me
set_option linter.unusedVariables false
def vI (s : List UInt8) : Int := match Lib.atoiAll s with | .ok v => v | _ => 0
def nthV (s : List UInt8) : Int × Int × Bool := (vI (s.takeWhile fun c => !(c == 110)), vI ((s.dropWhile fun c => !(c == 110)).drop 1), true)
def runS : Rd → List UInt8 × Rd
 | [] => ([], [])
 | t :: r => if (t.2.1 == [41]) = true then ([], r) else (t.2.1 ++ (runS r).1, (runS r).2)
def cntR (r : Rd) (k : Int) : Ts × Rd := (.mk (k, [], 0, [], (nthV (runS r).1).1, (nthV (runS r).1).2.1) [], (runS r).2)
def tNo : Ts := .mk (0, [], 0, [], 0, 0) []
mutual
def oneN : Nat → Rd → Ts × Bool × Rd
 | 0, r => (tNo, false, r)
 | k + 1, r =>
  if ((pekS r).1.2.1 == [42]) = true then (.mk (1, [], 0, [], 0, 0) [], true, r.drop 1)
  else if ((pekS r).1.1 == 1) = true then (.mk (2, lowerS (pekS r).1.2.2.1, 0, [], 0, 0) [], true, r.drop 1)
  else if ((pekS r).1.1 == 4) = true then (.mk (3, (pekS r).1.2.2.1, 0, [], 0, 0) [], true, r.drop 1)
  else if ((pekS r).1.2.1 == [46]) = true then (.mk (4, (pekS (r.drop 1)).1.2.2.1, 0, [], 0, 0) [], true, r.drop 2)
  else if ((pekS r).1.2.1 == [91]) = true then ((atrR (r.drop 1)).1, true, (atrR (r.drop 1)).2)
  else if ((pekS r).1.2.1 == [58]) = true then ((pssN k (r.drop 1)).1, true, (pssN k (r.drop 1)).2)
  else (tNo, false, r)
def pssN : Nat → Rd → Ts × Rd
 | 0, r => (tNo, r)
 | k + 1, r =>
  if ((pekS r).1.1 == 1) = true then (if (lowerS (pekS r).1.2.2.1 == wRoot) = true then .mk (6, [], 0, [], 0, 0) [] else if (lowerS (pekS r).1.2.2.1 == wEmpty) = true then .mk (7, [], 0, [], 0, 0) [] else tNo, r.drop 1)
  else if (lowerS (pekS r).1.2.2.1 == wNc) = true then cntR (r.drop 1) 8
  else if (lowerS (pekS r).1.2.2.1 == wNl) = true then cntR (r.drop 1) 9
  else if (lowerS (pekS r).1.2.2.1 == wNot) = true then (.mk (10, [], 0, [], 0, 0) (lstN k (r.drop 1) [41]).1, (lstN k (r.drop 1) [41]).2)
  else (.mk (11, [], 0, [], 0, 0) (lstN k (r.drop 1) [41]).1, (lstN k (r.drop 1) [41]).2)
def stpN : Nat → Rd → List Ts × Rd
 | 0, r => ([], r)
 | k + 1, r => if (oneN k r).2.1 = true then ((oneN k r).1 :: (stpN k (oneN k r).2.2).1, (stpN k (oneN k r).2.2).2) else ([], (oneN k r).2.2)
def ptlN : Nat → Rd → List (List Ts) × List Int × Rd
 | 0, r => ([], [], r)
 | k + 1, r =>
  if (((pekS (gapS r).2).1.2.1 == [62]) || (((pekS (gapS r).2).1.2.1 == [43]) || ((pekS (gapS r).2).1.2.1 == [126]))) = true then
   ((stpN k (gapS ((gapS r).2.drop 1)).2).1 :: (ptlN k (stpN k (gapS ((gapS r).2.drop 1)).2).2).1, (((pekS (gapS r).2).1.2.1.getD 0 0).toNat : Int) :: (ptlN k (stpN k (gapS ((gapS r).2.drop 1)).2).2).2.1, (ptlN k (stpN k (gapS ((gapS r).2.drop 1)).2).2).2.2)
  else if ((gapS r).1 && (((pekS (gapS r).2).1.1 != 0) && (!((pekS (gapS r).2).1.2.1 == [44]) && !((pekS (gapS r).2).1.2.1 == [41])))) = true then
   ((stpN k (gapS r).2).1 :: (ptlN k (stpN k (gapS r).2).2).1, 32 :: (ptlN k (stpN k (gapS r).2).2).2.1, (ptlN k (stpN k (gapS r).2).2).2.2)
  else ([], [], (gapS r).2)
def pthN : Nat → Rd → Ph × Rd
 | 0, r => (([], []), r)
 | k + 1, r => (((stpN k r).1 :: (ptlN k (stpN k r).2).1, (ptlN k (stpN k r).2).2.1), (ptlN k (stpN k r).2).2.2)
def lstN : Nat → Rd → List UInt8 → List Ph × Rd
 | 0, r, _ => ([], r)
 | k + 1, r, e =>
  if ((pekS (gapS (pthN k (gapS r).2).2).2).1.2.1 == [44]) = true then
   ((pthN k (gapS r).2).1 :: (lstN k ((gapS (pthN k (gapS r).2).2).2.drop 1) e).1, (lstN k ((gapS (pthN k (gapS r).2).2).2.drop 1) e).2)
  else ([(pthN k (gapS r).2).1], if (e == []) = true then (gapS (pthN k (gapS r).2).2).2 else (gapS (pthN k (gapS r).2).2).2.drop 1)
end
/-! what is read from the tokens of a text -/
theorem run_read {u : List UInt8} {us : List Tok} (h : RunT u us) (rest : Rd) : runS (us ++ clT :: rest) = (u, rest) := by
 obtain ⟨rfl, h2⟩ := h
 induction us with
 | nil => rfl
 | cons t us ih =>
  have ht := (h2 t (List.mem_cons_self ..)).2
  rw [List.cons_append, runS, if_neg (by simpa using ht), ih (fun y hy => h2 y (List.mem_cons_of_mem _ hy))]
  simp
theorem mk_eq {t : Ts} {x : Lb} {l : List Ph} (h1 : t.lab = x) (h2 : t.kids = l) : Tst.mk x l = t := by
 obtain ⟨y, k⟩ := t
 rw [show x = y from h1.symm, show l = k from h2.symm]
theorem lbl_eq {t : Ts} {k a b : Int} {n v : List UInt8} {o : Int} (h1 : t.lab.1 = k) (h2 : t.lab.2.1 = n) (h3 : t.lab.2.2.1 = o) (h4 : t.lab.2.2.2.1 = v) (h5 : t.lab.2.2.2.2.1 = a) (h6 : t.lab.2.2.2.2.2 = b) : t.lab = (k, n, o, v, a, b) := by
 obtain ⟨⟨x1, x2, x3, x4, x5, x6⟩, l⟩ := t
 simp only [Tst.lab] at *
 rw [h1, h2, h3, h4, h5, h6]
def ntR : Rd → Bool
 | [] => true
 | t :: _ => t == bl || (t == sg 44 || t == clT)
def endR : Rd → Bool
 | [] => true
 | t :: _ => t == sg 44 || t == clT
theorem take_not {p : UInt8 → Bool} {b : UInt8} (hb : p b = false) : ∀ (x r : List UInt8), (∀ c ∈ x, p c = true) → (x ++ b :: r).takeWhile p = x ∧ (x ++ b :: r).dropWhile p = b :: r
 | [], r, _ => by rw [List.nil_append, List.takeWhile_cons_of_neg (by rw [hb]; simp), List.dropWhile_cons_of_neg (by rw [hb]; simp)]; exact ⟨rfl, rfl⟩
 | c :: x, r, h => by
  have ih := take_not hb x r (fun y hy => h y (List.mem_cons_of_mem _ hy))
  have hc := h c (List.mem_cons_self ..)
  rw [List.cons_append, List.takeWhile_cons_of_pos hc, List.dropWhile_cons_of_pos hc, ih.1, ih.2]
  exact ⟨rfl, rfl⟩
theorem dec_no (u : Nat) : ∀ c ∈ Lib.decDigits u, (!(c == 110)) = true := by
 induction u using Nat.strongRecOn with
 | _ u ih =>
  have dig : ∀ n : Nat, n < 10 → (!(UInt8.ofNat (48 + n) == 110)) = true := fun n hn => by
   have : ∀ k : Fin 10, (!(UInt8.ofNat (48 + k.val) == 110)) = true := by decide +kernel
   exact this ⟨n, hn⟩
  intro c hc
  rw [Lib.decDigits] at hc
  split at hc
  ·rw [List.mem_singleton] at hc; subst hc; exact dig u (by omega)
  rcases List.mem_append.1 hc with hc | hc
  ·exact ih (u / 10) (by omega) c hc
  rw [List.mem_singleton] at hc; subst hc; exact dig (u % 10) (by omega)
theorem itoa_no (n : Int) : ∀ c ∈ Lib.itoa n, (!(c == 110)) = true := by
 intro c hc
 unfold Lib.itoa at hc
 split at hc
 ·rcases List.mem_cons.1 hc with rfl | hc
  ·decide
  exact dec_no _ c hc
 exact dec_no _ c hc
def vIok : Prop := ∀ n : Int, -1000 ≤ n ∧ n ≤ 1000 → vI (Lib.itoa n) = n ∧ (0 ≤ n → vI (43 :: Lib.itoa n) = n)
theorem vI_ok : vIok := fun n h => by
 have : ∀ k : Fin 2001, vI (Lib.itoa ((k.val : Int) - 1000)) = (k.val : Int) - 1000 ∧ (0 ≤ (k.val : Int) - 1000 → vI (43 :: Lib.itoa ((k.val : Int) - 1000)) = (k.val : Int) - 1000) := by decide +kernel
 have := this ⟨(n + 1000).toNat, by omega⟩
 rw [show (((⟨(n + 1000).toNat, by omega⟩ : Fin 2001).val : Int) - 1000) = n by show (((n + 1000).toNat : Nat) : Int) - 1000 = n; omega] at this
 exact this
theorem nthV_eq {a b : Int} (ha : -1000 ≤ a ∧ a ≤ 1000) (hb : -1000 ≤ b ∧ b ≤ 1000) : nthV (nthS a b) = (a, b, true) := by
 unfold nthV nthS
 by_cases h : b < 0
 ·rw [if_pos h]
  obtain ⟨e1, e2⟩ := take_not (p := fun c => !(c == 110)) (b := 110) (by decide) (Lib.itoa a) (Lib.itoa b) (itoa_no a)
  rw [e1, e2, (vI_ok a ha).1, List.drop_one, List.tail_cons, (vI_ok b hb).1]
 rw [if_neg h]
 obtain ⟨e1, e2⟩ := take_not (p := fun c => !(c == 110)) (b := 110) (by decide) (Lib.itoa a) (43 :: Lib.itoa b) (itoa_no a)
 rw [e1, e2, (vI_ok a ha).1, List.drop_one, List.tail_cons, (vI_ok b hb).2 (by omega)]
def OneOK (t : Ts) : Prop := ∀ i, okT t i = true → ∀ ts, TkT t ts → 1 ≤ ts.length ∧ ∀ rest k, 8 * ts.length + 1 ≤ k → oneN k (ts ++ rest) = (t, true, rest)
theorem leaf_eq {t : Ts} {i : Int} (h : okT t i = true) (h5 : t.lab.1 ≠ 5) (h8 : ¬ (t.lab.1 = 8 ∨ t.lab.1 = 9)) (hk : ¬ (t.lab.1 = 10 ∨ t.lab.1 = 11)) : Tst.mk (t.lab.1, t.lab.2.1, 0, [], 0, 0) [] = t := by
 rw [okT_eq, Bool.and_eq_true] at h
 have hf := lab_facts h.1
 have h2 := h.2
 rw [if_neg (by simpa using hk)] at h2
 have ho : t.lab.2.2.1 = 0 := Classical.byContradiction fun ho => h5 (hf.op ho).1
 exact mk_eq (lbl_eq rfl rfl ho (hf.val ho) (hf.ab h8).1 (hf.ab h8).2) (List.eq_nil_of_length_eq_zero (by have := eq_of_beq h2; omega))
theorem one_read {t : Ts} {i : Int} (hi : okT t i = true)
  (hk : t.lab.1 = 10 ∨ t.lab.1 = 11 → ∀ us, Tk3 t.kids us → ∀ rest k, 8 * us.length + 8 ≤ k → lstN k (us ++ clT :: rest) [41] = (t.kids, rest)) :
  ∀ ts, TkT t ts → 1 ≤ ts.length ∧ ∀ rest k, 8 * ts.length + 1 ≤ k → oneN k (ts ++ rest) = (t, true, rest) := by
 intro ts hts
 rw [TkT_eq] at hts
 have hi' := hi
 rw [okT_eq, Bool.and_eq_true] at hi'
 have hf := lab_facts hi'.1
 obtain ⟨hab, -, -⟩ := lab_ab hi'.1
 have n0 : 2 ≤ t.lab.1 → t.lab.1 ≤ 5 → t.lab.2.1 ≠ [42] := fun a b e => by
  have := hf.name a b
  rw [e] at this
  exact absurd this (by decide +kernel)
 rcases kinds hf with e | e | e | e | e | e | e | e | e | e | e
 ·rw [tkL_1 e] at hts; subst hts
  have ht := leaf_eq hi (by omega) (by omega) (by omega)
  rw [e, hf.un (by omega)] at ht
  refine ⟨Nat.le_refl _, fun rest k hkk => ?_⟩
  obtain ⟨k, rfl⟩ : ∃ j, k = j + 1 := ⟨k - 1, by omega⟩
  simp [oneN, pekS, ht]
 ·rw [tkL_2 e] at hts; subst hts
  have ht := leaf_eq hi (by omega) (by omega) (by omega)
  rw [e] at ht
  refine ⟨Nat.le_refl _, fun rest k hkk => ?_⟩
  obtain ⟨k, rfl⟩ : ∃ j, k = j + 1 := ⟨k - 1, by omega⟩
  simp [oneN, pekS, ht, n0 (by omega) (by omega), hf.low (.inl e)]
 ·rw [tkL_3 e] at hts; subst hts
  have ht := leaf_eq hi (by omega) (by omega) (by omega)
  rw [e] at ht
  refine ⟨Nat.le_refl _, fun rest k hkk => ?_⟩
  obtain ⟨k, rfl⟩ : ∃ j, k = j + 1 := ⟨k - 1, by omega⟩
  simp [oneN, pekS, ht]
 ·rw [tkL_4 e] at hts; subst hts
  have ht := leaf_eq hi (by omega) (by omega) (by omega)
  rw [e] at ht
  refine ⟨by simp, fun rest k hkk => ?_⟩
  obtain ⟨k, rfl⟩ : ∃ j, k = j + 1 := ⟨k - 1, by omega⟩
  simp [oneN, pekS, ht]
 ·rw [tkL_5 e] at hts
  have h2 := hi'.2
  rw [if_neg (by rw [e]; decide)] at h2
  have hkid : t.kids = [] := List.eq_nil_of_length_eq_zero (by have := eq_of_beq h2; omega)
  have hA := hf.ab (by omega)
  by_cases h0 : (t.lab.2.2.1 == 0) = true
  ·rw [if_pos h0] at hts; subst hts
   have ho : t.lab.2.2.1 = 0 := eq_of_beq h0
   have ht : Tst.mk (5, t.lab.2.1, 0, [], 0, 0) [] = t := mk_eq (lbl_eq e rfl ho (hf.val ho) hA.1 hA.2) hkid
   refine ⟨by simp, fun rest k hkk => ?_⟩
   obtain ⟨k, rfl⟩ : ∃ j, k = j + 1 := ⟨k - 1, by omega⟩
   simp [oneN, pekS, atrR, ht]
  rw [if_neg h0] at hts; subst hts
  have hz := op_vals (hf.op (by simpa using h0)).2
  have ht : Tst.mk (5, t.lab.2.1, t.lab.2.2.1, t.lab.2.2.2.1, 0, 0) [] = t := mk_eq (lbl_eq e rfl rfl rfl hA.1 hA.2) hkid
  refine ⟨by simp, fun rest k hkk => ?_⟩
  obtain ⟨k, rfl⟩ : ∃ j, k = j + 1 := ⟨k - 1, by omega⟩
  rcases hz with hz | hz | hz | hz | hz | hz
  all_goals (rw [hz] at ht ⊢; simp [oneN, pekS, atrR, opT, byteB, ht])
 ·rw [tkL_6 e] at hts; subst hts
  have ht := leaf_eq hi (by omega) (by omega) (by omega)
  rw [e, hf.un (by omega)] at ht
  refine ⟨by simp, fun rest k hkk => ?_⟩
  obtain ⟨k, rfl⟩ : ∃ j, k = j + 2 := ⟨k - 2, by simp at hkk; omega⟩
  have hl : lowerS wRoot = wRoot := by decide +kernel
  simp [oneN, pssN, pekS, ht, hl]
 ·rw [tkL_7 e] at hts; subst hts
  have ht := leaf_eq hi (by omega) (by omega) (by omega)
  rw [e, hf.un (by omega)] at ht
  refine ⟨by simp, fun rest k hkk => ?_⟩
  obtain ⟨k, rfl⟩ : ∃ j, k = j + 2 := ⟨k - 2, by simp at hkk; omega⟩
  have hl : lowerS wEmpty = wEmpty := by decide +kernel
  simp [oneN, pssN, pekS, ht, hl]
 ·rw [tkL_8 e] at hts
  obtain ⟨us, hus, rfl⟩ := hts
  have h2 := hi'.2
  rw [if_neg (by rw [e]; decide)] at h2
  have hkid : t.kids = [] := List.eq_nil_of_length_eq_zero (by have := eq_of_beq h2; omega)
  have ho : t.lab.2.2.1 = 0 := Classical.byContradiction fun ho => absurd (hf.op ho).1 (by omega)
  have ht : Tst.mk (8, [], 0, [], t.lab.2.2.2.2.1, t.lab.2.2.2.2.2) [] = t := mk_eq (lbl_eq e (hf.un (by omega)) ho (hf.val ho) rfl rfl) hkid
  refine ⟨by simp, fun rest k hkk => ?_⟩
  obtain ⟨k, rfl⟩ : ∃ j, k = j + 2 := ⟨k - 2, by simp at hkk; omega⟩
  have hl : lowerS wNc = wNc := by decide +kernel
  have hr := run_read hus rest
  have hv := nthV_eq hab.1 hab.2
  simp [oneN, pssN, pekS, ht, hl, cntR, hr, hv]
 ·rw [tkL_9 e] at hts
  obtain ⟨us, hus, rfl⟩ := hts
  have h2 := hi'.2
  rw [if_neg (by rw [e]; decide)] at h2
  have hkid : t.kids = [] := List.eq_nil_of_length_eq_zero (by have := eq_of_beq h2; omega)
  have ho : t.lab.2.2.1 = 0 := Classical.byContradiction fun ho => absurd (hf.op ho).1 (by omega)
  have ht : Tst.mk (9, [], 0, [], t.lab.2.2.2.2.1, t.lab.2.2.2.2.2) [] = t := mk_eq (lbl_eq e (hf.un (by omega)) ho (hf.val ho) rfl rfl) hkid
  refine ⟨by simp, fun rest k hkk => ?_⟩
  obtain ⟨k, rfl⟩ : ∃ j, k = j + 2 := ⟨k - 2, by simp at hkk; omega⟩
  have hl : lowerS wNl = wNl := by decide +kernel
  have hr := run_read hus rest
  have hv := nthV_eq hab.1 hab.2
  simp [oneN, pssN, pekS, ht, hl, cntR, hr, hv]
 ·rw [tkL_10 e] at hts
  obtain ⟨us, hus, rfl⟩ := hts
  have ho : t.lab.2.2.1 = 0 := Classical.byContradiction fun ho => absurd (hf.op ho).1 (by omega)
  have hA := hf.ab (by omega)
  have ht : Tst.mk (10, [], 0, [], 0, 0) t.kids = t := mk_eq (lbl_eq e (hf.un (by omega)) ho (hf.val ho) hA.1 hA.2) rfl
  refine ⟨by simp, fun rest k hkk => ?_⟩
  obtain ⟨k, rfl⟩ : ∃ j, k = j + 2 := ⟨k - 2, by simp at hkk; omega⟩
  have hl : lowerS wNot = wNot := by decide +kernel
  have hr := hk (.inl e) us hus rest k (by simp at hkk; omega)
  simp [oneN, pssN, pekS, ht, hl, hr]
 rw [tkL_11 e] at hts
 obtain ⟨us, hus, rfl⟩ := hts
 have ho : t.lab.2.2.1 = 0 := Classical.byContradiction fun ho => absurd (hf.op ho).1 (by omega)
 have hA := hf.ab (by omega)
 have ht : Tst.mk (11, [], 0, [], 0, 0) t.kids = t := mk_eq (lbl_eq e (hf.un (by omega)) ho (hf.val ho) hA.1 hA.2) rfl
 refine ⟨by simp, fun rest k hkk => ?_⟩
 obtain ⟨k, rfl⟩ : ∃ j, k = j + 2 := ⟨k - 2, by simp at hkk; omega⟩
 have hl : lowerS wIs = wIs := by decide +kernel
 have hr := hk (.inr e) us hus rest k (by simp at hkk; omega)
 simp [oneN, pssN, pekS, ht, hl, hr]
end Go.Proofs.YtcnhdkhkadiohaaGreatDoor.Se
namespace Go.Proofs.YtcnhdkhkadiohaaGreatDoor.Se
open Go Go.Eng Bld Trm Css Tk Rp Qu Me
set_option linter.unusedVariables false
theorem nt_cases {r : Rd} (h : ntR r = true) : r = [] ∨ ∃ q, r = bl :: q ∨ r = sg 44 :: q ∨ r = clT :: q := by
 match r, h with
 | [], _ => exact .inl rfl
 | t :: q, h =>
  simp only [ntR, Bool.or_eq_true, beq_iff_eq] at h
  rcases h with rfl | rfl | rfl
  ·exact .inr ⟨q, .inl rfl⟩
  ·exact .inr ⟨q, .inr (.inl rfl)⟩
  exact .inr ⟨q, .inr (.inr rfl)⟩
theorem end_cases {r : Rd} (h : endR r = true) : r = [] ∨ ∃ q, r = sg 44 :: q ∨ r = clT :: q := by
 match r, h with
 | [], _ => exact .inl rfl
 | t :: q, h =>
  simp only [endR, Bool.or_eq_true, beq_iff_eq] at h
  rcases h with rfl | rfl
  ·exact .inr ⟨q, .inl rfl⟩
  exact .inr ⟨q, .inr rfl⟩
theorem end_nt {r : Rd} (h : endR r = true) : ntR r = true := by
 rcases end_cases h with rfl | ⟨q, rfl | rfl⟩
 ·rfl
 ·rfl
 rfl
theorem one_nt {r : Rd} (h : ntR r = true) (k : Nat) : oneN k r = (tNo, false, r) := by
 cases k with
 | zero => rw [oneN]
 | succ k =>
  rcases nt_cases h with rfl | ⟨q, rfl | rfl | rfl⟩
  all_goals simp [oneN, pekS]
theorem gap_end {r : Rd} (h : endR r = true) : gapS r = (false, r) := by
 rcases end_cases h with rfl | ⟨q, rfl | rfl⟩
 all_goals simp [gapS, silT]
/-- a token with which a test begins -/
def hdT (t : Tok) : Prop := silT t = false ∧ t.1 ≠ 0 ∧ (t.2.1 ≠ [62] ∧ t.2.1 ≠ [43] ∧ t.2.1 ≠ [126] ∧ t.2.1 ≠ [44] ∧ t.2.1 ≠ [41])
theorem hd_name {n : List UInt8} (h : plainS n = true) : hdT (wd n) := by
 have key : ∀ w, plainS w = false → n ≠ w := fun w hw e => by rw [e, hw] at h; cases h
 exact ⟨rfl, (by show (1:Int) ≠ 0; decide), key _ (by decide +kernel), key _ (by decide +kernel), key _ (by decide +kernel), key _ (by decide +kernel), key _ (by decide +kernel)⟩
theorem tkT_head {t : Ts} {i : Int} (hi : okT t i = true) {ts : List Tok} (h : TkT t ts) : ∃ x q, ts = x :: q ∧ hdT x := by
 rw [TkT_eq] at h
 rw [okT_eq, Bool.and_eq_true] at hi
 have hf := lab_facts hi.1
 have h58 : hdT (sg 58) := ⟨rfl, by decide, by decide, by decide, by decide, by decide, by decide⟩
 rcases kinds hf with e | e | e | e | e | e | e | e | e | e | e
 ·rw [tkL_1 e] at h; subst h; exact ⟨_, _, rfl, rfl, by decide, by decide, by decide, by decide, by decide, by decide⟩
 ·rw [tkL_2 e] at h; subst h; exact ⟨_, _, rfl, hd_name (hf.name (by omega) (by omega))⟩
 ·rw [tkL_3 e] at h; subst h; exact ⟨_, _, rfl, rfl, (by show (4:Int) ≠ 0; decide), by simp, by simp, by simp, by simp, by simp⟩
 ·rw [tkL_4 e] at h; subst h; exact ⟨_, _, rfl, rfl, by decide, by decide, by decide, by decide, by decide, by decide⟩
 ·rw [tkL_5 e] at h
  split at h
  ·subst h; exact ⟨_, _, rfl, rfl, by decide, by decide, by decide, by decide, by decide, by decide⟩
  subst h; exact ⟨_, _, rfl, rfl, by decide, by decide, by decide, by decide, by decide, by decide⟩
 ·rw [tkL_6 e] at h; subst h; exact ⟨_, _, rfl, h58⟩
 ·rw [tkL_7 e] at h; subst h; exact ⟨_, _, rfl, h58⟩
 ·rw [tkL_8 e] at h; obtain ⟨us, -, rfl⟩ := h; exact ⟨_, _, rfl, h58⟩
 ·rw [tkL_9 e] at h; obtain ⟨us, -, rfl⟩ := h; exact ⟨_, _, rfl, h58⟩
 ·rw [tkL_10 e] at h; obtain ⟨us, -, rfl⟩ := h; exact ⟨_, _, rfl, h58⟩
 rw [tkL_11 e] at h; obtain ⟨us, -, rfl⟩ := h; exact ⟨_, _, rfl, h58⟩
theorem tk1_head {s : List Ts} (hne : s ≠ []) {k : Int} (ho : ok1 s k = true) {ts : List Tok} (h : Tk1 s ts) : ∃ x q, ts = x :: q ∧ hdT x := by
 match s, hne with
 | t :: s, _ =>
  rw [ok1, Bool.and_eq_true] at ho
  rw [Tk1] at h
  obtain ⟨a, b, ha, -, rfl⟩ := h
  obtain ⟨x, q, rfl, hx⟩ := tkT_head ho.1 ha
  exact ⟨x, q ++ b, rfl, hx⟩
theorem gap_head {x : Tok} {q : Rd} (h : hdT x) : gapS (x :: q) = (false, x :: q) := by
 simp [gapS, h.1]
theorem gap_bl {x : Tok} {q : Rd} (h : hdT x) : gapS (bl :: x :: q) = (true, x :: q) := by
 have : silT bl = true := rfl
 simp [gapS, h.1, this]; omega
theorem stp_read : ∀ {s : List Ts} {k0 : Int}, (∀ t ∈ s, OneOK t) → ok1 s k0 = true → ∀ ts, Tk1 s ts → ∀ rest, ntR rest = true → ∀ k, 8 * ts.length + 3 ≤ k → stpN k (ts ++ rest) = (s, rest)
 | [], _, _, _, ts, h, rest, hr, k, hk => by
  rw [Tk1] at h; subst h
  obtain ⟨k, rfl⟩ : ∃ j, k = j + 1 := ⟨k - 1, by omega⟩
  rw [List.nil_append, stpN, one_nt hr]; rfl
 | t :: s, k0, hO, ho, ts, h, rest, hr, k, hk => by
  rw [ok1, Bool.and_eq_true] at ho
  rw [Tk1] at h
  obtain ⟨a, b, ha, hb, rfl⟩ := h
  obtain ⟨h1, h2⟩ := hO t (List.mem_cons_self ..) _ ho.1 a ha
  obtain ⟨k, rfl⟩ : ∃ j, k = j + 1 := ⟨k - 1, by omega⟩
  rw [List.length_append] at hk
  have ih := stp_read (fun y hy => hO y (List.mem_cons_of_mem _ hy)) ho.2 b hb rest hr k (by omega)
  rw [List.append_assoc, stpN, h2 (b ++ rest) k (by omega), if_pos rfl, ih]
theorem tr2_nt {p : List (List Ts)} {js : List Int} {b : List Tok} (h : Tr2 p js b) {rest : Rd} (hr : endR rest = true) : ntR (b ++ rest) = true := by
 match p, h with
 | [], h => rw [Tr2] at h; subst h; exact end_nt hr
 | s :: p, h =>
  rw [Tr2] at h
  obtain ⟨a, c, -, -, rfl⟩ := h
  unfold jnT
  split <;> rfl
theorem ptl_read : ∀ {p : List (List Ts)} {js : List Int}, (∀ s ∈ p, ∀ t ∈ s, OneOK t) → ok2 p = true → (∀ z ∈ js, jnB z = true) → p.length = js.length → ∀ ts, Tr2 p js ts → ∀ rest, endR rest = true → ∀ k, 8 * ts.length + 4 ≤ k → ptlN k (ts ++ rest) = (p, js, rest)
 | [], [], _, _, _, _, ts, h, rest, hr, k, hk => by
  rw [Tr2] at h; subst h
  obtain ⟨k, rfl⟩ : ∃ j, k = j + 1 := ⟨k - 1, by omega⟩
  rw [List.nil_append, ptlN, gap_end hr]
  rcases end_cases hr with rfl | ⟨q, rfl | rfl⟩
  all_goals simp [pekS]
 | s :: p, z :: js, hO, ho, hj, hl, ts, h, rest, hr, k, hk => by
  rw [ok2, Bool.and_eq_true, Bool.and_eq_true] at ho
  obtain ⟨ho1, ho2, ho3⟩ := ho
  have hne : s ≠ [] := fun e => by rw [e] at ho2; cases ho2
  rw [Tr2] at h
  obtain ⟨a, b, ha, hb, rfl⟩ := h
  have hb : Tr2 p js b := hb
  obtain ⟨x, q, hxa, hx⟩ := tk1_head hne ho1 ha
  obtain ⟨k, rfl⟩ : ∃ j, k = j + 1 := ⟨k - 1, by omega⟩
  have hjl : 1 ≤ (jnT z).length := by unfold jnT; split <;> simp
  simp only [List.length_append] at hk
  have hk : 8 * ((jnT z).length + (a.length + b.length)) + 4 ≤ k + 1 := hk
  have hs := stp_read (hO s (List.mem_cons_self ..)) ho1 a ha (b ++ rest) (tr2_nt hb hr) k (by omega)
  have ih := ptl_read (fun y hy => hO y (List.mem_cons_of_mem _ hy)) ho3 (fun y hy => hj y (List.mem_cons_of_mem _ hy)) (by simpa using hl) b hb rest hr k (by omega)
  have e : (jnT z ++ (a ++ b)) ++ rest = jnT z ++ (x :: (q ++ (b ++ rest))) := by rw [hxa]; simp
  have e2 : x :: (q ++ (b ++ rest)) = a ++ (b ++ rest) := by rw [hxa]; simp
  show ptlN (k + 1) ((jnT z ++ (a ++ b)) ++ rest) = _
  rw [e]
  obtain ⟨h1, h2, h3, h4, h5, h6, h7⟩ := hx
  have hx : hdT x := ⟨h1, h2, h3, h4, h5, h6, h7⟩
  have hgb := gap_bl (q := q ++ (b ++ rest)) hx
  rcases jn_vals (hj z (List.mem_cons_self ..)) with rfl | rfl | rfl | rfl
  ·show ptlN (k + 1) (bl :: x :: (q ++ (b ++ rest))) = _
   have hpk : pekS (x :: (q ++ (b ++ rest))) = (x, x :: (q ++ (b ++ rest))) := rfl
   have hs : stpN k (x :: (q ++ (b ++ rest))) = (s, b ++ rest) := by rw [e2]; exact hs
   simp [ptlN, hgb, pekS, hs, ih, h2, h3, h4, h5, h6, h7]
  ·show ptlN (k + 1) (bl :: sg 62 :: bl :: x :: (q ++ (b ++ rest))) = _
   have hg : gapS (bl :: sg 62 :: bl :: x :: (q ++ (b ++ rest))) = (true, sg 62 :: bl :: x :: (q ++ (b ++ rest))) := by simp [gapS, silT]; omega
   rw [ptlN, hg]
   simp only [pekS, List.drop_succ_cons, List.drop_zero]
   rw [hgb, e2, hs, ih]
   simp
  ·show ptlN (k + 1) (bl :: sg 43 :: bl :: x :: (q ++ (b ++ rest))) = _
   have hg : gapS (bl :: sg 43 :: bl :: x :: (q ++ (b ++ rest))) = (true, sg 43 :: bl :: x :: (q ++ (b ++ rest))) := by simp [gapS, silT]; omega
   rw [ptlN, hg]
   simp only [pekS, List.drop_succ_cons, List.drop_zero]
   rw [hgb, e2, hs, ih]
   simp
  show ptlN (k + 1) (bl :: sg 126 :: bl :: x :: (q ++ (b ++ rest))) = _
  have hg : gapS (bl :: sg 126 :: bl :: x :: (q ++ (b ++ rest))) = (true, sg 126 :: bl :: x :: (q ++ (b ++ rest))) := by simp [gapS, silT]; omega
  rw [ptlN, hg]
  simp only [pekS, List.drop_succ_cons, List.drop_zero]
  rw [hgb, e2, hs, ih]
  simp
theorem pth_read {p : List (List Ts)} {js : List Int} (hO : ∀ s ∈ p, ∀ t ∈ s, OneOK t) (ho : ok2 p = true) (hne : p ≠ []) (hj : ∀ z ∈ js, jnB z = true) (hl : js.length + 1 = p.length) (ts : List Tok) (h : Tk2 p js ts) (rest : Rd) (hr : endR rest = true) (k : Nat) (hk : 8 * ts.length + 5 ≤ k) : pthN k (ts ++ rest) = ((p, js), rest) := by
 match p, hne with
 | s :: p, _ =>
  rw [ok2, Bool.and_eq_true, Bool.and_eq_true] at ho
  obtain ⟨ho1, ho2, ho3⟩ := ho
  rw [Tk2] at h
  obtain ⟨a, b, ha, hb, rfl⟩ := h
  obtain ⟨k, rfl⟩ : ∃ j, k = j + 1 := ⟨k - 1, by omega⟩
  rw [List.length_append] at hk
  have hs := stp_read (hO s (List.mem_cons_self ..)) ho1 a ha (b ++ rest) (tr2_nt hb hr) k (by omega)
  have ih := ptl_read (fun y hy => hO y (List.mem_cons_of_mem _ hy)) ho3 hj (by simpa using hl.symm) b hb rest hr k (by omega)
  rw [List.append_assoc, pthN, hs, ih]
theorem tk2_head {p : List (List Ts)} {js : List Int} (hne : p ≠ []) (ho : ok2 p = true) {ts : List Tok} (h : Tk2 p js ts) : ∃ x q, ts = x :: q ∧ hdT x := by
 match p, hne with
 | s :: p, _ =>
  rw [ok2, Bool.and_eq_true, Bool.and_eq_true] at ho
  have hs : s ≠ [] := fun e => by have := ho.2.1; rw [e] at this; cases this
  rw [Tk2] at h
  obtain ⟨a, b, ha, -, rfl⟩ := h
  obtain ⟨x, q, rfl, hx⟩ := tk1_head hs ho.1 ha
  exact ⟨x, q ++ b, rfl, hx⟩
theorem tr3_end {l : List Ph} {b : List Tok} (h : Tr3 l b) {fin : Rd} (hf : endR fin = true) : endR (b ++ fin) = true := by
 match l, h with
 | [], h => rw [Tr3] at h; subst h; exact hf
 | (p, js) :: l, h => rw [Tr3] at h; obtain ⟨a, c, -, -, rfl⟩ := h; rfl
/-- the end of a list: of the whole, or of one in brackets -/
def LEnd (e : List UInt8) (fin rest : Rd) : Prop := e = [] ∧ fin = [] ∧ rest = [] ∨ e = [41] ∧ fin = clT :: rest
theorem lst_read : ∀ {l : List Ph} {p : List (List Ts)} {js : List Int}, (∀ q ∈ (p, js) :: l, ∀ s ∈ q.1, ∀ t ∈ s, OneOK t) → ok3 ((p, js) :: l) = true → ∀ a b, Tk2 p js a → Tr3 l b → ∀ e fin rest, LEnd e fin rest → ∀ r, (gapS r).2 = a ++ (b ++ fin) → ∀ k, 8 * (a.length + b.length) + 8 ≤ k → lstN k r e = ((p, js) :: l, rest)
 | l, p, js, hO, ho, a, b, ha, hb, e, fin, rest, hF, r, hg, k, hk => by
  obtain ⟨⟨q1, q2⟩, q3, q4⟩ := ok3_in ho (List.mem_cons_self ..)
  obtain ⟨k, rfl⟩ : ∃ j, k = j + 1 := ⟨k - 1, by omega⟩
  have hfin : endR fin = true := by rcases hF with ⟨-, rfl, -⟩ | ⟨-, rfl⟩ <;> rfl
  have hend := tr3_end hb hfin
  have hp := pth_read (hO (p, js) (List.mem_cons_self ..)) q3 q1 (fun z hz => List.all_eq_true.1 q4 z hz) q2 a ha (b ++ fin) hend k (by omega)
  have hg2 := gap_end hend
  rw [lstN, hg, hp]
  simp only [hg2]
  match l, hb, ho, hO with
  | [], hb, _, _ =>
   rw [Tr3] at hb; subst hb
   rcases hF with ⟨rfl, rfl, rfl⟩ | ⟨rfl, rfl⟩
   ·simp [pekS]
   simp [pekS]
  | (p', js') :: l, hb, ho, hO =>
   rw [Tr3] at hb
   obtain ⟨a', b', ha', hb', rfl⟩ := hb
   have ho3 := ho
   rw [ok3_cons, Bool.and_eq_true, Bool.and_eq_true, Bool.and_eq_true] at ho3
   have ho4 := ho3.2.2.2
   obtain ⟨⟨r1, r2⟩, r3, r4⟩ := ok3_in ho4 (List.mem_cons_self ..)
   obtain ⟨x, q, hxa, hx⟩ := tk2_head r1 r3 ha'
   have e2 : sg 44 :: bl :: (a' ++ b') ++ fin = sg 44 :: bl :: (a' ++ (b' ++ fin)) := by simp
   simp only [List.length_cons, List.length_append] at hk
   have ih := lst_read (l := l) (p := p') (js := js') (fun y hy => hO y (List.mem_cons_of_mem _ hy)) ho4 a' b' ha' hb' e fin rest hF (bl :: (a' ++ (b' ++ fin))) (by
    rw [hxa, List.cons_append, gap_bl hx]) k (by omega)
   rw [e2]
   simp only [pekS, List.drop_succ_cons, List.drop_zero]
   rw [ih]
   simp
theorem oneAll : ∀ t : Ts, OneOK t := Tst.ind fun x l ih i hi => by
 refine one_read hi (fun hk us hus rest k hkk => ?_)
 have hi' := hi
 rw [okT_eq, Bool.and_eq_true] at hi'
 have e : (((Tst.mk x l).lab.1 == 10) || ((Tst.mk x l).lab.1 == 11)) = true := by
  rcases hk with h | h
  ·rw [h]; rfl
  rw [h]; rfl
 have h2 := hi'.2
 rw [if_pos e] at h2
 simp only [ptsS, Bool.and_eq_true] at h2
 have hl0 : l ≠ [] := fun e => by
  have := of_decide_eq_true h2.2
  rw [show (Tst.mk x l).kids = l from rfl, e] at this
  simp at this
 show lstN k (us ++ clT :: rest) [41] = (l, rest)
 have hus : Tk3 l us := hus
 have ho : ok3 l = true := h2.1
 match l, hl0, ih, hus, ho with
 | (p, js) :: l, _, ih, hus, ho =>
  rw [Tk3] at hus
  obtain ⟨a, b, ha, hb, rfl⟩ := hus
  obtain ⟨⟨r1, r2⟩, r3, r4⟩ := ok3_in ho (List.mem_cons_self ..)
  obtain ⟨y, q, hya, hy⟩ := tk2_head r1 r3 ha
  rw [List.length_append] at hkk
  exact lst_read ih ho a b ha hb [41] (clT :: rest) rest (.inr ⟨rfl, rfl⟩) _ (by rw [hya, List.append_assoc, List.cons_append, gap_head hy]) k (by omega)
end Go.Proofs.YtcnhdkhkadiohaaGreatDoor.Se
