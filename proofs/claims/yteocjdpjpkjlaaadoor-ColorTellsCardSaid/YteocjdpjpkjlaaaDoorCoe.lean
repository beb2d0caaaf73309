/- Colors: what the program reads is what the document reads. -/
import Derived.Test.YteocjdpjpkjlaaaDoorCod
namespace Go.Proofs.YteocjdpjpkjlaaaDoor.Co
open Go Go.Eng Go.RowKit Go.Shelf Go.Proofs Bld Sp Ti
set_option linter.unusedVariables false
/-! names -/
def cnN : List (List UInt8) → List Int → List UInt8 → Int × Bool
  | n :: ns, c :: cs, t => if (t == n) = true then (c, true) else cnN ns cs t
  | _, _, _ => (0, false)
theorem cnam_eq (t : List UInt8) : cnamM t = cnN rcnM.1 rcnM.2 t := rfl
theorem or8 {c v : Int} (hc : 0 ≤ c ∧ c ≤ 16777215) (hv : 0 ≤ v ∧ v ≤ 255) : bitOr .i64 (IntKind.wrap .i64 (c * 2 ^ 8)) v = 256 * c + v := by
  obtain ⟨a, rfl⟩ := Int.eq_ofNat_of_zero_le hc.1
  obtain ⟨b, rfl⟩ := Int.eq_ofNat_of_zero_le hv.1
  have e : (a : Int) * 2 ^ 8 = ((a * 256 : Nat) : Int) := by omega
  rw [w64 (x := (a : Int) * 2 ^ 8) (by omega), e]
  unfold bitOr
  rw [show IntKind.bits .i64 = 64 from rfl, BitVec.ofInt_natCast, BitVec.ofInt_natCast, BitVec.toNat_or, BitVec.toNat_ofNat, BitVec.toNat_ofNat, Nat.mod_eq_of_lt (by omega), Nat.mod_eq_of_lt (by omega)]
  have h := Nat.shiftLeft_add_eq_or_of_lt (show b < 2 ^ 8 by omega) a
  rw [Nat.shiftLeft_eq, show (2 : Nat) ^ 8 = 256 from rfl] at h
  rw [← h, w64 (by omega)]; omega
theorem nm_eq : ∀ (ns : List (List UInt8)) (cs : List Int) (t : List UInt8), (∀ c ∈ cs, 0 ≤ c ∧ c ≤ 16777215) →
    ((cnN ns cs t).2 = true → rnmN ns cs t = some (bitOr .i64 (IntKind.wrap .i64 ((cnN ns cs t).1 * 2 ^ 8)) 255)) ∧ ((cnN ns cs t).2 = false → rnmN ns cs t = none)
  | n :: ns, c :: cs, t, h => by
    rw [cnN, rnmN]
    by_cases hc : (t == n) = true
    · have hc' : (n == t) = true := by rw [beq_iff_eq] at hc ⊢; exact hc.symm
      rw [if_pos hc, if_pos hc']
      refine ⟨fun _ => ?_, fun h => (by cases h)⟩
      rw [or8 (h c (List.mem_cons_self ..)) (by omega)]
    · have hc' : ¬ (n == t) = true := by rw [beq_iff_eq] at hc ⊢; exact fun h => hc h.symm
      rw [if_neg hc, if_neg hc']
      exact nm_eq ns cs t (fun c hm => h c (List.mem_cons_of_mem _ hm))
  | [], cs, t, h => by
    have e : cnN [] cs t = (0, false) := by cases cs <;> rfl
    rw [rnmN_nil, e]; exact ⟨fun h => (Bool.false_ne_true h).elim, fun _ => rfl⟩
  | n :: ns, [], t, h => ⟨fun h => (Bool.false_ne_true h).elim, fun _ => rfl⟩
/-! hex -/
def hor : List UInt8 → Int → Int
  | [], n => n
  | c :: l, n => hor l (16 * n + hexD (c.toNat : Int))
def hx (c : UInt8) : Bool := HXL.contains c
theorem hx_ok (c : UInt8) : hx c = !(decide (rhexM (c.toNat : Int) < 0)) ∧ (hx c = true → hexD (c.toNat : Int) = rhexM (c.toNat : Int) ∧ 0 ≤ hexD (c.toNat : Int) ∧ hexD (c.toNat : Int) < 16) := by
  have := byte_all (p := fun c => (hx c == !(decide (rhexM (c.toNat : Int) < 0))) && (!(hx c) || (decide (hexD (c.toNat : Int) = rhexM (c.toNat : Int)) && decide (0 ≤ hexD (c.toNat : Int)) && decide (hexD (c.toNat : Int) < 16)))) (by decide +kernel) c
  rw [Bool.and_eq_true, beq_iff_eq, Bool.or_eq_true, Bool.and_eq_true, Bool.and_eq_true, decide_eq_true_eq, decide_eq_true_eq, decide_eq_true_eq] at this
  refine ⟨this.1, fun h => ?_⟩
  rcases this.2 with h2 | h2
  · rw [h] at h2; cases h2
  · exact ⟨h2.1.1, h2.1.2, h2.2⟩
theorem dropW_nil {p : UInt8 → Bool} : ∀ {l : List UInt8}, l.dropWhile p = [] ↔ l.all p = true
  | [] => by simp
  | a :: l => by
    rw [List.dropWhile_cons, List.all_cons]
    cases h : p a
    · simp
    · rw [if_pos rfl, Bool.true_and]; exact dropW_nil
theorem dropW_head {p : UInt8 → Bool} {a : UInt8} {r : List UInt8} : ∀ {l : List UInt8}, l.dropWhile p = a :: r → p a = false
  | [], h => by cases h
  | b :: l, h => by
    rw [List.dropWhile_cons] at h
    cases hb : p b
    · rw [hb, if_neg Bool.false_ne_true] at h
      injection h with h1 h2
      rw [← h1]; exact hb
    · rw [hb, if_pos rfl] at h; exact dropW_head h
theorem all_rev {p : UInt8 → Bool} (l : List UInt8) : l.reverse.all p = l.all p := by rw [List.all_reverse]
theorem trim_nil (s : List UInt8) : (trimS s HXL == []) = s.all hx := by
  rw [Bool.eq_iff_iff, beq_iff_eq]
  show Lib.trimLeftS (Lib.trimRightS s HXL) HXL = [] ↔ _
  unfold Lib.trimLeftS Lib.trimRightS
  rw [show (fun x => HXL.contains x) = hx from rfl, dropW_nil, all_rev]
  constructor
  · intro h
    cases hd : s.reverse.dropWhile hx with
    | nil => rw [dropW_nil, all_rev] at hd; exact hd
    | cons a r =>
      rw [hd, List.all_cons, dropW_head hd] at h
      cases h
  · intro h
    rw [dropW_nil.2 (by rw [all_rev]; exact h)]; rfl
theorem pw16 (k : Nat) : (0 : Int) < 16 ^ k := Int.pow_pos (by decide)
theorem pui_hex : ∀ (u : List UInt8) (n : Int), u.all hx = true → 0 ≤ n → (n + 1) * 16 ^ u.length ≤ 4294967296 → puiN (intsOf u) n = (hor u n, 0) ∧ 0 ≤ hor u n ∧ hor u n < (n + 1) * 16 ^ u.length
  | [], n, _, h0, hb => by
    refine ⟨rfl, h0, ?_⟩
    show n < (n + 1) * 1
    omega
  | c :: u, n, ha, h0, hb => by
    rw [List.all_cons, Bool.and_eq_true] at ha
    obtain ⟨h1, h2⟩ := hx_ok c
    obtain ⟨-, h3, h4⟩ := h2 ha.1
    rw [List.length_cons, Int.pow_succ] at hb
    have hp := pw16 u.length
    have hle : (16 * n + hexD (c.toNat : Int) + 1) * 16 ^ u.length ≤ (n + 1) * (16 ^ u.length * 16) := by
      have e : (n + 1) * ((16 : Int) ^ u.length * 16) = (16 * n + 16) * 16 ^ u.length := by
        rw [Int.mul_comm ((16 : Int) ^ u.length) 16, ← Int.mul_assoc]
        congr 1; omega
      rw [e]
      exact Int.mul_le_mul_of_nonneg_right (by omega) (by omega)
    have hn : n + 1 ≤ 4294967296 := by
      have : (n + 1) * 1 ≤ (n + 1) * (16 ^ u.length * 16) := Int.mul_le_mul_of_nonneg_left (by omega) (by omega)
      omega
    obtain ⟨i1, i2, i3⟩ := pui_hex u (16 * n + hexD (c.toNat : Int)) ha.2 (by omega) (by omega)
    show puiN ((c.toNat : Int) :: intsOf u) n = _ ∧ _
    rw [puiN, if_f (decide_eq_false (by omega)), if_f (decide_eq_false (by omega)), Int.mul_comm n 16]
    refine ⟨i1, i2, ?_⟩
    show hor u (16 * n + hexD (c.toNat : Int)) < (n + 1) * 16 ^ (u.length + 1)
    rw [Int.pow_succ]
    omega
theorem rhc_none {b : Bool} : ∀ (s : List UInt8) (n : Int), s.all hx = false → rhcN b s n = none
  | [], n, h => by cases h
  | c :: s, n, h => by
    rw [rhcN]
    have h1 := (hx_ok c).1
    by_cases hc : hx c = true
    · rw [List.all_cons, hc, Bool.true_and] at h
      rw [hc] at h1
      have h1' : decide (rhexM (c.toNat : Int) < 0) = false := by simpa using h1.symm
      rw [if_f h1']
      exact rhc_none s _ h
    · have hc : hx c = false := by simpa using hc
      rw [hc] at h1
      have h1' : decide (rhexM (c.toNat : Int) < 0) = true := by simpa using h1.symm
      rw [if_t h1']
theorem rhc_some {b : Bool} : ∀ (s : List UInt8) (n : Int), s.all hx = true → rhcN b s n = some (hor (if b = true then dblS s else s) n)
  | [], n, h => by rw [rhcN]; cases b <;> rfl
  | c :: s, n, h => by
    rw [List.all_cons, Bool.and_eq_true] at h
    obtain ⟨h1, h2⟩ := hx_ok c
    rw [h.1] at h1
    have h1' : decide (rhexM (c.toNat : Int) < 0) = false := by simpa using h1.symm
    rw [rhcN, if_f h1', rhc_some s _ h.2, ← (h2 h.1).1]
    cases b
    · rfl
    · rfl
theorem dbl_len (s : List UInt8) : (dblS s).length = 2 * s.length := by
  induction s with
  | nil => rfl
  | cons c t ih => rw [show dblS (c :: t) = [c, c] ++ dblS t from rfl, List.length_append, ih]; simp only [List.length_cons, List.length_nil]; omega
theorem dbl_all (s : List UInt8) : (dblS s).all hx = s.all hx := by
  induction s with
  | nil => rfl
  | cons c t ih => rw [show dblS (c :: t) = c :: c :: dblS t from rfl, List.all_cons, List.all_cons, List.all_cons, ih]; cases hx c <;> rfl
theorem hor_ff (s : List UInt8) (n : Int) : hor (s ++ [102, 102]) n = 256 * hor s n + 255 := by
  induction s generalizing n with
  | nil =>
    show 16 * (16 * n + hexD (((102 : UInt8).toNat : Nat) : Int)) + hexD (((102 : UInt8).toNat : Nat) : Int) = 256 * n + 255
    rw [show hexD (((102 : UInt8).toNat : Nat) : Int) = 15 from by decide]; omega
  | cons c t ih => exact ih _
theorem chexR_8 {t : List UInt8} (hl : (c6 t).length = 8) (ha : (c6 t).all hx = true) : chexR t = (hor (c6 t) 0, true) := by
  have hne : (c6 t == []) = false := by cases h : c6 t with | nil => rw [h] at hl; cases hl | cons a l => rfl
  have h := pui_hex (c6 t) 0 ha (by omega) (by rw [hl]; decide)
  rw [hl] at h
  unfold chexR puS puiS
  rw [if_f hne, h.1]
  have h3 : hor (c6 t) 0 < 4294967296 := h.2.2
  rw [w64 (by omega), hl]; rfl
theorem hex_eq (s : List UInt8) : (chexS s).2 = (rhcS s).2 ∧ ((rhcS s).2 = true → (chexS s).1 = (rhcS s).1) := by
  unfold chexS
  rw [trim_nil]
  cases ha : s.all hx
  · rw [if_t (show (!false) = true from rfl)]
    unfold rhcS
    split
    · exact ⟨rfl, fun h => by cases h⟩
    · rw [rhc_none s 0 ha]; exact ⟨rfl, fun h => by cases h⟩
  · rw [if_f (show (!true) = false from rfl)]
    have key : ∀ t : List UInt8, (c6 t).length ≠ 8 → (chexR t).2 = false := by
      intro t h
      unfold chexR
      have : (((c6 t).length : Int) == 8) = false := by rw [beq_eq_false_iff_ne]; omega
      rw [this]; exact Bool.and_false _
    have c6l : ∀ t : List UInt8, (c6 t).length = if t.length = 6 then 8 else t.length := by
      intro t; unfold c6
      by_cases h : t.length = 6
      · rw [if_pos h, if_t (by rw [beq_iff_eq]; omega), List.length_append, h]; rfl
      · rw [if_neg h, if_f (by rw [beq_eq_false_iff_ne]; omega)]
    by_cases h3 : s.length = 3 ∨ s.length = 4
    · have e1 : (((s.length : Int) == 3) || ((s.length : Int) == 4)) = true := by rw [Bool.or_eq_true, beq_iff_eq, beq_iff_eq]; omega
      rw [if_t e1]
      have hl : (c6 (dblS s)).length = 8 := by rw [c6l, dbl_len]; split <;> omega
      have hal : (c6 (dblS s)).all hx = true := by
        unfold c6; split
        · rw [List.all_append, dbl_all, ha]; decide
        · rw [dbl_all, ha]
      rw [chexR_8 hl hal]
      unfold rhcS
      rw [if_f (by simp only [Bool.and_eq_false_iff, bne_eq_false_iff_eq]; omega), rhc_some s 0 ha, decide_eq_true (by omega : (s.length : Int) < 5), if_pos rfl]
      refine ⟨rfl, fun _ => ?_⟩
      show hor (c6 (dblS s)) 0 = if (((s.length : Int) == 3) || ((s.length : Int) == 6)) = true then 256 * hor (dblS s) 0 + 255 else hor (dblS s) 0
      unfold c6
      rcases h3 with h3 | h3
      · rw [if_t (by rw [dbl_len, beq_iff_eq]; omega), if_t (by rw [Bool.or_eq_true, beq_iff_eq, beq_iff_eq]; omega), hor_ff]
      · rw [if_f (by rw [dbl_len, beq_eq_false_iff_ne]; omega), if_f (by rw [Bool.or_eq_false_iff, beq_eq_false_iff_ne, beq_eq_false_iff_ne]; omega)]
    · have e1 : (((s.length : Int) == 3) || ((s.length : Int) == 4)) = false := by rw [Bool.or_eq_false_iff, beq_eq_false_iff_ne, beq_eq_false_iff_ne]; omega
      rw [if_f e1]
      by_cases h6 : s.length = 6 ∨ s.length = 8
      · have hl : (c6 s).length = 8 := by rw [c6l]; split <;> omega
        have hal : (c6 s).all hx = true := by
          unfold c6; split
          · rw [List.all_append, ha]; decide
          · exact ha
        rw [chexR_8 hl hal]
        unfold rhcS
        rw [if_f (by simp only [Bool.and_eq_false_iff, bne_eq_false_iff_eq]; omega), rhc_some s 0 ha, decide_eq_false (by omega : ¬ (s.length : Int) < 5), if_neg Bool.false_ne_true]
        refine ⟨rfl, fun _ => ?_⟩
        show hor (c6 s) 0 = if (((s.length : Int) == 3) || ((s.length : Int) == 6)) = true then 256 * hor s 0 + 255 else hor s 0
        unfold c6
        rcases h6 with h6 | h6
        · rw [if_t (by rw [beq_iff_eq]; omega), if_t (by rw [Bool.or_eq_true, beq_iff_eq, beq_iff_eq]; omega), hor_ff]
        · rw [if_f (by rw [beq_eq_false_iff_ne]; omega), if_f (by rw [Bool.or_eq_false_iff, beq_eq_false_iff_ne, beq_eq_false_iff_ne]; omega)]
      · have hl : (c6 s).length ≠ 8 := by rw [c6l]; split <;> omega
        unfold rhcS
        rw [if_t (by simp only [Bool.and_eq_true, bne_iff_ne]; omega), key s hl]
        exact ⟨rfl, fun h => by cases h⟩
end Go.Proofs.YteocjdpjpkjlaaaDoor.Co
