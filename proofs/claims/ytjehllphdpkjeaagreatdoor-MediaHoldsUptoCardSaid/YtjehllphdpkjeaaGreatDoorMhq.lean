/- MediaHolds: what is told is read again. -/
import Derived.Test.YtjehllphdpkjeaaGreatDoorMth
import Derived.Test.YtjehllphdpkjeaaGreatDoorMhp
namespace Go.Proofs.YtjehllphdpkjeaaGreatDoor.Me
open Go Go.Eng Go.RowKit Go.Shelf Go.Proofs Bld Trm Css Ti
set_option linter.unusedVariables false
/-! decimal digits and back -/
def digB (c : UInt8) : Bool := decide ((c.toNat : Int) ≥ 48) && decide ((c.toNat : Int) ≤ 57)
def vA (a : Int) (c : UInt8) : Int := if digB c = true then 10 * a + ((c.toNat : Int) - 48) else a
def vS (s : List UInt8) : Int := s.foldl vA 0
theorem dig_of {n : Nat} (h : n < 10) : digB (UInt8.ofNat (48 + n)) = true ∧ (UInt8.ofNat (48 + n)).toNat = 48 + n := by
  have : (UInt8.ofNat (48 + n)).toNat = 48 + n := by rw [UInt8.toNat_ofNat']; omega
  unfold digB
  rw [this, Bool.and_eq_true, decide_eq_true_eq, decide_eq_true_eq]
  exact ⟨⟨by omega, by omega⟩, rfl⟩
theorem dec_dig (u : Nat) : ∀ c ∈ Lib.decDigits u, digB c = true := by
  induction u using Nat.strongRecOn with
  | _ u ih =>
    intro c hc
    rw [Lib.decDigits] at hc
    split at hc
    · rw [List.mem_singleton] at hc; subst hc; exact (dig_of (by omega)).1
    · rcases List.mem_append.1 hc with h | h
      · exact ih (u / 10) (by omega) c h
      · rw [List.mem_singleton] at h; subst h; exact (dig_of (by omega)).1
theorem dec_val (u : Nat) : vS (Lib.decDigits u) = (u : Int) := by
  induction u using Nat.strongRecOn with
  | _ u ih =>
    rw [Lib.decDigits]
    split
    · rename_i h
      unfold vS vA
      rw [List.foldl_cons, List.foldl_nil, if_t (dig_of h).1, (dig_of h).2]; omega
    · have h := dig_of (n := u % 10) (by omega)
      have ih := ih (u / 10) (by omega)
      unfold vS at ih ⊢
      rw [List.foldl_append, ih, List.foldl_cons, List.foldl_nil]
      unfold vA
      rw [if_t h.1, h.2]; omega
theorem dec_ne (u : Nat) : ∃ c r, Lib.decDigits u = c :: r := by
  cases h : Lib.decDigits u with
  | nil =>
    rw [Lib.decDigits] at h
    split at h
    · cases h
    · simp at h
  | cons c r => exact ⟨c, r, rfl⟩
theorem dec_len7 : ∀ (k u : Nat), u < 10 ^ (k + 1) → (Lib.decDigits u).length ≤ k + 1
  | 0, u, h => by rw [Lib.decDigits, dif_pos (by omega)]; simp
  | k + 1, u, h => by
    rw [Lib.decDigits]
    split
    · simp
    · have := dec_len7 k (u / 10) (by rw [Nat.pow_succ] at h; omega)
      rw [List.length_append]; simp; omega
theorem itoa_len8 {n : Int} (h : -1000000 ≤ n ∧ n ≤ 1000000) : (Lib.itoa n).length ≤ 8 := by
  unfold Lib.itoa
  split
  · have := dec_len7 6 n.natAbs (by omega)
    rw [List.length_cons]; omega
  · have := dec_len7 6 n.toNat (by omega)
    omega
theorem vA_ge {s : List UInt8} : ∀ {a : Int}, 0 ≤ a → (∀ c ∈ s, digB c = true) → a ≤ s.foldl vA a := by
  induction s with
  | nil => intro a _ _; exact Int.le_refl _
  | cons c s ih =>
    intro a h0 h
    have hc := h c (List.mem_cons_self ..)
    have hd := hc
    unfold digB at hd
    rw [Bool.and_eq_true, decide_eq_true_eq, decide_eq_true_eq] at hd
    rw [List.foldl_cons]
    have h1 : a ≤ vA a c := by unfold vA; rw [if_t hc]; omega
    exact Int.le_trans h1 (ih (by omega) fun c hc => h c (List.mem_cons_of_mem _ hc))
theorem parse_val (s : List UInt8) : ∀ (a B : Nat), B ≤ 1000000000000000000 → (∀ c ∈ s, digB c = true) → s.foldl vA (a : Int) < (B : Int) → ∃ u : Nat, Lib.parseUint10 a s = .ok u ∧ (u : Int) = s.foldl vA (a : Int) := by
  induction s with
  | nil => intro a B _ _ _; exact ⟨a, by simp only [Lib.parseUint10], by simp only [List.foldl_nil]⟩
  | cons c s ih =>
    intro a B hB h hl
    have hc := h c (List.mem_cons_self ..)
    have hd := hc
    unfold digB at hd
    rw [Bool.and_eq_true, decide_eq_true_eq, decide_eq_true_eq] at hd
    rw [List.foldl_cons] at hl ⊢
    have e : vA (a : Int) c = ((a * 10 + (c.toNat - 48) : Nat) : Int) := by unfold vA; rw [if_t hc]; omega
    rw [e] at hl ⊢
    have hg := vA_ge (s := s) (a := ((a * 10 + (c.toNat - 48) : Nat) : Int)) (by omega) fun c hc => h c (List.mem_cons_of_mem _ hc)
    obtain ⟨u, h1, h2⟩ := ih (a * 10 + (c.toNat - 48)) B hB (fun c hc => h c (List.mem_cons_of_mem _ hc)) hl
    refine ⟨u, ?_, h2⟩
    simp only [Lib.parseUint10]
    rw [if_pos (by omega), if_neg (by omega), if_neg (by omega)]
    exact h1
theorem mag_val (u : Nat) (h : u < 1000000000000000000) : Lib.parseMag (Lib.decDigits u) = .ok u := by
  obtain ⟨c, r, e⟩ := dec_ne u
  have hv := dec_val u
  unfold vS at hv
  obtain ⟨v, h1, h2⟩ := parse_val (Lib.decDigits u) 0 1000000000000000000 (Nat.le_refl _) (dec_dig u) (by show List.foldl vA 0 _ < _; rw [hv]; omega)
  have h2 : (v : Int) = List.foldl vA 0 (Lib.decDigits u) := h2
  rw [hv] at h2
  unfold Lib.parseMag
  rw [if_neg (by rw [e]; simp), h1]
  congr 1; omega
theorem atoi_itoa {n : Int} (h : -1000000 ≤ n ∧ n ≤ 1000000) : atoiS (Lib.itoa n) = (n, true) := by
  have key : Lib.atoiAll (Lib.itoa n) = .ok n := by
    unfold Lib.itoa
    split
    · rw [Lib.atoiAll_minus, mag_val _ (by omega)]
      simp only [Lib.signed]
      rw [if_neg (by omega)]
      congr 1; omega
    · obtain ⟨c, r, e⟩ := dec_ne n.toNat
      have hc := dec_dig n.toNat c (by rw [e]; exact List.mem_cons_self ..)
      unfold digB at hc
      rw [Bool.and_eq_true, decide_eq_true_eq, decide_eq_true_eq] at hc
      have hm := mag_val n.toNat (by omega)
      rw [e] at hm ⊢
      rw [Lib.atoiAll_plain c r (by omega) (by omega), hm]
      simp only [Lib.signless]
      rw [if_neg (by omega)]
      congr 1; omega
  unfold atoiS
  rw [key]
/-! the tokens of a text -/
inductive Cuts : List UInt8 → List Tok → Prop
  | nil : Cuts [] []
  | cons {w r : List UInt8} {t : Tok} {ts : List Tok} (hw : w ≠ []) (h : firstM (w ++ r) = t) (ht : t.2.1 = w) (hr : Cuts r ts) : Cuts (w ++ r) (t :: ts)
theorem cuts_cut {s : List UInt8} {ts : List Tok} (h : Cuts s ts) : ts.length ≤ s.length ∧ ∀ k, s.length ≤ k → cutN k s = ts ∧ cutOk k s = true := by
  induction h with
  | nil => exact ⟨Nat.le_refl _, fun k _ => by cases k <;> exact ⟨rfl, rfl⟩⟩
  | @cons w r t ts hw h ht hr ih =>
    have hl : 1 ≤ w.length := by
      cases w with
      | nil => exact absurd rfl hw
      | cons _ _ => simp
    refine ⟨by rw [List.length_append, List.length_cons]; have := ih.1; omega, fun k hk => ?_⟩
    rw [List.length_append] at hk
    cases k with
    | zero => omega
    | succ k =>
      have ih := ih.2 k (by omega)
      have hne : w ++ r ≠ [] := by
        cases w with
        | nil => exact absurd rfl hw
        | cons _ _ => simp
      have e : (w ++ r).drop (firstM (w ++ r)).2.1.length = r := by rw [h, ht, List.drop_left]
      rw [cutN, if_neg hne, cutOk, e, ih.1, ih.2, h, ht]
      refine ⟨rfl, ?_⟩
      simp only [List.length_append, Bool.and_true, Bool.or_eq_true, Bool.and_eq_true, decide_eq_true_eq]
      exact .inr ⟨hl, by omega⟩
/-- the solid tokens of a text -/
def Sol (s : List UInt8) (ss : List Tok) : Prop := ∃ ts, Cuts s ts ∧ solidS ts = ss ∧ ts.all tokOK = true
theorem sol_nil : Sol [] [] := ⟨[], .nil, rfl, rfl⟩
theorem sol_put {w r : List UInt8} {t : Tok} {ss : List Tok} (hw : w ≠ []) (h : firstM (w ++ r) = t) (ht : t.2.1 = w) (hk : (t.1 != 8 && t.1 != 9) = true) (ho : tokOK t = true) (hr : Sol r ss) : Sol (w ++ r) (t :: ss) := by
  obtain ⟨ts, h1, h2, h3⟩ := hr
  refine ⟨t :: ts, .cons hw h ht h1, ?_, by rw [List.all_cons, ho, h3]; rfl⟩
  unfold solidS at h2 ⊢
  simp only [List.filter_cons]
  rw [if_pos hk, h2]
theorem sol_blank {r : List UInt8} {ss : List Tok} (hl : (32 :: r).length ≤ 1000) (hr : tlS r ([32, 9, 10, 12, 13] : List UInt8) = r) (h : Sol r ss) : Sol (32 :: r) ss := by
  obtain ⟨ts, h1, h2, h3⟩ := h
  refine ⟨(8, [32], [], 0) :: ts, .cons (w := [32]) (by simp) (first_blank hl hr) rfl h1, ?_, by rw [List.all_cons, h3]; rfl⟩
  unfold solidS at h2 ⊢
  rw [List.filter_cons_of_neg (by decide), h2]
theorem sol_sign (c : UInt8) (k : Int) {r : List UInt8} {ss : List Tok} (hc : plB c = true) (hd : decide (48 ≤ c.toNat ∧ c.toNat ≤ 57) = false) (hs : startsM (c.toNat : Int) = false) (hk : (if (c.toNat = 40 ∨ c.toNat = 91 ∨ c.toNat = 123) then (10 : Int) else if (c.toNat = 41 ∨ c.toNat = 93 ∨ c.toNat = 125) then 11 else 12) = k) (hl : (c :: r).length ≤ 1000)
    (ho : tokOK (k, [c], [], 0) = true) (h : Sol r ss) : Sol (c :: r) ((k, [c], [], 0) :: ss) :=
  sol_put (w := [c]) (by simp) ((first_sign hl hc hd hs).trans (by rw [hk])) rfl (by
    rw [← hk]
    repeat' split
    all_goals rfl) ho h
theorem sol_name {c : UInt8} {w r : List UInt8} {ss : List Tok} (hl : (c :: (w ++ r)).length ≤ 1000) (hc : plB c = true) (hd : decide (48 ≤ c.toNat ∧ c.toNat ≤ 57) = false) (hs : startsM (c.toNat : Int) = true) (hw : ((c :: w).all fun c => signM (c.toNat : Int) && !(c.toNat == 92)) = true) (hr : stopB r = true)
    (ho : tokOK (1, c :: w, c :: w, 0) = true) (h : Sol r ss) : Sol (c :: (w ++ r)) ((1, c :: w, c :: w, 0) :: ss) :=
  sol_put (w := c :: w) (by simp) (first_name hl hc hd hs hw hr) rfl rfl ho h
theorem sol_px {c : UInt8} {w r : List UInt8} {ss : List Tok} (hl : (c :: (w ++ 112 :: 120 :: r)).length ≤ 1000) (hw : ((c :: w).all fun c => ([48, 49, 50, 51, 52, 53, 54, 55, 56, 57] : List UInt8).contains c) = true) (hr : stopB r = true) (h : Sol r ss) :
    ∃ x, Sol (c :: (w ++ 112 :: 120 :: r)) ((7, c :: w ++ [112, 120], [112, 120], x) :: ss) := by
  obtain ⟨x, hx⟩ := first_px hl hw hr
  refine ⟨x, ?_⟩
  have e : c :: (w ++ 112 :: 120 :: r) = (c :: w ++ [112, 120]) ++ r := by simp
  rw [e] at hx ⊢
  refine sol_put (by simp) hx rfl rfl ?_ h
  unfold tokOK
  simp only [List.length_append, List.length_cons, List.length_nil]
  simp only [List.length_append, List.length_cons] at hl
  simp; omega
theorem not_ws {c : UInt8} {r : List UInt8} (h : ([32, 9, 10, 12, 13] : List UInt8).contains c = false) : tlS (c :: r) ([32, 9, 10, 12, 13] : List UInt8) = c :: r := tl_same h
/-! features -/
def rightF (f : Int × Int) : Prop := 1 ≤ f.1 ∧ f.1 ≤ 12 ∧ ((4 ≤ f.1 ∧ f.1 ≤ 7) ∧ 0 ≤ f.2 ∧ f.2 ≤ 1000000 ∨ ¬ (4 ≤ f.1 ∧ f.1 ≤ 7) ∧ f.2 = 0)
abbrev tO : Tok := (10, [40], [], 0)
abbrev tC : Tok := (11, [41], [], 0)
abbrev tD : Tok := (12, [58], [], 0)
abbrev tQ : Tok := (12, [63], [], 0)
abbrev tK : Tok := (12, [44], [], 0)
abbrev tA : Tok := (1, [97, 110, 100], [97, 110, 100], 0)
abbrev tN : Tok := (1, [110, 111, 116], [110, 111, 116], 0)
def tW (w : List UInt8) : Tok := (1, w, w, 0)
def sizW (k : Int) : List UInt8 := DWords.getD k.toNat default
def parA (k : Int) : List UInt8 := (DWords.getD k.toNat default).takeWhile fun c => !(c == 58)
def parB (k : Int) : List UInt8 := ((DWords.getD k.toNat default).dropWhile fun c => !(c == 58)).drop 1
inductive FT : Int × Int → List Tok → Prop
  | word (k : Int) (h : k = 1 ∨ k = 2 ∨ k = 3) : FT (k, 0) [tW (sizW k)]
  | size (k n x : Int) (h : k = 4 ∨ k = 5 ∨ k = 6 ∨ k = 7) (hn : 0 ≤ n ∧ n ≤ 1000000) : FT (k, n) [tO, tW (sizW k), tD, (7, Lib.itoa n ++ [112, 120], [112, 120], x), tC]
  | pair (k : Int) (h : k = 8 ∨ k = 9 ∨ k = 10 ∨ k = 11) : FT (k, 0) [tO, tW (parA k), tD, tW (parB k), tC]
  | none : FT (12, 0) [tO, tQ, tC]
theorem itoa_digs {n : Int} (h : 0 ≤ n) : ∃ c w, Lib.itoa n = c :: w ∧ ((c :: w).all fun c => ([48, 49, 50, 51, 52, 53, 54, 55, 56, 57] : List UInt8).contains c) = true := by
  have e : Lib.itoa n = Lib.decDigits n.toNat := by unfold Lib.itoa; rw [if_neg (by omega)]
  obtain ⟨c, w, hc⟩ := dec_ne n.toNat
  refine ⟨c, w, by rw [e, hc], List.all_eq_true.2 fun d hd => ?_⟩
  have := dec_dig n.toNat d (by rw [hc]; exact hd)
  unfold digB at this
  rw [Bool.and_eq_true, decide_eq_true_eq, decide_eq_true_eq] at this
  have key : ∀ m : Nat, m < 10 → d.toNat = 48 + m → ([48, 49, 50, 51, 52, 53, 54, 55, 56, 57] : List UInt8).contains d = true := by
    intro m hm hd
    have : d = UInt8.ofNat (48 + m) := by
      apply UInt8.toNat_inj.1
      rw [hd, UInt8.toNat_ofNat']; omega
    subst this
    have : ∀ m : Fin 10, ([48, 49, 50, 51, 52, 53, 54, 55, 56, 57] : List UInt8).contains (UInt8.ofNat (48 + m.1)) = true := by decide
    exact this ⟨m, hm⟩
  exact key (d.toNat - 48) (by omega) (by omega)
/-- a word of the table, as a name -/
theorem sol_word (w : List UInt8) {r : List UInt8} {ss : List Tok} (hw : (match w with | [] => false | c :: v => plB c && !decide (48 ≤ c.toNat ∧ c.toNat ≤ 57) && startsM (c.toNat : Int) && ((c :: v).all fun c => signM (c.toNat : Int) && !(c.toNat == 92)) && tokOK (1, c :: v, c :: v, 0)) = true)
    (hl : (w ++ r).length ≤ 1000) (hr : stopB r = true) (h : Sol r ss) : Sol (w ++ r) (tW w :: ss) := by
  cases w with
  | nil => cases hw
  | cons c v =>
    simp only [Bool.and_eq_true, Bool.not_eq_true'] at hw
    obtain ⟨⟨⟨⟨h1, h2⟩, h3⟩, h4⟩, h5⟩ := hw
    exact sol_name hl h1 h2 h3 h4 hr h5 h
theorem sol_O {r : List UInt8} {ss : List Tok} (hl : (40 :: r).length ≤ 1000) (h : Sol r ss) : Sol (40 :: r) (tO :: ss) := sol_sign 40 10 (by decide) (by decide) (by decide) (by decide) hl (by decide) h
theorem sol_C {r : List UInt8} {ss : List Tok} (hl : (41 :: r).length ≤ 1000) (h : Sol r ss) : Sol (41 :: r) (tC :: ss) := sol_sign 41 11 (by decide) (by decide) (by decide) (by decide) hl (by decide) h
theorem sol_D {r : List UInt8} {ss : List Tok} (hl : (58 :: r).length ≤ 1000) (h : Sol r ss) : Sol (58 :: r) (tD :: ss) := sol_sign 58 12 (by decide) (by decide) (by decide) (by decide) hl (by decide) h
theorem sol_Q {r : List UInt8} {ss : List Tok} (hl : (63 :: r).length ≤ 1000) (h : Sol r ss) : Sol (63 :: r) (tQ :: ss) := sol_sign 63 12 (by decide) (by decide) (by decide) (by decide) hl (by decide) h
theorem sol_K {r : List UInt8} {ss : List Tok} (hl : (44 :: r).length ≤ 1000) (h : Sol r ss) : Sol (44 :: r) (tK :: ss) := sol_sign 44 12 (by decide) (by decide) (by decide) (by decide) hl (by decide) h
theorem sol_feat {f : Int × Int} {r : List UInt8} {ss : List Tok} (hf : rightF f) (hl : (featS f ++ r).length ≤ 1000) (hr : stopB r = true) (h : Sol r ss) : ∃ fs, FT f fs ∧ Sol (featS f ++ r) (fs ++ ss) := by
  obtain ⟨k, n⟩ := f
  obtain ⟨h1, h2, h3⟩ := hf
  have h1 : 1 ≤ k := h1
  have h2 : k ≤ 12 := h2
  rcases h3 with ⟨⟨h4, h7⟩, h0, hm⟩ | ⟨h4, h0⟩
  · have h4 : 4 ≤ k := h4
    have h7 : k ≤ 7 := h7
    have h0 : 0 ≤ n := h0
    have hm : n ≤ 1000000 := hm
    have hk : k = 4 ∨ k = 5 ∨ k = 6 ∨ k = 7 := by omega
    obtain ⟨c, w, e, hd⟩ := itoa_digs h0
    have hfe : featS (k, n) = 40 :: (sizW k ++ 58 :: 32 :: (c :: (w ++ 112 :: 120 :: [41]))) := by
      unfold featS sizW
      rw [if_neg (by simp; omega), if_pos (by simp; omega), e]
      show ((([40] ++ _) ++ [58, 32]) ++ (c :: w)) ++ [112, 120, 41] = _
      simp
    have hcw : ([32, 9, 10, 12, 13] : List UInt8).contains c = false := by
      rw [List.all_cons, Bool.and_eq_true] at hd
      have := hd.1
      simp only [List.contains_cons, List.contains_nil, Bool.or_false, Bool.or_eq_true, beq_iff_eq] at this
      rcases this with rfl | rfl | rfl | rfl | rfl | rfl | rfl | rfl | rfl | rfl <;> decide
    rw [hfe] at hl ⊢
    have hsw : (match sizW k with | [] => false | c :: v => plB c && !decide (48 ≤ c.toNat ∧ c.toNat ≤ 57) && startsM (c.toNat : Int) && ((c :: v).all fun c => signM (c.toNat : Int) && !(c.toNat == 92)) && tokOK (1, c :: v, c :: v, 0)) = true := by
      rcases hk with rfl | rfl | rfl | rfl <;> decide +kernel
    simp only [List.length_append, List.length_cons, List.cons_append, List.append_assoc] at hl ⊢
    have a1 := sol_C (r := r) (by simp only [List.length_cons]; omega) h
    obtain ⟨x, a2⟩ := sol_px (c := c) (w := w) (r := 41 :: r) (by simp only [List.length_append, List.length_cons]; simp only [List.length_nil] at hl; omega) hd rfl a1
    have a3 := sol_blank (by simp only [List.length_append, List.length_cons]; simp only [List.length_nil] at hl; omega) (not_ws hcw) a2
    have a4 := sol_D (by simp only [List.length_append, List.length_cons]; simp only [List.length_nil] at hl; omega) a3
    have a5 := sol_word (sizW k) hsw (by simp only [List.length_append, List.length_cons]; simp only [List.length_nil] at hl; omega) rfl a4
    have a6 := sol_O (by simp only [List.length_append, List.length_cons]; simp only [List.length_nil] at hl; omega) a5
    refine ⟨_, .size k n x hk ⟨h0, hm⟩, ?_⟩
    rw [e]
    exact a6
  · have h0 : n = 0 := h0
    subst h0
    have h4 : ¬ (4 ≤ k ∧ k ≤ 7) := h4
    by_cases hw : k ≤ 3
    · have hk : k = 1 ∨ k = 2 ∨ k = 3 := by omega
      have hfe : featS (k, 0) = sizW k := by
        unfold featS sizW
        rw [if_pos (by simp; omega)]
      rw [hfe] at hl ⊢
      refine ⟨_, .word k hk, sol_word (sizW k) ?_ hl hr h⟩
      rcases hk with rfl | rfl | rfl <;> decide +kernel
    · by_cases h12 : k = 12
      · subst h12
        have hfe : featS (12, 0) = [40, 63, 41] := rfl
        rw [hfe] at hl ⊢
        simp only [List.length_append, List.length_cons, List.length_nil] at hl
        refine ⟨_, .none, ?_⟩
        show Sol (40 :: 63 :: 41 :: r) (tO :: tQ :: tC :: ss)
        exact sol_O (by simp only [List.length_cons]; omega) (sol_Q (by simp only [List.length_cons]; omega) (sol_C (by simp only [List.length_cons]; omega) h))
      · have hk : k = 8 ∨ k = 9 ∨ k = 10 ∨ k = 11 := by omega
        have hfe : featS (k, 0) = 40 :: (parA k ++ 58 :: 32 :: (parB k ++ [41])) ∧ (match parA k with | [] => false | c :: v => plB c && !decide (48 ≤ c.toNat ∧ c.toNat ≤ 57) && startsM (c.toNat : Int) && ((c :: v).all fun c => signM (c.toNat : Int) && !(c.toNat == 92)) && tokOK (1, c :: v, c :: v, 0)) = true ∧
            (match parB k with | [] => false | c :: v => plB c && !decide (48 ≤ c.toNat ∧ c.toNat ≤ 57) && startsM (c.toNat : Int) && ((c :: v).all fun c => signM (c.toNat : Int) && !(c.toNat == 92)) && tokOK (1, c :: v, c :: v, 0)) = true ∧ (∀ q, tlS (parB k ++ q) ([32, 9, 10, 12, 13] : List UInt8) = parB k ++ q) := by
          rcases hk with rfl | rfl | rfl | rfl
          all_goals exact ⟨by decide +kernel, by decide +kernel, by decide +kernel, fun q => not_ws (by decide)⟩
        obtain ⟨e1, e2, e3, e4⟩ := hfe
        rw [e1] at hl ⊢
        simp only [List.length_append, List.length_cons, List.cons_append, List.append_assoc, List.nil_append] at hl ⊢
        have a1 := sol_C (r := r) (by simp only [List.length_cons]; omega) h
        have a2 := sol_word (parB k) e3 (r := 41 :: r) (by simp only [List.length_append, List.length_cons]; omega) rfl a1
        have a3 := sol_blank (by simp only [List.length_append, List.length_cons]; omega) (e4 _) a2
        have a4 := sol_D (by simp only [List.length_append, List.length_cons]; omega) a3
        have a5 := sol_word (parA k) e2 (by simp only [List.length_append, List.length_cons]; omega) rfl a4
        have a6 := sol_O (by simp only [List.length_append, List.length_cons]; omega) a5
        exact ⟨_, .pair k hk, a6⟩
end Go.Proofs.YtjehllphdpkjeaaGreatDoor.Me
