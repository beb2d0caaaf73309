/- MediaHolds: what is told is read again: queries and pieces. -/
import Derived.Test.YtjehllphdpkjeaaGreatDoorMhr
namespace Go.Proofs.YtjehllphdpkjeaaGreatDoor.Me
open Go Go.Eng Go.RowKit Go.Shelf Go.Proofs Bld Trm Css Ti
set_option linter.unusedVariables false
/-! features -/
theorem dw_nil {p : UInt8 → Bool} : ∀ {s : List UInt8}, (∀ x ∈ s, p x = true) → s.dropWhile p = []
  | [], _ => rfl
  | c :: s, h => by rw [List.dropWhile_cons_of_pos (h c (List.mem_cons_self ..))]; exact dw_nil fun x hx => h x (List.mem_cons_of_mem _ hx)
theorem trim_all {s cut : List UInt8} (h : (s.all fun c => cut.contains c) = true) : trimS s cut = [] := by
  have e : Lib.trimRightS s cut = [] := by
    unfold Lib.trimRightS
    rw [dw_nil (fun x hx => List.all_eq_true.1 h x (List.mem_reverse.1 hx))]; rfl
  show Lib.trimLeftS (Lib.trimRightS s cut) cut = []
  rw [e]; rfl
theorem feat_size {k n x : Int} (h : k = 4 ∨ k = 5 ∨ k = 6 ∨ k = 7) (hn : 0 ≤ n ∧ n ≤ 1000000) : featR [tW (sizW k), tD, (7, Lib.itoa n ++ [112, 120], [112, 120], x)] = (k, n) := by
  obtain ⟨c, w, e, hd⟩ := itoa_digs hn.1
  have hl : (Lib.itoa n).length ≤ 8 := itoa_len8 (by omega)
  have ht : (Lib.itoa n ++ [112, 120]).take (Int.toNat (IntKind.wrap .i64 (((Lib.itoa n ++ [112, 120]).length : Int) - 2))) = Lib.itoa n := by
    rw [List.length_append, w64 (by simp only [List.length_cons, List.length_nil]; omega)]
    exact List.take_left' (by simp only [List.length_cons, List.length_nil]; omega)
  have hv : mfeV1 (7, Lib.itoa n ++ [112, 120], [112, 120], x) = false := by
    unfold mfeV1
    simp only
    rw [ht, trim_all (by rw [e]; exact hd)]; rfl
  have hk : kindS (mwdM (tW (sizW k))) = k := by rcases h with rfl | rfl | rfl | rfl <;> decide +kernel
  have hp : pxS k (7, Lib.itoa n ++ [112, 120], [112, 120], x) = (k, n) := by
    unfold pxS
    rw [if_f hv]
    simp only
    rw [ht, atoi_itoa (by omega), if_t rfl, if_f (decide_eq_false (by omega))]
  unfold featR
  rw [if_f (show mfeV0 [tW (sizW k), tD, (7, Lib.itoa n ++ [112, 120], [112, 120], x)] = false from rfl)]
  show (if (decide (kindS (mwdM (tW (sizW k))) ≥ 4) && decide (kindS (mwdM (tW (sizW k))) ≤ 7)) = true then pxS (kindS (mwdM (tW (sizW k)))) _ else _) = _
  rw [hk, if_pos (by simp; omega)]
  exact hp
theorem feat_pair {k : Int} (h : k = 8 ∨ k = 9 ∨ k = 10 ∨ k = 11) : featR [tW (parA k), tD, tW (parB k)] = (k, 0) := by
  rcases h with rfl | rfl | rfl | rfl <;> decide +kernel
theorem feat_none : featR [tQ] = (12, 0) := rfl
theorem end_five {a b c : Tok} {rest : List Tok} (ha : (a.1 = 1)) (hb : b.1 = 12) (hc : c.1 = 1 ∨ c.1 = 7) : endS (tO :: a :: b :: c :: tC :: rest) = 5 := by
  obtain ⟨ka, ra⟩ := a
  obtain ⟨kb, rb⟩ := b
  obtain ⟨kc, rc⟩ := c
  have ha : ka = 1 := ha
  have hb : kb = 12 := hb
  subst ha hb
  rcases hc with hc | hc
  · have hc : kc = 1 := hc
    subst hc; rfl
  · have hc : kc = 7 := hc
    subst hc; rfl
theorem end_three {rest : List Tok} : endS (tO :: tQ :: tC :: rest) = 3 := rfl
/-- one feature is read -/
theorem quer_step {f : Int × Int} {fs rest : List Tok} (h : FT f fs) (k : Nat) (acc : List (Int × Int)) :
    querN (k + 1) (fs ++ rest) acc = if rest.length = 0 then (acc ++ [f], true) else if (!((mwdM (rest.getD 0 default)) == ([97, 110, 100] : List UInt8))) = true then (acc ++ [f], false) else querN k (rest.drop 1) (acc ++ [f]) := by
  have blk : ∀ (a : Tok) (bs : List Tok) (n : Nat), fs = tO :: bs → endS (fs ++ rest) = (n : Int) → fs.length = n → 1 ≤ n → n ≤ 10 → featR ((bs.take (n - 2))) = f → querN (k + 1) (fs ++ rest) acc = if rest.length = 0 then (acc ++ [f], true) else if (!((mwdM (rest.getD 0 default)) == ([97, 110, 100] : List UInt8))) = true then (acc ++ [f], false) else querN k (rest.drop 1) (acc ++ [f]) := by
    intro a bs n hfs he hl hn1 hn2 hf
    have hd : (fs ++ rest).drop n = rest := by rw [← hl, List.drop_left]
    have ht : ((fs ++ rest).take (Int.toNat (IntKind.wrap .i64 ((n : Int) - 1)))).drop (Int.toNat 1) = bs.take (n - 2) := by
      rw [w64 (by omega), show ((n : Int) - 1).toNat = n - 1 by omega, List.take_append_of_le_length (by omega), hfs]
      show ((tO :: bs).take (n - 1)).drop 1 = _
      by_cases h2 : 2 ≤ n
      · rw [show n - 1 = (n - 2) + 1 by omega, List.take_succ_cons]; rfl
      · rw [show n - 1 = 0 by omega, show n - 2 = 0 by omega]; rfl
    have h0 : (fs ++ rest).getD 0 default = tO := by rw [hfs]; rfl
    rw [querN, if_neg (by rw [List.length_append]; omega)]
    simp only
    unfold mquV4 mquV5 mquV6
    rw [h0, he, if_t (show (tO.2.1 == ([40] : List UInt8)) = true from rfl), if_t (show (tO.2.1 == ([40] : List UInt8)) = true from rfl), if_t (show (tO.2.1 == ([40] : List UInt8)) = true from rfl), Int.toNat_natCast, hd, ht, hf]
    rw [if_f (show (tO.2.1 == ([40] : List UInt8) && ((n : Int) == 0)) = false by rw [show ((n : Int) == 0) = false by simp; omega, Bool.and_false]), if_f (show (!(tO.2.1 == ([40] : List UInt8)) && decide (kindS (mwdM tO) > 3)) = false from rfl)]
  cases h with
  | word k' hk =>
    have hne : ((sizW k') == ([40] : List UInt8)) = false := by rcases hk with rfl | rfl | rfl <;> decide +kernel
    have hki : kindS (mwdM (tW (sizW k'))) = k' := by rcases hk with rfl | rfl | rfl <;> decide +kernel
    rw [List.singleton_append, querN, if_neg (by simp)]
    simp only
    unfold mquV4 mquV5 mquV6
    rw [show (tW (sizW k') :: rest).getD 0 default = tW (sizW k') from rfl, show (tW (sizW k')).2.1 = sizW k' from rfl, hne, hki]
    rw [if_f (show (false && (endS (tW (sizW k') :: rest) == 0)) = false from rfl), if_f (show (!false && decide (k' > 3)) = false by rw [decide_eq_false (by omega)]; rfl), if_f rfl, if_f rfl, if_f rfl]
    rfl
  | size k' n x hk hn =>
    exact blk tO _ 5 rfl (end_five rfl rfl (.inr rfl)) rfl (by omega) (by omega) (feat_size hk hn)
  | pair k' hk =>
    exact blk tO _ 5 rfl (end_five rfl rfl (.inl rfl)) rfl (by omega) (by omega) (feat_pair hk)
  | none => exact blk tO _ 3 rfl end_three rfl (by omega) (by omega) feat_none
theorem ft_pos {f : Int × Int} {fs : List Tok} (h : FT f fs) : 1 ≤ fs.length := by cases h <;> simp
theorem quer_feats {gs : List (Int × Int)} {ts : List Tok} (h : FsT gs ts) : ∀ (k : Nat) (acc : List (Int × Int)), ts.length ≤ k → querN k ts acc = (acc ++ gs, true) := by
  induction h with
  | one h =>
    intro k acc hk
    have := ft_pos h
    obtain ⟨k, rfl⟩ : ∃ j, k = j + 1 := ⟨k - 1, by omega⟩
    have := quer_step (rest := []) h k acc
    rw [List.append_nil] at this
    rw [this]; rfl
  | @more f fs gs ts h t ih =>
    intro k acc hk
    have := ft_pos h
    rw [List.length_append, List.length_cons] at hk
    obtain ⟨k, rfl⟩ : ∃ j, k = j + 1 := ⟨k - 1, by omega⟩
    rw [quer_step h k acc, if_neg (by simp), if_f (show (!((mwdM ((tA :: ts).getD 0 default)) == ([97, 110, 100] : List UInt8))) = false from rfl)]
    show querN k ts (acc ++ [f]) = _
    rw [ih k _ (by omega), List.append_assoc]; rfl
theorem first_not {gs : List (Int × Int)} {ts : List Tok} (h : FsT gs ts) : mquV0 ts = false := by
  have key : ∀ (f : Int × Int) (fs rest : List Tok), FT f fs → mquV0 (fs ++ rest) = false := by
    intro f fs rest h
    unfold mquV0
    rw [Bool.and_eq_false_iff]
    right
    cases h with
    | word k hk => rcases hk with rfl | rfl | rfl <;> rfl
    | size => rfl
    | pair => rfl
    | none => rfl
  cases h with
  | one h => have := key _ _ [] h; rwa [List.append_nil] at this
  | more h t => exact key _ _ _ h
theorem q_of {q : Qu} {ts : List Tok} (h : QT q ts) : qOf ts = q := by
  have e : querS ts = (q, true) := by
    cases h with
    | plain h =>
      unfold querS querR
      rw [first_not h, if_neg (by simp), quer_feats h _ _ (by omega)]; rfl
    | @not l ts h =>
      have hn : mquV0 (tN :: ts) = true := by
        unfold mquV0
        rw [decide_eq_true (by simp only [List.length_cons]; omega)]; rfl
      unfold querS querR
      rw [hn, if_pos rfl, show (tN :: ts).drop 1 = ts from rfl, quer_feats h _ _ (by simp; omega)]; rfl
  unfold qOf mreV0
  rw [e]; rfl
/-! pieces -/
def Walks (ts : List Tok) : Prop := ∀ (pre post : List Tok) (k : Nat) (fr : Int) (out RES : List (List Tok)), (pre ++ ts ++ post).length ≤ 1000 →
  (∀ k', (pre ++ ts ++ post).length < k' + (pre.length + ts.length) → pieN (pre ++ ts ++ post) k' fr ((pre.length + ts.length : Nat) : Int) out = RES) → (pre ++ ts ++ post).length < k + pre.length → pieN (pre ++ ts ++ post) k fr (pre.length : Int) out = RES
theorem walks_nil : Walks [] := fun pre post k fr out RES hl h hk => h k (by simpa using hk)
theorem walks_append {a b : List Tok} (ha : Walks a) (hb : Walks b) : Walks (a ++ b) := by
  intro pre post k fr out RES hl h hk
  have e1 : pre ++ (a ++ b) ++ post = pre ++ a ++ (b ++ post) := by simp
  have e2 : pre ++ (a ++ b) ++ post = (pre ++ a) ++ b ++ post := by simp
  rw [e1] at hl hk ⊢
  refine ha pre (b ++ post) k fr out RES hl (fun k' hk' => ?_) hk
  rw [← e1, e2] at hk' ⊢
  have la : (pre ++ a).length = pre.length + a.length := List.length_append
  have lb : (a ++ b).length = a.length + b.length := List.length_append
  have := hb (pre ++ a) post k' fr out RES (by rw [← e2, e1]; exact hl) (fun k2 hk2 => ?_) (by rw [la]; omega)
  · rw [la] at this
    exact this
  · rw [← e2] at hk2 ⊢
    rw [la] at hk2 ⊢
    have := h k2 (by rw [lb]; omega)
    rw [lb, ← Nat.add_assoc] at this
    exact this
theorem at_mid {pre post : List Tok} {t : Tok} {ts : List Tok} : (pre ++ (t :: ts) ++ post).getD (Int.toNat (pre.length : Int)) default = t := by
  rw [Int.toNat_natCast, List.getD_eq_getElem?_getD, List.append_assoc, List.getElem?_append_right (Nat.le_refl _), Nat.sub_self]; rfl
theorem walks_one {t : Tok} (h1 : (t.1 == 10 || t.1 == 2) = false) (h2 : (t.1 == 12 && t.2.1 == ([44] : List UInt8)) = false) : Walks [t] := by
  intro pre post k fr out RES hl h hk
  have hlen : (pre ++ [t] ++ post).length = pre.length + 1 + post.length := by simp; omega
  obtain ⟨k, rfl⟩ : ∃ j, k = j + 1 := ⟨k - 1, by omega⟩
  have h := h k (by rw [List.length_singleton]; omega)
  rw [pieN, if_t (decide_eq_true (by omega))]
  unfold mpiV8 mpiV9 mpiV10
  rw [at_mid, h1, h2, if_f rfl, if_f rfl, if_f rfl, if_f rfl, if_f rfl, w64 (by omega)]
  exact h
theorem walks_block {t : Tok} {ts : List Tok} (h1 : (t.1 == 10 || t.1 == 2) = true) (he : ∀ post, endS (t :: ts ++ post) = ((t :: ts).length : Int)) : Walks (t :: ts) := by
  intro pre post k fr out RES hl h hk
  have hlen : (pre ++ (t :: ts) ++ post).length = pre.length + (ts.length + 1) + post.length := by simp; omega
  obtain ⟨k, rfl⟩ : ∃ j, k = j + 1 := ⟨k - 1, by omega⟩
  have h := h k (by rw [List.length_cons]; omega)
  have hd : (pre ++ (t :: ts) ++ post).drop (Int.toNat (pre.length : Int)) = t :: ts ++ post := by
    rw [Int.toNat_natCast, List.append_assoc, List.drop_left]
  have h4 : mpiV4 (pre ++ (t :: ts) ++ post) (pre.length : Int) = ((t :: ts).length : Int) := by
    unfold mpiV4
    rw [hd, he, if_f (by simp; omega)]
  rw [pieN, if_t (decide_eq_true (by omega))]
  unfold mpiV8 mpiV9 mpiV10
  rw [at_mid, h1, if_t rfl, if_t rfl, if_t rfl, h4, w64 (x := ((t :: ts).length : Int) - 1) (by simp; omega), w64 (x := (pre.length : Int) + _) (by simp; omega), w64 (by simp; omega)]
  rw [show (pre.length : Int) + (((t :: ts).length : Int) - 1) + 1 = ((pre.length + (t :: ts).length : Nat) : Int) by omega]
  exact h
theorem walks_ft {f : Int × Int} {fs : List Tok} (h : FT f fs) : Walks fs := by
  cases h with
  | word k hk => exact walks_one rfl rfl
  | size k n x hk hn => exact walks_block rfl fun post => end_five rfl rfl (.inr rfl)
  | pair k hk => exact walks_block rfl fun post => end_five rfl rfl (.inl rfl)
  | none => exact walks_block rfl fun post => end_three
theorem walks_fs {gs : List (Int × Int)} {ts : List Tok} (h : FsT gs ts) : Walks ts := by
  induction h with
  | one h => exact walks_ft h
  | more h t ih => exact walks_append (walks_ft h) (walks_append (a := [tA]) (walks_one rfl rfl) ih)
theorem walks_q {q : Qu} {ts : List Tok} (h : QT q ts) : Walks ts := by
  cases h with
  | plain h => exact walks_fs h
  | not h => exact walks_append (a := [tN]) (walks_one rfl rfl) (walks_fs h)
theorem pies {l : List Qu} {ts : List Tok} (h : LT l ts) : ∃ ps : List (List Tok), ps.map qOf = l ∧ ∀ (pre : List Tok) (k : Nat) (out : List (List Tok)), (pre ++ ts).length ≤ 1000 → (pre ++ ts).length < k + pre.length → pieN (pre ++ ts) k (pre.length : Int) (pre.length : Int) out = out ++ ps := by
  induction h with
  | @one q ts h =>
    refine ⟨[ts], by rw [List.map_cons, List.map_nil, q_of h], fun pre k out hl hk => ?_⟩
    have := walks_q h pre [] k (pre.length : Int) out (out ++ [ts]) (by simpa using hl) (fun k' hk' => ?_) (by simpa using hk)
    · rwa [List.append_nil] at this
    · rw [List.append_nil, List.length_append] at hk'
      rw [List.append_nil]
      obtain ⟨k', rfl⟩ : ∃ j, k' = j + 1 := ⟨k' - 1, by omega⟩
      rw [pieN, if_f (decide_eq_false (by rw [List.length_append]; omega)), Int.toNat_natCast, List.drop_left]
  | @more q l ts us h t ih =>
    obtain ⟨ps, p1, p2⟩ := ih
    refine ⟨ts :: ps, by rw [List.map_cons, q_of h, p1], fun pre k out hl hk => ?_⟩
    have e : pre ++ (ts ++ tK :: us) = pre ++ ts ++ (tK :: us) := by simp
    rw [e] at hl hk ⊢
    refine walks_q h pre (tK :: us) k (pre.length : Int) out _ hl (fun k' hk' => ?_) hk
    have hlen : (pre ++ ts ++ tK :: us).length = pre.length + ts.length + (us.length + 1) := by simp; omega
    obtain ⟨k', rfl⟩ : ∃ j, k' = j + 1 := ⟨k' - 1, by omega⟩
    rw [pieN, if_t (decide_eq_true (by omega))]
    have hat : (pre ++ ts ++ tK :: us).getD (Int.toNat ((pre.length + ts.length : Nat) : Int)) default = tK := by
      rw [Int.toNat_natCast, List.getD_eq_getElem?_getD, List.getElem?_append_right (by simp), List.length_append, Nat.sub_self]; rfl
    unfold mpiV8 mpiV9 mpiV10
    rw [hat, if_f (show (tK.1 == 10 || tK.1 == 2) = false from rfl), if_f (show (tK.1 == 10 || tK.1 == 2) = false from rfl), if_f (show (tK.1 == 10 || tK.1 == 2) = false from rfl), if_t (show (tK.1 == 12 && tK.2.1 == ([44] : List UInt8)) = true from rfl), if_t (show (tK.1 == 12 && tK.2.1 == ([44] : List UInt8)) = true from rfl), w64 (by omega)]
    have hs : (((pre ++ ts ++ tK :: us).take (Int.toNat ((pre.length + ts.length : Nat) : Int))).drop (Int.toNat (pre.length : Int))) = ts := by
      rw [Int.toNat_natCast, Int.toNat_natCast, List.take_left' (by simp), List.drop_left]
    rw [hs]
    have e2 : pre ++ ts ++ tK :: us = (pre ++ ts ++ [tK]) ++ us := by simp
    have := p2 (pre ++ ts ++ [tK]) k' (out ++ [ts]) (by rw [← e2]; exact hl) (by rw [← e2]; simp only [List.length_append, List.length_singleton]; simp only [List.length_append, List.length_cons] at hk'; simp only [List.length_cons]; omega)
    rw [← e2] at this
    have e3 : (((pre ++ ts ++ [tK]).length : Nat) : Int) = ((pre.length + ts.length : Nat) : Int) + 1 := by simp only [List.length_append, List.length_singleton]; omega
    rw [e3] at this
    rw [this, List.append_assoc]; rfl
/-- what is told is read again -/
theorem read_told {l : List Qu} (h0 : l ≠ []) (hq : ∀ q ∈ l, rightQ q) (hl : (textS l).length ≤ 400) : cutP (textS l) ∧ toksOK (cutS (textS l)) ∧ readS (textS l) = (l, 0) := by
  obtain ⟨ts, h1, h2⟩ := sol_text l h0 hq (by omega)
  obtain ⟨c1, c2, c3⟩ := told_cut hl h2
  refine ⟨c1, c2, ?_⟩
  have hpos : 1 ≤ ts.length := by
    cases h1 with
    | one h =>
      cases h with
      | plain h => cases h with
        | one h => exact ft_pos h
        | more h t => rw [List.length_append]; have := ft_pos h; omega
      | not h => simp
    | more h t => simp; omega
  have hle : ts.length ≤ 1000 := by rw [← c3]; exact (solid_ok c2).1
  obtain ⟨ps, p1, p2⟩ := pies h1
  have hp := p2 [] (ts.length + 1) [] (by simpa using hle) (by simp)
  unfold readS
  rw [if_f (decide_eq_false (by omega)), c3, if_f (show ((ts.length : Int) == 0) = false from beq_eq_false_iff_ne.2 (by omega))]
  have : pieS ts = ps := hp
  rw [this, p1]
end Go.Proofs.YtjehllphdpkjeaaGreatDoor.Me
