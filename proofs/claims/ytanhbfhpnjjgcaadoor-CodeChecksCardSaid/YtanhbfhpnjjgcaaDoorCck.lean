/- Code: the document's sweeps know all that can be reached, or a fault. -/
import Derived.Test.YtanhbfhpnjjgcaaDoorCcj
namespace Go.Proofs.YtanhbfhpnjjgcaaDoor.Cc
open Go Go.Eng Go.RowKit Fl
set_option linter.unusedVariables false
noncomputable section
abbrev AT := Bool × Int × List (Int × Int)
/-- tries, the last one first, as the checker keeps them -/
def flat : List (Int × Int) → List Int
 | [] => []
 | x :: l => flat l ++ [x.1, x.2]
def stA (e : AT) : ST := (e.2.1, flat e.2.2)
theorem flat_len : ∀ l : List (Int × Int), (flat l).length = 2 * l.length
 | [] => rfl
 | x :: l => by
  show (flat l ++ [x.1, x.2]).length = _
  rw [List.length_append, flat_len l]; simp only [List.length_cons, List.length_nil]; omega
theorem flat_inj : ∀ l r : List (Int × Int), flat l = flat r → l = r
 | [], [], _ => rfl
 | [], y :: r, h => by have := congrArg List.length h; rw [flat_len, flat_len] at this; simp only [List.length_cons, List.length_nil] at this; omega
 | x :: l, [], h => by have := congrArg List.length h; rw [flat_len, flat_len] at this; simp only [List.length_cons, List.length_nil] at this; omega
 | x :: l, y :: r, h => by
  obtain ⟨h1, h2⟩ := List.append_inj' (h : flat l ++ [x.1, x.2] = flat r ++ [y.1, y.2]) rfl
  rw [flat_inj l r h1]
  simp only [List.cons.injEq, and_true] at h2
  rw [Prod.ext h2.1 h2.2]
theorem stA_inj {d e : AT} (h1 : d.1 = e.1) (h : stA d = stA e) : d = e := by
 obtain ⟨a, b, c⟩ := d; obtain ⟨a2, b2, c2⟩ := e
 simp only [stA, Prod.mk.injEq] at h
 simp only [Prod.mk.injEq]
 exact ⟨h1, h.1, flat_inj _ _ h.2⟩
/-- how many are not known -/
def unk (n : Nat) (L : List AT) : Nat := (List.range n).countP fun k : Nat => !(L.getD k default).1
theorem getD_set {α : Type} (L : List α) (i k : Nat) (x d : α) (h : i < L.length) : (L.set i x).getD k d = if k = i then x else L.getD k d := by
 rw [List.getD_eq_getElem?_getD, List.getD_eq_getElem?_getD, List.getElem?_set]
 by_cases hk : k = i
 ·subst hk; rw [if_pos rfl, if_pos rfl, if_pos h]; rfl
 ·rw [if_neg (fun h => hk h.symm), if_neg hk]
theorem unk_set {n : Nat} {L : List AT} {i : Nat} {e : AT} (h0 : i < n) (h1 : i < L.length) (h2 : (L.getD i default).1 = false) (h3 : e.1 = true) : unk n (L.set i e) + 1 ≤ unk n L := by
 have : unk n (L.set i e) < unk n L := by
  unfold unk
  refine countP_lt (a := i) (fun x _ hx => ?_) (List.mem_range.2 h0) ?_ ?_
  ·rw [getD_set _ _ _ _ _ h1] at hx
   split at hx
   ·rw [h3] at hx; cases hx
   ·exact hx
  ·show (!(L.getD i default).1) = true
   rw [h2]; rfl
  ·show (!((L.set i e).getD i default).1) = false
   rw [getD_set _ _ _ _ _ h1, if_pos rfl, h3]; rfl
 omega
theorem unk_le (n : Nat) (L : List AT) : unk n L ≤ n := by
 unfold unk
 have := List.countP_le_length (p := fun k : Nat => !(L.getD k default).1) (l := List.range n)
 rwa [List.length_range] at this
/-- what holds of what is known -/
structure Ir (p : JP) (f : JF) (own : Int) (L : List AT) : Prop where
 len : L.length = f.2.2.2.length + 1
 known : ∀ k : Nat, k < f.2.2.2.length → (L.getD k default).1 = true → Rc p f own (k : Int) (stA (L.getD k default)) ∧ 0 ≤ (L.getD k default).2.1 ∧ (L.getD k default).2.1 + 2 * unk f.2.2.2.length L ≤ 2 * f.2.2.2.length ∧ (L.getD k default).2.2.length + unk f.2.2.2.length L ≤ f.2.2.2.length
/-- one has become known (or was) -/
structure Good (p : JP) (f : JF) (own : Int) (more : Bool) (L : List AT) (more' : Bool) (L' : List AT) : Prop extends Ir p f own L' where
 keep : ∀ k, (L.getD k default).1 = true → L'.getD k default = L.getD k default
 how : (more' = true ∧ unk f.2.2.2.length L' < unk f.2.2.2.length L) ∨ (more' = more ∧ L' = L)
theorem Good.trans {p : JP} {f : JF} {own : Int} {a b c : Bool} {L M N : List AT} (h : Good p f own a L b M) (k : Good p f own b M c N) : Good p f own a L c N where
 toIr := k.toIr
 keep := fun i hi => by rw [k.keep i (by rw [h.keep i hi]; exact hi), h.keep i hi]
 how := by
  rcases h.how with ⟨h1, h2⟩ | ⟨h1, h2⟩ <;> rcases k.how with ⟨k1, k2⟩ | ⟨k1, k2⟩
  ·exact .inl ⟨k1, by omega⟩
  ·exact .inl ⟨by rw [k1, h1], by rw [k2]; exact h2⟩
  ·exact .inl ⟨k1, by rw [h2] at k2; exact k2⟩
  ·exact .inr ⟨by rw [k1, h1], by rw [k2, h2]⟩
theorem Good.less {p : JP} {f : JF} {own : Int} {a b : Bool} {L M : List AT} (h : Good p f own a L b M) : unk f.2.2.2.length M ≤ unk f.2.2.2.length L := by
 rcases h.how with ⟨_, h2⟩ | ⟨_, h2⟩
 ·omega
 ·rw [h2]; exact Nat.le_refl _
theorem sel_facts {α : Type} {y : α} {l r : List α} (h : Sel y l r) : y ∈ l ∧ r.length + 1 = l.length ∧ (∀ z ∈ r, z ∈ l) ∧ ∀ z ∈ l, z = y ∨ z ∈ r := by
 obtain ⟨i, h1, rfl⟩ := h
 have hi : i < l.length := (List.getElem?_eq_some_iff.1 h1).1
 refine ⟨List.mem_of_getElem? h1, by rw [List.length_eraseIdx]; rw [if_pos hi]; omega, fun z hz => List.mem_of_mem_eraseIdx hz, fun z hz => ?_⟩
 obtain ⟨j, hj⟩ := List.mem_iff_getElem?.1 hz
 by_cases hji : j = i
 ·subst hji; rw [h1] at hj; cases hj; exact .inl rfl
 ·refine .inr (List.mem_iff_getElem?.2 ?_)
  rcases Nat.lt_or_gt_of_ne hji with h | h
  ·exact ⟨j, by rw [List.getElem?_eraseIdx, if_pos h]; exact hj⟩
  ·exact ⟨j - 1, by rw [List.getElem?_eraseIdx, if_neg (by omega), Nat.sub_add_cancel (by omega)]; exact hj⟩
theorem rng {p : JP} {f : JF} {own : Int} {K : Bool → Prop} {x : Int} {C : Bool → Int → List AT → Prop} {u : Nat} (hn : f.2.2.2.length ≤ 8000) (hK : ¬RightF p f own → K false) :
  ∀ (k : Nat) (rem : List (Int × AT)) (more : Bool) (L : List AT), rem.length < k → Ir p f own L → unk f.2.2.2.length L ≤ u → (∀ y ∈ rem, 0 ≤ y.1 ∧ y.2.1 = true ∧ Nxt p f own u y.1 (stA y.2)) →
  (∀ more' L', Good p f own more L more' L' → (∀ y ∈ rem, y.1 < f.2.2.2.length ∧ L'.getD y.1.toNat default = y.2) → C more' (w6 (x + 1)) L') → fnrl215 K f x C k more rem L := by
 intro k
 induction k with
 | zero => intro rem more L h; omega
 | succ k ih =>
  intro rem more L hl I hu hN hC
  refine ⟨fun he => ?_, fun y r hs => ?_⟩
  ·subst he
   exact hC more L ⟨I, fun _ _ => rfl, .inr ⟨rfl, rfl⟩⟩ (fun _ h => by cases h)
  ·obtain ⟨s1, s2, s3, s4⟩ := sel_facts hs
   obtain ⟨y0, y1, n1, n2, n3, n4, n5⟩ := hN y s1
   have hnr : (decide (y.1 ≥ (f.2.2.2.length : Int))) = true → K false := fun h => hK fun hR => hR.1 _ _ n1 (by
    have h := of_decide_eq_true h
    unfold nx; rw [if_pos]; omega)
   refine ⟨hnr, fun h => ?_⟩
   have hlt := of_decide_eq_false h
   have hy : y.1.toNat < f.2.2.2.length := by omega
   have hyL : y.1.toNat < L.length := by rw [I.len]; omega
   obtain ⟨e, he⟩ : ∃ e, e = L.getD y.1.toNat default := ⟨_, rfl⟩
   obtain ⟨n4, n4'⟩ : y.2.2.2.length + u ≤ f.2.2.2.length + 1 ∧ y.2.2.2.length ≤ 1000000 := by
    have : (flat y.2.2.2).length + 2 * u ≤ 2 * f.2.2.2.length + 2 := n4
    rw [flat_len] at this; omega
   have hcase : fnrV11 L y = true → K false := fun hv => by
    unfold fnrV11 at hv
    rw [← he] at hv
    simp only [Bool.and_eq_true, Bool.or_eq_true, bne_iff_ne, ne_eq, Bool.not_eq_true'] at hv
    obtain ⟨v1, v2⟩ := hv
    have hk := (I.known _ hy (by rw [← he]; exact v1)).1
    rw [← he, Int.toNat_of_nonneg y0] at hk
    refine hK fun hR => ?_
    have hee := stA_inj (by rw [v1, y1]) (hR.2 _ _ _ hk n1)
    rw [hee] at v2
    rcases v2 with v2 | v2
    ·exact v2 rfl
    ·unfold peqS at v2
     rw [beq_self_eq_true] at v2; cases v2
   have hnew : fnrV11 L y = false → fnrl215 K f x C k (fnrV12 more L y) r (L.set y.1.toNat y.2) := fun hv => by
    unfold fnrV11 at hv
    unfold fnrV12
    rw [← he] at hv ⊢
    cases hk : e.1 with
    | true =>
     rw [hk, Bool.true_and, Bool.or_eq_false_iff] at hv
     have hee : e = y.2 := by
      obtain ⟨v1, v2⟩ := hv
      have v1 : e.2.1 = y.2.2.1 := by simpa using v1
      have v2 : e.2.2 = y.2.2.2 := by simpa [peqS] using v2
      exact Prod.ext (by rw [hk, y1]) (Prod.ext v1 v2)
     have hset : L.set y.1.toNat y.2 = L := by
      rw [← hee, he, List.getD_eq_getElem?_getD, List.getElem?_eq_getElem hyL]
      exact List.set_getElem_self hyL
     rw [hset, Bool.not_true, Bool.or_false]
     refine ih r more L (by omega) I hu (fun z hz => hN z (s3 z hz)) fun more' L' hG hA => hC more' L' hG fun z hz => ?_
     rcases s4 z hz with rfl | hz
     ·exact ⟨by omega, by rw [hG.keep _ (by rw [← he]; exact hk), ← he, hee]⟩
     ·exact hA z hz
    | false =>
     rw [Bool.not_false, Bool.or_true]
     have hU := unk_set (n := f.2.2.2.length) (e := y.2) hy hyL (by rw [← he]; exact hk) y1
     have hG1 : Good p f own more L true (L.set y.1.toNat y.2) := by
      refine ⟨⟨by rw [List.length_set]; exact I.len, fun j hj hkn => ?_⟩, fun j hj => ?_, .inl ⟨rfl, by omega⟩⟩
      ·rw [getD_set _ _ _ _ _ hyL] at hkn ⊢
       split
       ·rename_i hjy
        rw [hjy, Int.toNat_of_nonneg y0]
        have n2 : 0 ≤ y.2.2.1 := n2
        have n3 : y.2.2.1 + 2 * (u : Int) ≤ 2 * f.2.2.2.length + 2 := n3
        exact ⟨n1, n2, by omega, by omega⟩
       ·rename_i hjy
        rw [if_neg hjy] at hkn
        obtain ⟨k1, k2, k3, k4⟩ := I.known j hj hkn
        exact ⟨k1, k2, by omega, by omega⟩
      ·rw [getD_set _ _ _ _ _ hyL]
       split
       ·rename_i hjy
        rw [hjy, ← he, hk] at hj; cases hj
       ·rfl
     refine ih r true _ (by omega) hG1.toIr (by omega) (fun z hz => hN z (s3 z hz)) fun more' L' hG hA => hC more' L' (hG1.trans hG) fun z hz => ?_
     rcases s4 z hz with rfl | hz
     ·refine ⟨by omega, ?_⟩
      have e1 : (L.set z.1.toNat z.2).getD z.1.toNat default = z.2 := by rw [getD_set _ _ _ _ _ hyL, if_pos rfl]
      rw [hG.keep _ (by rw [e1]; exact y1), e1]
     ·exact hA z hz
   have h241 : fnrV11 L y = false → fnrj241 more L y r (fnrl215 K f x C k) := fun hv => ⟨y0, hyL, hnew hv⟩
   have h234 : fnrj234 K more L y r (fnrl215 K f x C k) := ⟨hcase, fun hv => ⟨fun _ => h241 hv, fun _ => ⟨y0, hyL, h241 hv⟩⟩⟩
   refine ⟨y0, hyL, fun hk => ⟨fun _ => h234, fun _ => ⟨⟨?_, n4'⟩, h234⟩⟩, fun _ => h234⟩
   have := (I.known _ hy hk).2.2.2
   omega
theorem flat_pos (l : List (Int × Int)) : decide (((flat l).length : Int) > 0) = decide ((l.length : Int) > 0) := by
 rw [flat_len]
 by_cases h : (l.length : Int) > 0
 ·rw [decide_eq_true h, decide_eq_true (by omega)]
 ·rw [decide_eq_false h, decide_eq_false (by omega)]
theorem flat_zero (l : List (Int × Int)) : (((flat l).length : Int) == 0) = ((l.length : Int) == 0) := by
 rw [flat_len, Bool.eq_iff_iff, beq_iff_eq, beq_iff_eq]; omega
theorem flat_tk (x : Int × Int) (l : List (Int × Int)) : (flat (x :: l)).take ((flat (x :: l)).length - 2) = flat l := by
 show (flat l ++ [x.1, x.2]).take ((flat l ++ [x.1, x.2]).length - 2) = _
 rw [List.length_append]
 exact List.take_left
theorem nx_pos {p : JP} {f : JF} {own : Int} (hC : CodeOk p f) {a : Int} {s : ST} {l : List (Int × ST)} (hl : nx p f own a s = some l) : ∀ x ∈ l, 0 ≤ x.1 := by
 intro x hx
 unfold nx at hl
 split at hl
 ·cases hl
 ·rename_i hr
  simp only [not_and, Nat.not_lt] at hr
  have hr : 0 ≤ a ∧ Int.toNat a < f.2.2.2.length := by omega
  have hA := (insC_ok (hC.at hr.2)).arg
  dsimp only at hl hA
  generalize f.2.2.2.getD (Int.toNat a) default = i at hl hA
  split at hl
  ·cases hl
  ·have one : ∀ {y : Int × ST}, 0 ≤ y.1 → x ∈ [y] → 0 ≤ x.1 := fun h k => by rw [List.mem_singleton.1 k]; exact h
   have two : ∀ {y z : Int × ST}, 0 ≤ y.1 → 0 ≤ z.1 → x ∈ [y, z] → 0 ≤ x.1 := fun h1 h2 k => by
    rcases List.mem_cons.1 k with k | k
    ·rw [k]; exact h1
    ·exact one h2 k
   have h1 : 0 ≤ a + 1 := by omega
   repeat' split at hl
   all_goals first | cases hl | skip
   all_goals first
    | (cases hx; done)
    | exact one hA hx
    | exact one h1 hx
    | exact two hA h1 hx
/-- all that follows at a place that is known is known -/
def Closed (p : JP) (f : JF) (own : Int) (L : List AT) (k : Nat) : Prop := ∃ l, nx p f own (k : Int) (stA (L.getD k default)) = some l ∧ ∀ x ∈ l, 0 ≤ x.1 ∧ x.1 < f.2.2.2.length ∧ (L.getD x.1.toNat default).1 = true ∧ stA (L.getD x.1.toNat default) = x.2
section
variable {p : JP} {f : JF} {own : Int} {K : Bool → Prop} {a : Nat} {C : Bool → Int → List AT → Prop} {L : List AT} {more : Bool}
theorem j137 (hn : f.2.2.2.length ≤ 8000) (hK : ¬RightF p f own → K false) (hC : CodeOk p f) (ha : a < f.2.2.2.length) (I : Ir p f own L) (hk : (L.getD a default).1 = true)
  (hA : ∀ more' L', Good p f own more L more' L' → Closed p f own L' a → C more' (w6 ((a : Int) + 1)) L')
  {l : List (Int × ST)} (hl : nx p f own (a : Int) (stA (L.getD a default)) = some l) (tl : List (Int × AT)) (h1 : ∀ y ∈ tl, y.2.1 = true ∧ (y.1, stA y.2) ∈ l) (h2 : ∀ x ∈ l, ∃ y ∈ tl, (y.1, stA y.2) = x) : fnrj137 K f more (a : Int) L tl C := by
 obtain ⟨k1, k2, k3, k4⟩ := I.known a ha hk
 have hN := nxt_ok (u := unk f.2.2.2.length L) hC k1 k2 k3 (by show (flat _).length + _ ≤ _; rw [flat_len]; omega) (by show (flat _).length % 2 = 0; rw [flat_len]; omega) hl
 have hP := nx_pos hC hl
 refine ⟨tl.length + 1, rng hn hK _ tl more L (by omega) I (Nat.le_refl _) (fun y hy => ?_) fun more' L' hG hall => hA more' L' hG ⟨l, by rw [hG.keep a hk]; exact hl, fun x hx => ?_⟩⟩
 ·obtain ⟨g1, g2⟩ := h1 y hy
  exact ⟨hP _ g2, g1, hN _ g2⟩
 ·obtain ⟨y, hy, rfl⟩ := h2 x hx
  obtain ⟨g1, g2⟩ := hall y hy
  exact ⟨hP _ hx, g1, by show (L'.getD y.1.toNat default).1 = true; rw [g2]; exact (h1 y hy).1, by show stA (L'.getD y.1.toNat default) = _; rw [g2]⟩
theorem to1 {b : Int} {v : AT} {s : ST} (hv : v.1 = true) (hs : stA v = s) : (∀ y ∈ putK b v ([] : List (Int × AT)), y.2.1 = true ∧ (y.1, stA y.2) ∈ [(b, s)]) ∧ ∀ x ∈ [(b, s)], ∃ y ∈ putK b v ([] : List (Int × AT)), (y.1, stA y.2) = x := by
 subst hs
 refine ⟨fun y hy => ?_, fun x hx => ⟨(b, v), List.mem_singleton.2 rfl, (List.mem_singleton.1 hx).symm⟩⟩
 have : y = (b, v) := List.mem_singleton.1 hy
 subst this
 exact ⟨hv, List.mem_singleton.2 rfl⟩
theorem to2 {b c : Int} {v w : AT} {s t : ST} (hv : v.1 = true) (hw : w.1 = true) (hs : stA v = s) (ht : stA w = t) (hbc : c = b → v = w) : (∀ y ∈ putK c w (putK b v ([] : List (Int × AT))), y.2.1 = true ∧ (y.1, stA y.2) ∈ [(b, s), (c, t)]) ∧ ∀ x ∈ [(b, s), (c, t)], ∃ y ∈ putK c w (putK b v ([] : List (Int × AT))), (y.1, stA y.2) = x := by
 subst hs; subst ht
 simp only [putK]
 by_cases h : c = b
 ·have := hbc h
  subst this; subst h
  rw [if_pos (beq_self_eq_true c)]
  refine ⟨fun y hy => ?_, fun x hx => ⟨(c, v), List.mem_singleton.2 rfl, ?_⟩⟩
  ·have : y = (c, v) := List.mem_singleton.1 hy
   subst this
   exact ⟨hv, List.mem_cons_self ..⟩
  ·rcases List.mem_cons.1 hx with h | h
   ·exact h.symm
   ·exact (List.mem_singleton.1 h).symm
 ·rw [if_neg (by simpa using h)]
  refine ⟨fun y hy => ?_, fun x hx => ?_⟩
  ·rcases List.mem_cons.1 hy with hy | hy
   ·subst hy; exact ⟨hv, List.mem_cons_self ..⟩
   ·have := List.mem_singleton.1 hy
    subst this; exact ⟨hw, List.mem_cons_of_mem _ (List.mem_singleton.2 rfl)⟩
  ·rcases List.mem_cons.1 hx with hx | hx
   ·exact ⟨(b, v), List.mem_cons_self .., hx.symm⟩
   ·exact ⟨(c, w), List.mem_cons_of_mem _ (List.mem_singleton.2 rfl), (List.mem_singleton.1 hx).symm⟩
theorem sweep1 (hn : f.2.2.2.length ≤ 8000) (hK : ¬RightF p f own → K false) (hC : CodeOk p f) (ha : a < f.2.2.2.length) (I : Ir p f own L) {C91 : Bool → List AT → Prop}
  (h0 : (L.getD a default).1 = false → C more (w6 ((a : Int) + 1)) L)
  (hA : (L.getD a default).1 = true → ∀ more' L', Good p f own more L more' L' → Closed p f own L' a → C more' (w6 ((a : Int) + 1)) L') : fnrl104b p own K f C91 more (a : Int) L C := by
 refine ⟨fun _ => ?_, fun h => by have := of_decide_eq_false h; omega⟩
 rw [Int.toNat_natCast]
 refine ⟨by omega, ha, by omega, by rw [I.len]; omega, fun h => h0 (by simpa using h), fun h => ?_⟩
 have hk : (L.getD a default).1 = true := by simpa using h
 have hA := hA hk
 obtain ⟨k1, k2, k3, k4⟩ := I.known a ha hk
 have hI := insC_ok (hC.at (a := (a : Int)) (by rw [Int.toNat_natCast]; exact ha))
 have hM := mov_pos hI hC.2
 have J := fun (l : List (Int × ST)) (hl : nx p f own (a : Int) (stA (L.getD a default)) = some l) (tl : List (Int × AT)) (hto : (∀ y ∈ tl, y.2.1 = true ∧ (y.1, stA y.2) ∈ l) ∧ ∀ x ∈ l, ∃ y ∈ tl, (y.1, stA y.2) = x) => j137 (more := more) (C := C) hn hK hC ha I hk hA hl tl hto.1 hto.2
 have hnone : nx p f own (a : Int) (stA (L.getD a default)) = none → K false := fun h => hK fun hR => hR.1 _ _ k1 h
 have htwo : ∀ (b : Int) (s t : ST) (l : List (Int × ST)), nx p f own (a : Int) (stA (L.getD a default)) = some l → (b, s) ∈ l → (b, t) ∈ l → s ≠ t → K false := fun b s t l hl h1 h2 hst => hK fun hR => hst (hR.2 b s t (k1.step hl h1) (k1.step hl h2))
 have hNx : ∃ r, nx p f own (a : Int) (stA (L.getD a default)) = r := ⟨_, rfl⟩
 obtain ⟨r, hr⟩ := hNx
 have hr0 := hr
 unfold nx at hr
 rw [if_neg (by simp only [Int.natCast_nonneg, Int.toNat_natCast, ha, and_self, not_true_eq_false, not_false_eq_true])] at hr
 rw [Int.toNat_natCast] at hr hI
 have hM : 0 ≤ (movS (f.2.2.2.getD a default) p).1 ∧ 0 ≤ (movS (f.2.2.2.getD a default) p).2 ∧ (movS (f.2.2.2.getD a default) p).2 ≤ (movS (f.2.2.2.getD a default) p).1 + 1 := by
  rw [Int.toNat_natCast] at hM; exact hM
 obtain ⟨e, he⟩ : ∃ e, e = L.getD a default := ⟨_, rfl⟩
 rw [← he] at k2 k3 k4 hr hr0 J hnone htwo hk ⊢
 generalize f.2.2.2.getD a default = i at hr hI hM ⊢
 dsimp only at hr
 have hsh : movP i p := fun h => ⟨hI.arg, hI.shape (by simpa using h)⟩
 have hH : (stA e).1 = e.2.1 := rfl
 rw [hH] at hr
 have ha1 : w6 ((a : Int) + 1) = (a : Int) + 1 := w64 (by omega)
 refine ⟨hsh, fun hlt => ?_, fun hlt => ?_⟩
 ·have hlt := of_decide_eq_true hlt
  rw [if_pos hlt] at hr
  exact hnone (by rw [hr0, hr])
 ·have hlt := of_decide_eq_false hlt
  rw [if_neg hlt] at hr
  have hT : w6 ((w6 (e.2.1 - (movS i p).1)) + (movS i p).2) = e.2.1 - (movS i p).1 + (movS i p).2 := by
   rw [w64 (x := e.2.1 - (movS i p).1) (by omega), w64 (by omega)]
  have hT1 : w6 (e.2.1 + 1) = e.2.1 + 1 := w64 (by omega)
  refine ⟨fun c9 => ?_, fun c9 => ⟨fun c10 => ?_, fun c10 => ⟨fun c24 => ?_, fun c24 => ?_⟩⟩⟩
  ·rw [if_pos c9] at hr
   rw [hT]
   exact J _ (by rw [hr0, ← hr]; rfl) _ (to1 rfl rfl)
  ·rw [c9, if_neg (by decide), if_pos c10] at hr
   rw [hT, ha1]
   exact J _ (by rw [hr0, ← hr]; rfl) _ (to2 rfl rfl rfl rfl fun _ => rfl)
  ·rw [c9, if_neg (by decide), c10, if_neg (by decide), if_pos c24] at hr
   rw [hT, ha1]
   have hm2 : (movS i p).1 = 2 ∧ (movS i p).2 = 3 := by
    obtain ⟨d, A⟩ := i
    have hd : d = 24 := by simpa using c24
    subst hd; exact ⟨rfl, rfl⟩
   refine ⟨fun hb => ?_, fun hb => J _ (by rw [hr0, ← hr]; rfl) _ (to2 hk rfl rfl rfl fun h => ?_)⟩
   ·have hb : i.2 = (a : Int) + 1 := by simpa using hb
    refine htwo i.2 (stA e) (e.2.1 - (movS i p).1 + (movS i p).2, (stA e).2) _ (by rw [hr0, ← hr]) (List.mem_cons_self ..) (by rw [hb]; exact List.mem_cons_of_mem _ (List.mem_singleton.2 rfl)) fun h => ?_
    have := congrArg Prod.fst h
    rw [hH] at this
    dsimp only at this
    omega
   ·rw [h] at hb
    simp at hb
  ·rw [c9, if_neg (by decide), c10, if_neg (by decide), c24, if_neg (by decide)] at hr
   have h163 : fnrj163 p own K f more (a : Int) L i e C := by
    rw [show (stA e).2 = flat e.2.2 from rfl, flat_pos, flat_zero] at hr
    have h170 : ((i.1 == 18) || (i.1 == 25)) = true → fnrj170 own K f more (a : Int) L i e C := fun c18 => by
     rw [if_pos c18] at hr
     refine ⟨fun hv => hnone ?_, fun hv => ?_⟩
     ·rw [hr0, ← hr]; exact if_pos hv
     ·have hv : ((decide ((e.2.2.length : Int) > 0)) || (!((i.1 == 25) == (own == 0)))) = false := hv
      rw [hv] at hr
      exact J [] (by rw [hr0, ← hr]; rfl) [] ⟨fun _ h => (by cases h), fun _ h => (by cases h)⟩
    unfold fnrj163
    rw [hT, ha1, hT1]
    refine ⟨fun c18 => ⟨fun _ => h170 c18, fun _ => h170 c18⟩, fun c18 => ⟨fun c19 => ?_, fun c19 => ⟨fun c20 => ?_, fun c20 => ⟨fun c21 => ?_, fun c21 => ?_⟩⟩⟩⟩
    ·rw [c18, if_neg (by decide), if_pos c19] at hr
     exact J [] (by rw [hr0, ← hr]) [] ⟨fun _ h => (by cases h), fun _ h => (by cases h)⟩
    ·rw [c18, if_neg (by decide), c19, if_neg (by decide), if_pos c20] at hr
     refine ⟨fun hb => ?_, fun hb => ⟨?_, J _ (by rw [hr0, ← hr]; rfl) _ (to2 rfl rfl rfl rfl fun h => ?_)⟩⟩
     ·have hb : i.2 = (a : Int) + 1 := by simpa using hb
      refine htwo i.2 (e.2.1 + 1, flat e.2.2) (e.2.1 - (movS i p).1 + (movS i p).2, flat e.2.2 ++ [i.2, e.2.1]) _ (by rw [hr0, ← hr]) (List.mem_cons_self ..) (by rw [hb]; exact List.mem_cons_of_mem _ (List.mem_singleton.2 rfl)) fun h => ?_
      have := congrArg (fun z : ST => z.2.length) h
      dsimp only at this
      rw [List.length_append] at this
      simp only [List.length_cons, List.length_nil] at this
      omega
     ·rw [List.length_append]; simp only [List.length_cons, List.length_nil]; omega
     ·rw [h] at hb
      simp at hb
    ·rw [c18, if_neg (by decide), c19, if_neg (by decide), c20, if_neg (by decide), if_pos c21] at hr
     refine ⟨fun hz => hnone (by rw [hr0, ← hr]; exact if_pos hz), fun hz => ?_⟩
     rw [hz, if_neg (by decide)] at hr
     have hz : ¬ (e.2.2.length : Int) = 0 := by simpa using hz
     refine ⟨by omega, by omega, by omega, J _ (by rw [hr0, ← hr]) _ (to1 rfl ?_)⟩
     obtain ⟨eb, eh, prs⟩ := e
     cases prs with
     | nil => exact absurd rfl hz
     | cons x l => show (_, flat l) = _; rw [flat_tk]
    ·rw [c18, if_neg (by decide), c19, if_neg (by decide), c20, if_neg (by decide), c21, if_neg (by decide)] at hr
     exact J _ (by rw [hr0, ← hr]; rfl) _ (to1 rfl rfl)
   exact ⟨fun _ => h163, fun _ => h163⟩
end
end
end Go.Proofs.YtanhbfhpnjjgcaaDoor.Cc
