/- A stable sort by merges: the plain law of slices.SortStableFunc. No program in it. -/
namespace Go.Stb
section
variable {α : Type}
/-- a total preorder, told by its strict part -/
structure Wk (lt : α → α → Bool) : Prop where
  asym : ∀ {a b}, lt a b = true → lt b a = false
  neg : ∀ {a b c}, lt a b = false → lt b c = false → lt a c = false
theorem Wk.trans {lt : α → α → Bool} (h : Wk lt) {a b c : α} (h1 : lt a b = true) (h2 : lt b c = true) : lt a c = true := by
  cases hc : lt a c with
  | true => rfl
  | false => have := h.neg (h.asym h2 |> fun h3 => hc) (h.asym h2); rw [h1] at this; cases this
theorem Wk.mix {lt : α → α → Bool} (h : Wk lt) {x y z : α} (h1 : lt z x = true) (h2 : lt y x = false) : lt z y = true := by
  cases hc : lt z y with
  | true => rfl
  | false => have := h.neg hc h2; rw [h1] at this; cases this
theorem Wk.mix2 {lt : α → α → Bool} (h : Wk lt) {x y z : α} (h1 : lt z y = false) (h2 : lt z x = true) : lt y x = true := by
  cases hc : lt y x with
  | true => rfl
  | false => have := h.neg h1 hc; rw [h2] at this; cases this
def mrg (lt : α → α → Bool) : List α → List α → List α
  | [], b => b
  | x :: a, [] => x :: a
  | x :: a, y :: b => if lt y x = true then y :: mrg lt (x :: a) b else x :: mrg lt a (y :: b)
termination_by a b => a.length + b.length
variable {lt : α → α → Bool}
theorem mrg_nil (a : List α) : mrg lt a [] = a := by cases a <;> simp [mrg]
theorem nil_mrg (b : List α) : mrg lt [] b = b := by simp [mrg]
theorem mrg_t {x y : α} {a b : List α} (h : lt y x = true) : mrg lt (x :: a) (y :: b) = y :: mrg lt (x :: a) b := by rw [mrg, if_pos h]
theorem mrg_f {x y : α} {a b : List α} (h : lt y x = false) : mrg lt (x :: a) (y :: b) = x :: mrg lt a (y :: b) := by rw [mrg, if_neg (by rw [h]; simp)]
theorem mrg_perm : ∀ (n : Nat) (a b : List α), a.length + b.length ≤ n → (mrg lt a b).Perm (a ++ b)
  | _, [], b, _ => by rw [nil_mrg]; exact List.Perm.refl _
  | _, x :: a, [], _ => by rw [mrg_nil, List.append_nil]
  | 0, x :: a, y :: b, h => by simp at h
  | n + 1, x :: a, y :: b, h => by
    simp only [List.length_cons] at h
    cases hc : lt y x with
    | true =>
      rw [mrg_t hc]
      exact ((mrg_perm n (x :: a) b (by simp only [List.length_cons]; omega)).cons y).trans (List.perm_middle.symm)
    | false =>
      rw [mrg_f hc]
      exact (mrg_perm n a (y :: b) (by simp only [List.length_cons]; omega)).cons x
theorem mrg_length (a b : List α) : (mrg lt a b).length = a.length + b.length := by
  rw [(mrg_perm _ a b (Nat.le_refl _)).length_eq, List.length_append]
theorem mrg_mem {a b : List α} {x : α} : x ∈ mrg lt a b ↔ x ∈ a ∨ x ∈ b := by
  rw [(mrg_perm _ a b (Nat.le_refl _)).mem_iff, List.mem_append]
/-- merged in two parts -/
theorem mrg_split : ∀ (n : Nat) (a1 a2 b1 b2 : List α), a1.length + b1.length ≤ n → (∀ a ∈ a2, ∀ b ∈ b1, lt b a = true) → (∀ a ∈ a1, ∀ b ∈ b2, lt b a = false) →
    mrg lt (a1 ++ a2) (b1 ++ b2) = mrg lt a1 b1 ++ mrg lt a2 b2
  | _, [], a2, [], b2, _, _, _ => by rw [nil_mrg]; rfl
  | 0, _ :: _, _, _, _, h, _, _ => by simp at h
  | 0, [], _, _ :: _, _, h, _, _ => by simp at h
  | n + 1, [], a2, y :: b1, b2, h, h1, h2 => by
    have ih := mrg_split n [] a2 b1 b2 (by simp only [List.length_cons] at h ⊢; omega) (fun a ha b hb => h1 a ha b (List.mem_cons_of_mem _ hb)) h2
    rw [nil_mrg] at ih ⊢
    rw [List.nil_append] at ih ⊢
    rw [List.cons_append, List.cons_append]
    cases a2 with
    | nil => rw [nil_mrg, nil_mrg]
    | cons x a2 => rw [mrg_t (h1 x (List.mem_cons_self ..) y (List.mem_cons_self ..)), ih]
  | n + 1, x :: a1, a2, [], b2, h, h1, h2 => by
    have ih := mrg_split n a1 a2 [] b2 (by simp only [List.length_cons] at h ⊢; omega) h1 (fun a ha b hb => h2 a (List.mem_cons_of_mem _ ha) b hb)
    rw [mrg_nil] at ih ⊢
    rw [List.nil_append] at ih ⊢
    rw [List.cons_append, List.cons_append]
    cases b2 with
    | nil => rw [mrg_nil, mrg_nil]
    | cons y b2 => rw [mrg_f (h2 x (List.mem_cons_self ..) y (List.mem_cons_self ..)), ih]
  | n + 1, x :: a1, a2, y :: b1, b2, h, h1, h2 => by
    rw [List.cons_append, List.cons_append]
    cases hc : lt y x with
    | true =>
      rw [mrg_t hc, mrg_t hc, ← List.cons_append, mrg_split n (x :: a1) a2 b1 b2 (by simp only [List.length_cons] at h ⊢; omega) (fun a ha b hb => h1 a ha b (List.mem_cons_of_mem _ hb)) h2]; rfl
    | false =>
      rw [mrg_f hc, mrg_f hc, ← List.cons_append, mrg_split n a1 a2 (y :: b1) b2 (by simp only [List.length_cons] at h ⊢; omega) h1 (fun a ha b hb => h2 a (List.mem_cons_of_mem _ ha) b hb)]; rfl
theorem mrg_assoc (hw : Wk lt) : ∀ (n : Nat) (a b c : List α), a.length + b.length + c.length ≤ n → mrg lt (mrg lt a b) c = mrg lt a (mrg lt b c)
  | _, [], b, c, _ => by rw [nil_mrg, nil_mrg]
  | _, x :: a, [], c, _ => by rw [mrg_nil, nil_mrg]
  | _, x :: a, y :: b, [], _ => by rw [mrg_nil, mrg_nil]
  | 0, x :: a, y :: b, z :: c, h => by simp at h
  | n + 1, x :: a, y :: b, z :: c, h => by
    simp only [List.length_cons] at h
    cases hyx : lt y x with
    | true =>
      cases hzy : lt z y with
      | true =>
        rw [mrg_t hyx, mrg_t hzy, mrg_t hzy, mrg_t (hw.trans hzy hyx), ← mrg_t hyx, mrg_assoc hw n (x :: a) (y :: b) c (by simp only [List.length_cons]; omega)]
      | false =>
        rw [mrg_t hyx, mrg_f hzy, mrg_f hzy, mrg_t hyx, mrg_assoc hw n (x :: a) b (z :: c) (by simp only [List.length_cons]; omega)]
    | false =>
      cases hzx : lt z x with
      | true =>
        rw [mrg_f hyx, mrg_t hzx, mrg_t (hw.mix hzx hyx), mrg_t hzx, ← mrg_f hyx, mrg_assoc hw n (x :: a) (y :: b) c (by simp only [List.length_cons]; omega)]
      | false =>
        rw [mrg_f hyx, mrg_f hzx, mrg_assoc hw n a (y :: b) (z :: c) (by simp only [List.length_cons]; omega)]
        cases hzy : lt z y with
        | true => rw [mrg_t hzy, mrg_f hzx]
        | false => rw [mrg_f hzy, mrg_f hyx]
/-- in order -/
def Srt (lt : α → α → Bool) (l : List α) : Prop := l.Pairwise fun x y => lt y x = false
theorem mrg_srt (hw : Wk lt) : ∀ (n : Nat) (a b : List α), a.length + b.length ≤ n → Srt lt a → Srt lt b → Srt lt (mrg lt a b)
  | _, [], b, _, _, h => by rw [nil_mrg]; exact h
  | _, x :: a, [], _, h, _ => by rw [mrg_nil]; exact h
  | 0, x :: a, y :: b, h, _, _ => by simp at h
  | n + 1, x :: a, y :: b, h, ha, hb => by
    simp only [List.length_cons] at h
    have ha' := List.pairwise_cons.1 ha
    have hb' := List.pairwise_cons.1 hb
    cases hc : lt y x with
    | true =>
      rw [mrg_t hc]
      refine List.pairwise_cons.2 ⟨fun z hz => ?_, mrg_srt hw n (x :: a) b (by simp only [List.length_cons]; omega) ha hb'.2⟩
      rcases mrg_mem.1 hz with hz | hz
      · rcases List.mem_cons.1 hz with rfl | hz
        · exact hw.asym hc
        · exact hw.neg (ha'.1 z hz) (hw.asym hc)
      · exact hb'.1 z hz
    | false =>
      rw [mrg_f hc]
      refine List.pairwise_cons.2 ⟨fun z hz => ?_, mrg_srt hw n a (y :: b) (by simp only [List.length_cons]; omega) ha'.2 hb⟩
      rcases mrg_mem.1 hz with hz | hz
      · exact ha'.1 z hz
      · rcases List.mem_cons.1 hz with rfl | hz
        · exact hc
        · exact hw.neg (hb'.1 z hz) hc
/-- one behind the other, each merged in -/
def ins (lt : α → α → Bool) (l : List α) : List α := l.foldl (fun acc x => mrg lt acc [x]) []
theorem fold_mrg (hw : Wk lt) (a : List α) : ∀ (l acc : List α), l.foldl (fun acc x => mrg lt acc [x]) (mrg lt a acc) = mrg lt a (l.foldl (fun acc x => mrg lt acc [x]) acc)
  | [], _ => rfl
  | x :: l, acc => by
    rw [List.foldl_cons, List.foldl_cons, mrg_assoc hw _ a acc [x] (Nat.le_refl _)]
    exact fold_mrg hw a l _
theorem ins_append (hw : Wk lt) (a b : List α) : ins lt (a ++ b) = mrg lt (ins lt a) (ins lt b) := by
  unfold ins
  rw [List.foldl_append]
  have := fold_mrg hw (ins lt a) b []
  rw [mrg_nil] at this
  exact this
theorem ins_one (x : α) : ins lt [x] = [x] := by unfold ins; rw [List.foldl_cons, nil_mrg]; rfl
theorem ins_srt (hw : Wk lt) : ∀ l : List α, Srt lt (ins lt l) := by
  have : ∀ (l acc : List α), Srt lt acc → Srt lt (l.foldl (fun acc x => mrg lt acc [x]) acc) := by
    intro l
    induction l with
    | nil => intro acc h; exact h
    | cons x l ih => intro acc h; exact ih _ (mrg_srt hw _ _ _ (Nat.le_refl _) h (List.pairwise_singleton _ _))
  exact fun l => this l [] List.Pairwise.nil
theorem ins_perm : ∀ l : List α, (ins lt l).Perm l := by
  have : ∀ (l acc : List α), (l.foldl (fun acc x => mrg lt acc [x]) acc).Perm (acc ++ l) := by
    intro l
    induction l with
    | nil => intro acc; rw [List.append_nil]; exact List.Perm.refl _
    | cons x l ih =>
      intro acc
      refine (ih _).trans ?_
      rw [show acc ++ x :: l = (acc ++ [x]) ++ l by simp]
      exact (mrg_perm _ _ _ (Nat.le_refl _)).append_right _
  exact fun l => this l []
/-- one element, merged behind those that are not above it -/
theorem mrg_one (a1 a2 : List α) (x : α) (h1 : ∀ a ∈ a1, lt x a = false) (h2 : ∀ a ∈ a2, lt x a = true) : mrg lt (a1 ++ a2) [x] = a1 ++ x :: a2 := by
  have := mrg_split (lt := lt) _ a1 a2 [] [x] (Nat.le_refl _) (fun a _ b hb => (List.not_mem_nil hb).elim) (fun a ha b hb => by rw [List.mem_singleton] at hb; subst hb; exact h1 a ha)
  rw [List.nil_append, mrg_nil] at this
  rw [this]
  congr 1
  cases a2 with
  | nil => rw [nil_mrg]
  | cons y a2 => rw [mrg_t (h2 y (List.mem_cons_self ..)), mrg_nil]
theorem one_mrg (b1 b2 : List α) (x : α) (h1 : ∀ b ∈ b1, lt b x = true) (h2 : ∀ b ∈ b2, lt b x = false) : mrg lt [x] (b1 ++ b2) = b1 ++ x :: b2 := by
  have := mrg_split (lt := lt) _ [] [x] b1 b2 (Nat.le_refl _) (fun a ha b hb => by rw [List.mem_singleton] at ha; subst ha; exact h1 b hb) (fun a ha => (List.not_mem_nil ha).elim)
  rw [List.nil_append, nil_mrg] at this
  rw [this]
  congr 1
  cases b2 with
  | nil => rw [mrg_nil]
  | cons y b2 => rw [mrg_f (h2 y (List.mem_cons_self ..)), nil_mrg]
/-- two sorted rows cut where the binary search of symMerge cuts them -/
theorem cut_ok (hw : Wk lt) {a1 a2 b1 b2 : List α} (ha : Srt lt (a1 ++ a2)) (hb : Srt lt (b1 ++ b2))
    (h1 : a2 = [] ∨ b1 = [] ∨ ∃ x a y b, a2 = x :: a ∧ b1 = b ++ [y] ∧ lt y x = true)
    (h2 : a1 = [] ∨ b2 = [] ∨ ∃ x a y b, a1 = a ++ [x] ∧ b2 = y :: b ∧ lt y x = false) : mrg lt (a1 ++ a2) (b1 ++ b2) = mrg lt a1 b1 ++ mrg lt a2 b2 := by
  unfold Srt at ha hb
  rw [List.pairwise_append] at ha hb
  refine mrg_split _ a1 a2 b1 b2 (Nat.le_refl _) (fun u hu v hv => ?_) (fun u hu v hv => ?_)
  · rcases h1 with rfl | rfl | ⟨x, a, y, b, rfl, rfl, h⟩
    · cases hu
    · cases hv
    · have e1 : lt u x = false := by
        rcases List.mem_cons.1 hu with rfl | hu
        · cases hc : lt u u with
          | false => rfl
          | true => exact absurd (hw.asym hc) (by rw [hc]; simp)
        · exact (List.pairwise_cons.1 ha.2.1).1 u hu
      have e2 : lt y v = false := by
        rcases List.mem_append.1 hv with hv | hv
        · exact (List.pairwise_append.1 hb.1).2.2 v hv y (List.mem_singleton.2 rfl)
        · rw [List.mem_singleton] at hv; subst hv
          cases hc : lt v v with
          | false => rfl
          | true => exact absurd (hw.asym hc) (by rw [hc]; simp)
      have e3 : lt y u = true := hw.mix h e1
      exact hw.mix2 e2 e3
  · rcases h2 with rfl | rfl | ⟨x, a, y, b, rfl, rfl, h⟩
    · cases hu
    · cases hv
    · have e1 : lt x u = false := by
        rcases List.mem_append.1 hu with hu | hu
        · exact (List.pairwise_append.1 ha.1).2.2 u hu x (List.mem_singleton.2 rfl)
        · rw [List.mem_singleton] at hu; subst hu
          cases hc : lt u u with
          | false => rfl
          | true => exact absurd (hw.asym hc) (by rw [hc]; simp)
      have e2 : lt v y = false := by
        rcases List.mem_cons.1 hv with rfl | hv
        · cases hc : lt v v with
          | false => rfl
          | true => exact absurd (hw.asym hc) (by rw [hc]; simp)
        · exact (List.pairwise_cons.1 hb.2.1).1 v hv
      exact hw.neg (hw.neg e2 h) e1
/-! ### two places change -/
def sw (d : α) (l : List α) (i j : Nat) : List α := (l.set i (l.getD j d)).set j (l.getD i d)
theorem getD_at (d : α) (x y : List α) (u : α) : (x ++ u :: y).getD x.length d = u := by
  rw [List.getD_eq_getElem?_getD, List.getElem?_append_right (Nat.le_refl _), Nat.sub_self]; rfl
theorem set_at (x y : List α) (u v : α) : (x ++ u :: y).set x.length v = x ++ v :: y := by
  rw [List.set_append_right _ _ (Nat.le_refl _), Nat.sub_self]; rfl
theorem sw_at (d : α) (x y z : List α) (u v : α) {i j : Nat} (hi : i = x.length) (hj : j = x.length + 1 + y.length) : sw d (x ++ u :: y ++ v :: z) i j = x ++ v :: y ++ u :: z := by
  subst hi
  have e : j = (x ++ u :: y).length := by rw [List.length_append, List.length_cons]; omega
  unfold sw
  rw [e, getD_at d (x ++ u :: y) z v, show x ++ u :: y ++ v :: z = x ++ u :: (y ++ v :: z) by simp, getD_at, set_at, show x ++ v :: (y ++ v :: z) = (x ++ v :: y) ++ v :: z by simp,
    show (x ++ u :: y).length = (x ++ v :: y).length by simp, set_at]
def swN (d : α) (l : List α) (a b : Nat) : Nat → List α
  | 0 => l
  | n + 1 => sw d (swN d l a b n) (a + n) (b + n)
theorem snoc_of {l : List α} {n : Nat} (h : l.length = n + 1) : ∃ a x, l = a ++ [x] ∧ a.length = n := by
  have hne : l ≠ [] := by intro hc; rw [hc] at h; simp at h
  exact ⟨l.dropLast, l.getLast hne, (List.dropLast_concat_getLast hne).symm, by rw [List.length_dropLast]; omega⟩
theorem swN_at (d : α) : ∀ (n : Nat) (x a y b z : List α), a.length = n → b.length = n → swN d (x ++ a ++ y ++ b ++ z) x.length (x.length + n + y.length) n = x ++ b ++ y ++ a ++ z
  | 0, x, a, y, b, z, ha, hb => by
    have ha := List.eq_nil_of_length_eq_zero ha
    have hb := List.eq_nil_of_length_eq_zero hb
    subst ha hb; rfl
  | n + 1, x, a, y, b, z, ha, hb => by
    obtain ⟨a, u, rfl, ha2⟩ := snoc_of ha
    obtain ⟨b, v, rfl, hb2⟩ := snoc_of hb
    have ih := swN_at d n x a (u :: y) b (v :: z) ha2 hb2
    rw [swN, show x ++ (a ++ [u]) ++ y ++ (b ++ [v]) ++ z = x ++ a ++ (u :: y) ++ b ++ (v :: z) by simp,
      show x.length + (n + 1) + y.length = x.length + n + (u :: y).length by rw [List.length_cons]; omega, ih,
      show x ++ b ++ (u :: y) ++ a ++ (v :: z) = (x ++ b) ++ u :: (y ++ a) ++ v :: z by simp, sw_at d (x ++ b) (y ++ a) z u v (by rw [List.length_append]; omega) (by simp only [List.length_append, List.length_cons]; omega)]
    simp
/-- the loop of rotateCmpFunc: i and j from the place m -/
def rotN (d : α) (l : List α) (m i j : Nat) : Nat → List α
  | 0 => l
  | k + 1 => if i = j then swN d l (m - i) m i else if j < i then rotN d (swN d l (m - i) m j) m (i - j) j k else rotN d (swN d l (m - i) (m + j - i) i) m i (j - i) k
theorem rotN_at (d : α) : ∀ (k : Nat) (x a b z : List α) (m : Nat), m = x.length + a.length → a.length + b.length ≤ k → 0 < a.length → 0 < b.length → rotN d (x ++ a ++ b ++ z) m a.length b.length k = x ++ b ++ a ++ z
  | 0, x, a, b, z, m, hm, hk, h1, h2 => by omega
  | k + 1, x, a, b, z, m, hm, hk, h1, h2 => by
    rw [rotN]
    by_cases e : a.length = b.length
    · rw [if_pos e]
      have := swN_at d a.length x a [] b z rfl e.symm
      rw [List.append_nil, List.append_nil, List.length_nil, Nat.add_zero, ← hm] at this
      rw [show m - a.length = x.length by omega]; exact this
    · rw [if_neg e]
      by_cases e2 : b.length < a.length
      · rw [if_pos e2]
        -- a = a1 ++ a2, as long as b is a1
        have ha : a = a.take b.length ++ a.drop b.length := (List.take_append_drop ..).symm
        have l1 : (a.take b.length).length = b.length := by rw [List.length_take]; omega
        have l2 : (a.drop b.length).length = a.length - b.length := List.length_drop ..
        generalize a.take b.length = a1 at ha l1
        generalize a.drop b.length = a2 at ha l2
        subst ha
        have := swN_at d b.length x a1 a2 b z l1 rfl
        rw [List.length_append] at hm hk h1 e2 l2 ⊢
        rw [show m - (a1.length + a2.length) = x.length by omega, show m = x.length + b.length + a2.length by omega, ← List.append_assoc, this]
        have ih := rotN_at d k (x ++ b) a2 a1 z (x.length + b.length + a2.length) (by rw [List.length_append]) (by omega) (by omega) (by omega)
        rw [show a1.length + a2.length - b.length = a2.length by omega]
        rw [l1] at ih
        rw [ih]; simp
      · rw [if_neg e2]
        -- b = b1 ++ b2, as long as a is b2
        have hb : b = b.take (b.length - a.length) ++ b.drop (b.length - a.length) := (List.take_append_drop ..).symm
        have l1 : (b.take (b.length - a.length)).length = b.length - a.length := by rw [List.length_take]; omega
        have l2 : (b.drop (b.length - a.length)).length = a.length := by rw [List.length_drop]; omega
        generalize b.take (b.length - a.length) = b1 at hb l1
        generalize b.drop (b.length - a.length) = b2 at hb l2
        subst hb
        have := swN_at d a.length x a b1 b2 z rfl l2
        rw [List.length_append] at hk h2 e2 e l1 ⊢
        rw [show m - a.length = x.length by omega, show m + (b1.length + b2.length) - a.length = x.length + a.length + b1.length by omega, show x ++ a ++ (b1 ++ b2) ++ z = x ++ a ++ b1 ++ b2 ++ z by simp, this]
        have ih := rotN_at d k x b2 b1 (a ++ z) m (by omega) (by omega) (by omega) (by omega)
        rw [l2] at ih
        rw [show b1.length + b2.length - a.length = b1.length by omega, show x ++ b2 ++ b1 ++ a ++ z = x ++ b2 ++ b1 ++ (a ++ z) by simp, ih]; simp
end
end Go.Stb
