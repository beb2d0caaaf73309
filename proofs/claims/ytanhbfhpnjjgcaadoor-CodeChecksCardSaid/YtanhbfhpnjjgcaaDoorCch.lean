/- Code: the checker's walk through a function sees all that can be reached, or a fault. -/
import Derived.Test.YtanhbfhpnjjgcaaDoorCcg
namespace Go.Proofs.YtanhbfhpnjjgcaaDoor.Cc
open Go Go.Eng Go.RowKit Fl
set_option linter.unusedVariables false
noncomputable section
/-- what is reached -/
inductive Rc (p : JP) (f : JF) (own : Int) : Int → ST → Prop
 | start : Rc p f own 0 (0, [])
 | step {a : Int} {s : ST} {l : List (Int × ST)} {x : Int × ST} : Rc p f own a s → nx p f own a s = some l → x ∈ l → Rc p f own x.1 x.2
/-- nothing that is reached is a fault, and nothing is reached in two states -/
def RightF (p : JP) (f : JF) (own : Int) : Prop := (∀ a s, Rc p f own a s → nx p f own a s ≠ none) ∧ ∀ a s t, Rc p f own a s → Rc p f own a t → s = t
theorem samS_iff (s t : ST) : samS s t = true ↔ s = t := by
 obtain ⟨a, l⟩ := s; obtain ⟨b, r⟩ := t
 unfold samS
 simp [ceqS]
/-- how many are not seen -/
def uns (n : Nat) (m : List (Int × ST)) : Nat := (List.range n).countP fun k : Nat => (assocK (k : Int) m).isNone
theorem countP_lt {α : Type} {p q : α → Bool} {a : α} : ∀ {l : List α}, (∀ x ∈ l, q x = true → p x = true) → a ∈ l → p a = true → q a = false → l.countP q < l.countP p
 | x :: l, h, ha, hp, hq => by
  rw [List.countP_cons, List.countP_cons]
  rcases List.mem_cons.1 ha with rfl | ha
  ·rw [hp, hq]
   have : l.countP q ≤ l.countP p := List.countP_mono_left fun x hx => h x (List.mem_cons_of_mem _ hx)
   simp only [if_true, Bool.false_eq_true, if_false]; omega
  ·have := countP_lt (fun x hx => h x (List.mem_cons_of_mem _ hx)) ha hp hq
   have hx := h x (List.mem_cons_self ..)
   by_cases hqx : q x = true
   ·rw [if_pos hqx, if_pos (hx hqx)]; omega
   ·rw [if_neg hqx]; omega
theorem uns_put {n : Nat} {m : List (Int × ST)} {a : Int} (s : ST) (h0 : 0 ≤ a) (h1 : a < n) (hn : assocK a m = none) : uns n (putK a s m) + 1 ≤ uns n m := by
 have : uns n (putK a s m) < uns n m := by
  unfold uns
  refine countP_lt (a := a.toNat) (fun x _ hx => ?_) (List.mem_range.2 (by omega)) ?_ ?_
  ·rw [assocK_put] at hx
   split at hx
   ·cases hx
   ·exact hx
  ·show (assocK ((a.toNat : Nat) : Int) m).isNone = true
   rw [Int.toNat_of_nonneg h0, hn]; rfl
  ·show (assocK ((a.toNat : Nat) : Int) _).isNone = false
   rw [Int.toNat_of_nonneg h0, assocK_put, if_pos (beq_self_eq_true a)]; rfl
 omega
theorem uns_le (n : Nat) (m : List (Int × ST)) : uns n m ≤ n := by
 unfold uns
 have := List.countP_le_length (p := fun k : Nat => (assocK (k : Int) m).isNone) (l := List.range n)
 rwa [List.length_range] at this
/-- what holds of what is seen (m) and of what is to do (q) -/
structure Im (p : JP) (f : JF) (own : Int) (m : List (Int × ST)) (q : List Int) : Prop where
 seen : ∀ a s, assocK a m = some s → Rc p f own a s ∧ 0 ≤ a ∧ a < f.2.2.2.length ∧ 0 ≤ s.1 ∧ s.1 + 2 * uns f.2.2.2.length m ≤ 2 * f.2.2.2.length ∧ s.2.length + 2 * uns f.2.2.2.length m ≤ 2 * f.2.2.2.length ∧ s.2.length % 2 = 0
 todo : ∀ a ∈ q, ∃ s, assocK a m = some s
 few : q.length + uns f.2.2.2.length m ≤ f.2.2.2.length
/-- what may be reached next -/
def Nxt (p : JP) (f : JF) (own : Int) (u : Nat) (a : Int) (s : ST) : Prop := Rc p f own a s ∧ 0 ≤ s.1 ∧ s.1 + 2 * u ≤ 2 * f.2.2.2.length + 2 ∧ s.2.length + 2 * u ≤ 2 * f.2.2.2.length + 2 ∧ s.2.length % 2 = 0
/-- from (m, q) to (m', q') -/
structure Mor (n : Nat) (m : List (Int × ST)) (q : List Int) (m' : List (Int × ST)) (q' : List Int) : Prop where
 keep : ∀ k e, assocK k m = some e → assocK k m' = some e
 new : ∀ k e, assocK k m' = some e → assocK k m = some e ∨ k ∈ q'
 todo : ∀ k ∈ q, k ∈ q'
 less : uns n m' ≤ uns n m
 meas : 2 * uns n m' + q'.length ≤ 2 * uns n m + q.length
theorem Mor.trans {n : Nat} {m1 m2 m3 : List (Int × ST)} {q1 q2 q3 : List Int} (h : Mor n m1 q1 m2 q2) (k : Mor n m2 q2 m3 q3) : Mor n m1 q1 m3 q3 where
 keep := fun a e h1 => k.keep a e (h.keep a e h1)
 new := fun a e h1 => (k.new a e h1).elim (fun h2 => (h.new a e h2).imp id (k.todo a)) .inr
 todo := fun a h1 => k.todo a (h.todo a h1)
 less := by have := h.less; have := k.less; omega
 meas := by have := h.meas; have := k.meas; omega
theorem reach1 {p : JP} {f : JF} {own : Int} {m : List (Int × ST)} {q : List Int} {u : Nat} (I : Im p f own m q) {a : Int} {s : ST} (hN : Nxt p f own u a s) (hu : uns f.2.2.2.length m ≤ u) :
  ((∃ c, rchS (p, f, own, m, q, false) a s = c ∧ c.2.2.2.2.2 = true) ∧ ¬RightF p f own) ∨
  ∃ m' q', rchS (p, f, own, m, q, false) a s = (p, f, own, m', q', false) ∧ Im p f own m' q' ∧ Mor f.2.2.2.length m q m' q' ∧ assocK a m' = some s := by
 obtain ⟨h1, h2, h3, h4, h5⟩ := hN
 by_cases hV : rchV0 (p, f, own, m, q, false) a s = true
 ·refine .inl ⟨⟨_, rfl, by unfold rchS; rw [if_pos hV]⟩, fun hR => hR.1 a s h1 ?_⟩
  unfold rchV0 at hV
  simp only [Bool.or_eq_true, decide_eq_true_eq] at hV
  unfold nx
  rw [if_pos]
  omega
 ·have hV2 := hV
  unfold rchV0 at hV2
  simp only [Bool.or_eq_true, decide_eq_true_eq, not_or, Int.not_lt, ge_iff_le, Int.not_le] at hV2
  obtain ⟨v1, v2, _⟩ := hV2
  cases hE : assocK a m with
  | some e =>
   have e1 : rchS (p, f, own, m, q, false) a s = (p, f, own, m, q, !(samS s e)) := by
    unfold rchS; rw [if_neg hV]; dsimp only; rw [hE]; rfl
   cases hs : samS s e with
   | true =>
    have : s = e := (samS_iff s e).1 hs
    subst this
    exact .inr ⟨m, q, by rw [e1, hs]; rfl, I, ⟨fun _ _ h => h, fun _ _ h => .inl h, fun _ h => h, Nat.le_refl _, Nat.le_refl _⟩, hE⟩
   | false =>
    refine .inl ⟨⟨_, rfl, by rw [e1, hs]; rfl⟩, fun hR => ?_⟩
    have := hR.2 a s e h1 (I.seen a e hE).1
    rw [(samS_iff s e).2 this] at hs; cases hs
  | none =>
   have e1 : rchS (p, f, own, m, q, false) a s = (p, f, own, putK a s m, q ++ [a], false) := by
    unfold rchS; rw [if_neg hV]; dsimp only; rw [hE]
   have hU := uns_put s v1 v2 hE
   refine .inr ⟨_, _, e1, ⟨fun k e he => ?_, fun k hk => ?_, ?_⟩, ⟨fun k e he => ?_, fun k e he => ?_, fun k hk => List.mem_append_left _ hk, by omega, ?_⟩, ?_⟩
   ·rw [assocK_put] at he
    split at he
    ·rename_i hk
     have hk : k = a := by simpa using hk
     cases he
     subst hk
     exact ⟨h1, v1, v2, h2, by omega, by omega, h5⟩
    ·obtain ⟨i1, i2, i3, i4, i5, i6, i7⟩ := I.seen k e he
     exact ⟨i1, i2, i3, i4, by omega, by omega, i7⟩
   ·rw [assocK_put]
    split
    ·exact ⟨_, rfl⟩
    ·rename_i hka
     rcases List.mem_append.1 hk with hk | hk
     ·exact I.todo k hk
     ·rw [List.mem_singleton] at hk
      exact absurd (by rw [hk]; exact beq_self_eq_true a) hka
   ·have := I.few
    rw [List.length_append]; simp only [List.length_cons, List.length_nil]; omega
   ·rw [assocK_put]
    split
    ·rename_i hka
     have hka : k = a := by simpa using hka
     rw [hka, hE] at he; cases he
    ·exact he
   ·rw [assocK_put] at he
    split at he
    ·rename_i hka
     have hka : k = a := by simpa using hka
     exact .inr (by rw [hka]; exact List.mem_append_right _ (List.mem_singleton.2 rfl))
    ·exact .inl he
   ·rw [List.length_append]; simp only [List.length_cons, List.length_nil]; omega
   ·rw [assocK_put, if_pos (beq_self_eq_true a)]
theorem rchS_bad {c : CK} (a : Int) (s : ST) (h : c.2.2.2.2.2 = true) : (rchS c a s).2.2.2.2.2 = true := by
 unfold rchS
 split
 ·rfl
 ·split
  ·show (c.2.2.2.2.2 || _) = true; rw [h]; rfl
  ·exact h
theorem rchs_bad : ∀ (l : List (Int × ST)) {c : CK}, c.2.2.2.2.2 = true → (rchs c l).2.2.2.2.2 = true
 | [], _, h => h
 | x :: l, c, h => rchs_bad l (c := rchS c x.1 x.2) (rchS_bad _ _ h)
theorem reachs {p : JP} {f : JF} {own : Int} {u : Nat} : ∀ (l : List (Int × ST)) {m : List (Int × ST)} {q : List Int}, Im p f own m q → (∀ x ∈ l, Nxt p f own u x.1 x.2) → uns f.2.2.2.length m ≤ u →
  ((rchs (p, f, own, m, q, false) l).2.2.2.2.2 = true ∧ ¬RightF p f own) ∨
  ∃ m' q', rchs (p, f, own, m, q, false) l = (p, f, own, m', q', false) ∧ Im p f own m' q' ∧ Mor f.2.2.2.length m q m' q' ∧ ∀ x ∈ l, assocK x.1 m' = some x.2
 | [], m, q, I, _, _ => .inr ⟨m, q, rfl, I, ⟨fun _ _ h => h, fun _ _ h => .inl h, fun _ h => h, Nat.le_refl _, Nat.le_refl _⟩, fun _ h => by cases h⟩
 | x :: l, m, q, I, hN, hu => by
  show (((rchs (rchS (p, f, own, m, q, false) x.1 x.2) l).2.2.2.2.2 = true) ∧ _) ∨ ∃ m' q', rchs (rchS (p, f, own, m, q, false) x.1 x.2) l = _ ∧ _
  rcases reach1 I (hN x (List.mem_cons_self ..)) hu with ⟨⟨c, hc, hb⟩, hR⟩ | ⟨m1, q1, e1, I1, M1, a1⟩
  ·rw [hc]; exact .inl ⟨rchs_bad l hb, hR⟩
  ·rw [e1]
   rcases reachs l I1 (fun y hy => hN y (List.mem_cons_of_mem _ hy)) (by have := M1.less; omega) with h | ⟨m2, q2, e2, I2, M2, a2⟩
   ·exact .inl h
   ·refine .inr ⟨m2, q2, e2, I2, M1.trans M2, fun y hy => ?_⟩
    rcases List.mem_cons.1 hy with rfl | hy
    ·exact M2.keep _ _ a1
    ·exact a2 y hy
/-- the instructions of a function are right -/
def CodeOk (p : JP) (f : JF) : Prop := (∀ i ∈ f.2.2.2, insC (p, f, 0, [], [], false) i = true) ∧ ∀ x ∈ p.2.2, x.length ≤ 4611686018427387904
theorem insC_own {c d : CK} (h1 : c.1 = d.1) (h2 : c.2.1 = d.2.1) (i : Int × Int) : insC c i = insC d i := by
 obtain ⟨p, f, _⟩ := c; obtain ⟨p2, f2, _⟩ := d
 cases h1; cases h2; rfl
theorem CodeOk.at {p : JP} {f : JF} (h : CodeOk p f) {a : Int} (h1 : Int.toNat a < f.2.2.2.length) : insC (p, f, 0, [], [], false) (f.2.2.2.getD (Int.toNat a) default) = true := by
 refine h.1 _ ?_
 rw [List.getD_eq_getElem?_getD, List.getElem?_eq_getElem h1]
 exact List.getElem_mem _
theorem nxt_ok {p : JP} {f : JF} {own : Int} (hC : CodeOk p f) {u : Nat} {a : Int} {s : ST} (h1 : Rc p f own a s) (h2 : 0 ≤ s.1) (h3 : s.1 + 2 * u ≤ 2 * f.2.2.2.length) (h4 : s.2.length + 2 * u ≤ 2 * f.2.2.2.length) (h5 : s.2.length % 2 = 0)
  {l : List (Int × ST)} (hl : nx p f own a s = some l) : ∀ x ∈ l, Nxt p f own u x.1 x.2 := by
 intro x hx
 refine ⟨h1.step hl hx, ?_⟩
 unfold nx at hl
 split at hl
 ·cases hl
 ·rename_i hr
  simp only [not_and, Nat.not_lt] at hr
  have hr : 0 ≤ a ∧ Int.toNat a < f.2.2.2.length := by omega
  have hM := mov_pos (c := (p, f, 0, [], [], false)) (insC_ok (hC.at hr.2)) hC.2
  dsimp only at hl hM
  generalize f.2.2.2.getD (Int.toNat a) default = i at hl hM
  split at hl
  ·cases hl
  ·have base : ∀ (r : Option (List (Int × ST))) (l1 : List (Int × ST)), some l1 = some l → x ∈ l1 := fun _ l1 h => by
    cases h; exact hx
   have T : ∀ t : ST, t.1 = s.1 ∨ t.1 = s.1 + 1 ∨ t.1 = s.1 - (movS i p).1 + (movS i p).2 → t.2.length ≤ s.2.length + 2 → t.2.length % 2 = 0 → 0 ≤ t.1 ∧ t.1 + 2 * u ≤ 2 * f.2.2.2.length + 2 ∧ t.2.length + 2 * u ≤ 2 * f.2.2.2.length + 2 ∧ t.2.length % 2 = 0 := fun t k1 k2 k3 => by
    refine ⟨by omega, by omega, by omega, k3⟩
   have one : ∀ {y : Int × ST} {Q : Prop}, (x = y → Q) → x ∈ [y] → Q := fun h k => h (List.mem_singleton.1 k)
   have two : ∀ {y z : Int × ST} {Q : Prop}, (x = y → Q) → (x = z → Q) → x ∈ [y, z] → Q := fun h1 h2 k => by
    rcases List.mem_cons.1 k with k | k
    ·exact h1 k
    ·exact h2 (List.mem_singleton.1 k)
   have e0 : s.2.length ≤ s.2.length + 2 := by omega
   repeat' split at hl
   all_goals first | cases hl | skip
   all_goals first
    | exact one (fun h => by subst h; exact T _ (.inr (.inr rfl)) e0 h5) hx
    | exact two (fun h => by subst h; exact T _ (.inr (.inr rfl)) e0 h5) (fun h => by subst h; exact T _ (.inr (.inr rfl)) e0 h5) hx
    | exact two (fun h => by subst h; exact T _ (.inl rfl) e0 h5) (fun h => by subst h; exact T _ (.inr (.inr rfl)) e0 h5) hx
    | exact two (fun h => by subst h; exact T _ (.inr (.inl rfl)) e0 h5) (fun h => by subst h; exact T _ (.inr (.inr rfl)) (by show (s.2 ++ _).length ≤ _; rw [List.length_append]; simp only [List.length_cons, List.length_nil]; omega) (by show (s.2 ++ _).length % 2 = 0; rw [List.length_append]; simp only [List.length_cons, List.length_nil]; omega)) hx
    | (cases hx; done)
    | exact one (fun h => by subst h; exact T _ (.inr (.inr rfl)) (by show (s.2.take _).length ≤ _; rw [List.length_take]; omega) (by show (s.2.take _).length % 2 = 0; rw [List.length_take]; omega)) hx
/-- what is seen, what is to do, and that all else that is seen is done -/
structure Jm (p : JP) (f : JF) (own : Int) (m : List (Int × ST)) (q : List Int) : Prop extends Im p f own m q where
 zero : assocK 0 m = some (0, [])
 done : ∀ a s, assocK a m = some s → a ∈ q ∨ ∃ l, nx p f own a s = some l ∧ ∀ x ∈ l, assocK x.1 m = some x.2
theorem Jm.right {p : JP} {f : JF} {own : Int} {m : List (Int × ST)} (h : Jm p f own m []) : RightF p f own := by
 have key : ∀ a s, Rc p f own a s → assocK a m = some s := fun a s hr => by
  induction hr with
  | start => exact h.zero
  | step h1 h2 h3 ih =>
   rcases h.done _ _ ih with h4 | ⟨l, h4, h5⟩
   ·cases h4
   ·rw [h2] at h4; cases h4; exact h5 _ h3
 refine ⟨fun a s hr hn => ?_, fun a s t h1 h2 => ?_⟩
 ·rcases h.done _ _ (key a s hr) with h4 | ⟨l, h4, _⟩
  ·cases h4
  ·rw [hn] at h4; cases h4
 ·have := key a s h1; rw [key a t h2] at this; cases this; rfl
def popC (c : CK) : CK := (c.1, c.2.1, c.2.2.1, c.2.2.2.1, c.2.2.2.2.1.take (c.2.2.2.2.1.length - 1), c.2.2.2.2.2)
def run : Nat → CK → CK
 | 0, c => c
 | k + 1, c => if rgtV1 c.2.2.2.2.2 c.2.2.2.2.1 = true then run k (stpS (popC c) (c.2.2.2.2.1.getD (c.2.2.2.2.1.length - 1) default)) else c
def rgL (K : Bool → CK → Prop) (k : Nat) (c : CK) : Prop := rgtl15 K k c.1.1 c.1.2.1 c.1.2.2 c.2.1.1 c.2.1.2.1 c.2.1.2.2.1 c.2.1.2.2.2 c.2.2.1 c.2.2.2.2.2 c.2.2.2.1 c.2.2.2.2.1
theorem run_end {c : CK} (h : rgtV1 c.2.2.2.2.2 c.2.2.2.2.1 = false) : ∀ k, run k c = c
 | 0 => rfl
 | k + 1 => by unfold run; rw [h]; rfl
theorem rgL_end {K : Bool → CK → Prop} {c : CK} (h : rgtV1 c.2.2.2.2.2 c.2.2.2.2.1 = false) (k : Nat) (hK : K (!c.2.2.2.2.2) c) : rgL K (k + 1) c := by
 have hj : rgtj17 K c.1.1 c.1.2.1 c.1.2.2 c.2.1.1 c.2.1.2.1 c.2.1.2.2.1 c.2.1.2.2.2 c.2.2.1 c.2.2.2.2.2 c.2.2.2.1 c.2.2.2.2.1 (rgtl15 K k) := ⟨fun h2 => (by rw [h] at h2; cases h2), fun _ => hK⟩
 exact ⟨fun _ => hj, fun _ => hj⟩
theorem bad_end {c : CK} (h : c.2.2.2.2.2 = true) : rgtV1 c.2.2.2.2.2 c.2.2.2.2.1 = false := by
 unfold rgtV1; rw [h]; simp
theorem run_ok {p : JP} {f : JF} {own : Int} (hC : CodeOk p f) (hn : f.2.2.2.length ≤ 8000) (K : Bool → CK → Prop) : ∀ (k : Nat) (m : List (Int × ST)) (q : List Int), Jm p f own m q → 2 * uns f.2.2.2.length m + q.length ≤ k →
  (K (!(run k (p, f, own, m, q, false)).2.2.2.2.2) (run k (p, f, own, m, q, false)) → rgL K (k + 1) (p, f, own, m, q, false)) ∧ ((run k (p, f, own, m, q, false)).2.2.2.2.2 = false ↔ RightF p f own) := by
 have stop : ∀ (k : Nat) (m : List (Int × ST)), Jm p f own m [] → (K (!(run k (p, f, own, m, [], false)).2.2.2.2.2) (run k (p, f, own, m, [], false)) → rgL K (k + 1) (p, f, own, m, [], false)) ∧ ((run k (p, f, own, m, [], false)).2.2.2.2.2 = false ↔ RightF p f own) := fun k m hJ => by
  rw [run_end (c := (p, f, own, m, [], false)) rfl]
  exact ⟨fun h => rgL_end rfl k h, fun _ => hJ.right, fun _ => rfl⟩
 intro k
 induction k with
 | zero =>
  intro m q hJ hm
  have : q = [] := List.eq_nil_of_length_eq_zero (by omega)
  subst this
  exact stop 0 m hJ
 | succ k ih =>
  intro m q hJ hm
  by_cases hq : q = []
  ·subst hq; exact stop (k + 1) m hJ
  ·have hq1 : 0 < q.length := List.length_pos_iff.2 hq
   have hV : rgtV1 false q = true := by
    unfold rgtV1
    rw [decide_eq_true (by omega : (q.length : Int) > 0)]; rfl
   obtain ⟨a, ha⟩ : ∃ a, a = q.getD (q.length - 1) default := ⟨_, rfl⟩
   have hin : a ∈ q := by
    rw [ha, List.getD_eq_getElem?_getD, List.getElem?_eq_getElem (by omega)]
    exact List.getElem_mem _
   have hsp : q = q.take (q.length - 1) ++ [a] := by
    have := drop_get (l := q) (k := q.length - 1) default (by omega)
    rw [List.drop_of_length_le (by omega : q.length ≤ q.length - 1 + 1), ← ha] at this
    rw [← this, List.take_append_drop]
   obtain ⟨q0, hq0⟩ : ∃ q0, q0 = q.take (q.length - 1) := ⟨_, rfl⟩
   rw [← hq0] at hsp
   have hl0 : q0.length + 1 = q.length := by rw [hsp, List.length_append]; rfl
   have e1 : run (k + 1) (p, f, own, m, q, false) = run k (stpS (p, f, own, m, q0, false) a) := by
    show (if rgtV1 false q = true then _ else _) = _
    rw [if_pos hV]
    show run k (stpS (p, f, own, m, q.take (q.length - 1), false) (q.getD (q.length - 1) default)) = _
    rw [← hq0, ← ha]
   obtain ⟨s, hs⟩ := hJ.todo a hin
   obtain ⟨i1, i2, i3, i4, i5, i6, i7⟩ := hJ.seen a s hs
   have hP : stpP (p, f, own, m, q0, false) a := by
    have := hJ.few
    refine ⟨i2, by show a.toNat < f.2.2.2.length; omega, hn, ⟨s, hs, i4, by omega, by omega, i7⟩, by show q0.length ≤ _; omega, fun j e he => ?_, ?_, hC.2⟩
    ·obtain ⟨_, _, _, _, _, j6, _⟩ := hJ.seen j e he
     omega
    ·exact (insC_own (c := (p, f, own, m, q0, false)) (d := (p, f, 0, [], [], false)) rfl rfl _).trans (hC.at (by omega))
   have hL : ∀ (_ : rgL K (k + 1) (stpS (p, f, own, m, q0, false) a)), rgL K (k + 1 + 1) (p, f, own, m, q, false) := fun h => by
    have hw : w6 ((q.length : Int) - 1) = (q.length : Int) - 1 := w64 (by have := hJ.few; omega)
    have ht : Int.toNat (w6 ((q.length : Int) - 1)) = q.length - 1 := by rw [hw]; omega
    have hj : rgtj17 K p.1 p.2.1 p.2.2 f.1 f.2.1 f.2.2.1 f.2.2.2 own false m q (rgtl15 K (k + 1)) := by
     refine ⟨fun _ => ?_, fun h2 => (by rw [hV] at h2; cases h2)⟩
     rw [ht, hw, ← hq0, ← ha]
     exact ⟨by omega, by omega, by omega, by omega, hP, h⟩
    exact ⟨fun _ => hj, fun _ => hj⟩
   rw [e1]
   have hst : stpS (p, f, own, m, q0, false) a = match nx p f own a s with | none => badC (p, f, own, m, q0, false) | some l => rchs (p, f, own, m, q0, false) l := by
    unfold stpS; dsimp only; rw [hs]; rfl
   have hbad : (stpS (p, f, own, m, q0, false) a).2.2.2.2.2 = true → ¬RightF p f own → (K (!(run k (stpS (p, f, own, m, q0, false) a)).2.2.2.2.2) (run k (stpS (p, f, own, m, q0, false) a)) → rgL K (k + 1 + 1) (p, f, own, m, q, false)) ∧ ((run k (stpS (p, f, own, m, q0, false) a)).2.2.2.2.2 = false ↔ RightF p f own) := fun hb hR => by
    rw [run_end (bad_end hb)]
    exact ⟨fun h => hL (rgL_end (bad_end hb) k h), fun h => (by rw [hb] at h; cases h), fun h => absurd h hR⟩
   cases hx : nx p f own a s with
   | none =>
    refine hbad ?_ fun hR => hR.1 a s i1 hx
    rw [hst, hx]; rfl
   | some l =>
    have hI0 : Im p f own m q0 := ⟨hJ.seen, fun b hb => hJ.todo b (by rw [hsp]; exact List.mem_append_left _ hb), by have := hJ.few; omega⟩
    have hN := nxt_ok hC i1 i4 i5 i6 i7 hx
    rcases reachs l hI0 hN (Nat.le_refl _) with ⟨hb, hR⟩ | ⟨m', q', e2, I', M', a'⟩
    ·refine hbad ?_ hR
     rw [hst, hx]; exact hb
    ·have e3 : stpS (p, f, own, m, q0, false) a = (p, f, own, m', q', false) := by rw [hst, hx]; exact e2
     have hJ' : Jm p f own m' q' := ⟨I', M'.keep _ _ hJ.zero, fun b t hb => by
      rcases M'.new b t hb with h | h
      ·rcases hJ.done b t h with h2 | ⟨l2, h2, h3⟩
       ·rw [hsp] at h2
        rcases List.mem_append.1 h2 with h2 | h2
        ·exact .inl (M'.todo b h2)
        ·have : b = a := List.mem_singleton.1 h2
         subst this
         rw [hs] at h; cases h
         exact .inr ⟨l, hx, a'⟩
       ·exact .inr ⟨l2, h2, fun y hy => M'.keep _ _ (h3 y hy)⟩
      ·exact .inl h⟩
     rw [e3] at hL ⊢
     obtain ⟨k1, k2⟩ := ih m' q' hJ' (by have := M'.meas; omega)
     exact ⟨fun h => hL (k1 h), k2⟩
end
end Go.Proofs.YtanhbfhpnjjgcaaDoor.Cc
