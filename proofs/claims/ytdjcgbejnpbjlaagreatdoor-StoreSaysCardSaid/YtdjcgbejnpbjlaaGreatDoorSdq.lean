/- Store: Run in plain words, and the document's answers. -/
import Derived.Test.YtdjcgbejnpbjlaaGreatDoorSdp
import Derived.Test.YtdjcgbejnpbjlaaGreatDoorSdc
namespace Go.Proofs.YtdjcgbejnpbjlaaGreatDoor.Sd
open Go Go.Eng Go.RowKit Bld Sp Ti Uc Ua Ui Ub
set_option linter.unusedVariables false
noncomputable section
theorem assocB_put {V : Type} (k a : Bt) (v : V) : ∀ (l : List (Bt × V)), assocK k (putK a v l) = if (k == a) = true then some v else assocK k l
 | [] => by simp only [putK, assocK]
 | x :: l => by
  simp only [putK]
  by_cases h : (a == x.1) = true
  ·rw [if_pos h]
   have e : a = x.1 := by simpa using h
   simp only [assocK]
   by_cases h2 : (k == a) = true
   ·rw [if_pos h2, if_pos h2]
   ·rw [if_neg h2, if_neg h2, if_neg (by rw [← e]; exact h2)]
  ·rw [if_neg h]
   simp only [assocK]
   by_cases h2 : (k == x.1) = true
   ·rw [if_pos h2]
    have e : k = x.1 := by simpa using h2
    have h4 : ¬ (k == a) = true := fun h3 => h (by rw [← e, show k = a by simpa using h3]; exact beq_self_eq_true a)
    rw [if_neg h4, if_pos h2]
   ·rw [if_neg h2, assocB_put k a v l, if_neg h2]
theorem putK_keys {V : Type} (a : Bt) (v : V) : ∀ (l : List (Bt × V)), (putK a v l).map (·.1) = if a ∈ l.map (·.1) then l.map (·.1) else l.map (·.1) ++ [a]
 | [] => rfl
 | x :: l => by
  simp only [putK]
  by_cases h : (a == x.1) = true
  ·have e : a = x.1 := by simpa using h
   rw [if_pos h, if_pos (by rw [e]; exact List.mem_cons_self ..)]
   simp [e]
  ·have e : a ≠ x.1 := by simpa using h
   rw [if_neg h, List.map_cons, putK_keys a v l, List.map_cons]
   by_cases h2 : a ∈ l.map (·.1)
   ·rw [if_pos h2, if_pos (List.mem_cons_of_mem _ h2)]
   ·rw [if_neg h2, if_neg (by rw [List.mem_cons]; exact fun h3 => h3.elim e h2)]; rfl
theorem putK_nodup {V : Type} {a : Bt} {v : V} {l : List (Bt × V)} (h : (l.map (·.1)).Nodup) : ((putK a v l).map (·.1)).Nodup := by
 rw [putK_keys]
 split
 ·exact h
 ·rename_i hn
  rw [List.nodup_append]
  exact ⟨h, by simp, fun x hx y hy => by rw [List.mem_singleton] at hy; subst hy; exact fun e => hn (e ▸ hx)⟩
theorem assoc_none {V : Type} {k : Bt} : ∀ {l : List (Bt × V)}, k ∉ l.map (·.1) → assocK k l = none
 | [], _ => rfl
 | x :: l, h => by
  rw [List.map_cons, List.mem_cons, not_or] at h
  simp only [assocK]
  rw [if_neg (by simpa using h.1), assoc_none h.2]
theorem assoc_del {V : Type} (k a : Bt) : ∀ {l : List (Bt × V)}, (l.map (·.1)).Nodup → assocK k (delK a l) = if (k == a) = true then none else assocK k l
 | [], _ => by simp [delK, assocK]
 | x :: l, h => by
  rw [List.map_cons, List.nodup_cons] at h
  simp only [delK]
  by_cases h1 : (a == x.1) = true
  ·have e : a = x.1 := by simpa using h1
   rw [if_pos h1]
   by_cases h2 : (k == a) = true
   ·have e2 : k = a := by simpa using h2
    rw [if_pos h2, e2, e]; exact assoc_none h.1
   ·rw [if_neg h2]
    simp only [assocK]
    rw [if_neg (by rw [← e]; exact h2)]
  ·rw [if_neg h1]
   simp only [assocK]
   by_cases h2 : (k == x.1) = true
   ·have e2 : k = x.1 := by simpa using h2
    have h4 : ¬ (k == a) = true := fun h3 => h1 (by rw [← e2, show k = a by simpa using h3]; exact beq_self_eq_true a)
    rw [if_pos h2, if_neg h4, if_pos h2]
   ·rw [if_neg h2, assoc_del k a h.2, if_neg h2]
theorem delK_sub {V : Type} (a : Bt) : ∀ (l : List (Bt × V)), ((delK a l).map (·.1)).Sublist (l.map (·.1))
 | [] => .slnil
 | x :: l => by
  simp only [delK]
  split
  ·exact List.sublist_cons_self _ _
  ·exact (delK_sub a l).cons_cons _
/-! the document's answers, op by op -/
def sz (l : List KP) : Int := match l with
 | [] => 0
 | x :: l => ((x.2.1.length : Int) + x.2.2.length) + sz l
def own (g : Bt) (x : KP) : Bool := x.1 == g
def hit (g k : Bt) (x : KP) : Bool := (x.1 == g) && (x.2.1 == k)
def gOf (o : OP) : Bt := oriS (parS o.2.1).1
/-- where the key stands, and its text -/
def ixS (all : List KP) (o : OP) : Option Nat := all.findIdx? (hit (gOf o) o.2.2.1)
def nextS (all : List KP) (o : OP) : List KP :=
 match ixS all o with
 | some i => if o.1 = 1 then all.set i ((all.getD i default).1, (all.getD i default).2.1, o.2.2.2) else if o.1 = 3 then all.take i ++ all.drop (i + 1) else all
 | none => if o.1 = 1 then all ++ [(gOf o, o.2.2.1, o.2.2.2)] else all
def ansS (all : List KP) (o : OP) : AN :=
 match ixS all o with
 | some i => (0, (all.getD i default).2.2, true, [])
 | none => (0, [], false, [])
def opS (all : List KP) (o : OP) : AN × List KP :=
 if ((parS o.2.1).2 != 0) = true then (((parS o.2.1).2, [], false, []), all) else
 if (!(rbtM o.1 1 5)) = true then ((1, [], false, []), all) else
 if (o.1 == 5) = true then ((0, [], false, (all.filter (own (gOf o))).map (·.2.1)), all) else
 if (o.1 == 4) = true then ((0, [], decide (((all.filter fun x => !(own (gOf o) x)).length : Int) < (all.length : Int)), []), all.filter fun x => !(own (gOf o) x)) else
 if ((o.1 == 1) && decide (sz ((nextS all o).filter (own (gOf o))) > 400)) = true then ((2, [], false, []), all) else
 (ansS all o, nextS all o)
def allS : List OP → List KP → List AN → List AN
 | [], _, out => out
 | o :: l, all, out => allS l (opS all o).2 (out ++ [(opS all o).1])
def rsaS (l : List OP) : List AN := allS l [] []
def rsaP (l : List OP) : Prop := l.length ≤ 100 ∧ ∀ o ∈ l, txP o.2.2.1 ∧ txP o.2.2.2
/-! one origin's part -/
def key (x : KP) : Bt := x.2.1
def txt (x : KP) : Bt := x.2.2
def isK (k : Bt) (x : KP) : Bool := x.2.1 == k
def newT (g k v : Bt) (x : KP) : KP := if hit g k x = true then (x.1, x.2.1, v) else x
def subOf (g : Bt) (all : List KP) : List KP := all.filter (own g)
theorem hit_own {g k : Bt} {x : KP} (h : hit g k x = true) : own g x = true ∧ isK k x = true := by
 unfold hit at h
 rw [Bool.and_eq_true] at h
 exact h
theorem no_hit {g k : Bt} : ∀ {all : List KP}, k ∉ (subOf g all).map key → ∀ x ∈ all, hit g k x = false
 | a :: all, h, x, hx => by
  cases hh : hit g k x with
  | false => rfl
  | true =>
   obtain ⟨h1, h2⟩ := hit_own hh
   refine absurd (List.mem_map.2 ⟨x, List.mem_filter.2 ⟨hx, h1⟩, ?_⟩) h
   exact beq_iff_eq.1 h2
theorem map_id_of {g k v : Bt} {all : List KP} (h : ∀ x ∈ all, hit g k x = false) : all.map (newT g k v) = all := by
 have : ∀ x ∈ all, newT g k v x = x := fun x hx => by unfold newT; rw [if_neg (by rw [h x hx]; decide)]
 induction all with
 | nil => rfl
 | cons a l ih => rw [List.map_cons, this a (List.mem_cons_self ..), ih (fun x hx => h x (List.mem_cons_of_mem _ hx)) fun x hx => this x (List.mem_cons_of_mem _ hx)]
theorem filter_id_of {g k : Bt} {all : List KP} (h : ∀ x ∈ all, hit g k x = false) : all.filter (fun x => !(hit g k x)) = all := List.filter_eq_self.2 fun x hx => by rw [h x hx]; rfl
/-- where the key stands first -/
theorem at_first {g k v : Bt} : ∀ {all : List KP}, ((subOf g all).map key).Nodup →
  (all.findIdx? (hit g k) = none ∧ (∀ x ∈ all, hit g k x = false) ∧ (subOf g all).find? (isK k) = none) ∨
  ∃ i x, i < all.length ∧ all.findIdx? (hit g k) = some i ∧ all.getD i default = x ∧ hit g k x = true ∧ (subOf g all).find? (isK k) = some x ∧ all.set i (x.1, x.2.1, v) = all.map (newT g k v) ∧ all.take i ++ all.drop (i + 1) = all.filter (fun x => !(hit g k x))
 | [], _ => .inl ⟨rfl, fun _ h => (by cases h), rfl⟩
 | a :: all, hn => by
  cases ha : hit g k a with
  | true =>
   obtain ⟨h1, h2⟩ := hit_own ha
   have e : subOf g (a :: all) = a :: subOf g all := by unfold subOf; rw [List.filter_cons, if_pos h1]
   rw [e, List.map_cons, List.nodup_cons] at hn
   have ek : key a = k := beq_iff_eq.1 h2
   have hno := no_hit (g := g) (k := k) (all := all) (by rw [← ek]; exact hn.1)
   refine .inr ⟨0, a, Nat.zero_lt_succ _, by rw [List.findIdx?_cons, if_pos ha], rfl, ha, by rw [e, List.find?_cons, h2], ?_, ?_⟩
   ·rw [List.set_cons_zero, List.map_cons, map_id_of hno]
    unfold newT; rw [if_pos ha]
   ·rw [List.filter_cons, if_neg (by rw [ha]; decide), filter_id_of hno]; rfl
  | false =>
   have hn' : ((subOf g all).map key).Nodup := by
    unfold subOf at hn ⊢
    rw [List.filter_cons] at hn
    split at hn
    ·rw [List.map_cons, List.nodup_cons] at hn; exact hn.2
    ·exact hn
   have hf : ∀ r, (subOf g all).find? (isK k) = r → (subOf g (a :: all)).find? (isK k) = r := fun r hr => by
    unfold subOf at hr ⊢
    rw [List.filter_cons]
    split
    ·rename_i ho
     have : isK k a = false := by
      cases hk : isK k a with
      | false => rfl
      | true =>
       have h9 : hit g k a = true := by unfold hit; rw [Bool.and_eq_true]; exact ⟨ho, hk⟩
       rw [ha] at h9; cases h9
     rw [List.find?_cons, this]; exact hr
    ·exact hr
   rcases at_first (v := v) hn' with ⟨h1, h2, h3⟩ | ⟨i, x, h0, h1, h2, h3, h4, h5, h6⟩
   ·refine .inl ⟨by rw [List.findIdx?_cons, if_neg (by rw [ha]; decide), h1]; rfl, fun x hx => ?_, hf _ h3⟩
    rcases List.mem_cons.1 hx with rfl | hx
    ·exact ha
    ·exact h2 x hx
   ·refine .inr ⟨i + 1, x, Nat.succ_lt_succ h0, by rw [List.findIdx?_cons, if_neg (by rw [ha]; decide), h1]; rfl, h2, h3, hf _ h4, ?_, ?_⟩
    ·rw [List.set_cons_succ, h5, List.map_cons]
     congr 1
     unfold newT; rw [if_neg (by rw [ha]; decide)]
    ·rw [List.take_succ_cons, List.drop_succ_cons, List.cons_append, h6, List.filter_cons, if_pos (by rw [ha]; rfl)]
theorem sz_app : ∀ (l r : List KP), sz (l ++ r) = sz l + sz r
 | [], r => by show sz r = 0 + sz r; omega
 | x :: l, r => by
  show ((x.2.1.length : Int) + x.2.2.length) + sz (l ++ r) = ((x.2.1.length : Int) + x.2.2.length) + sz l + sz r
  rw [sz_app l r]; omega
theorem sz_pos : ∀ l : List KP, 0 ≤ sz l
 | [] => Int.le_refl _
 | x :: l => by have := sz_pos l; show 0 ≤ ((x.2.1.length : Int) + x.2.2.length) + sz l; omega
theorem sz_in {x : KP} : ∀ {l : List KP}, x ∈ l → (x.2.1.length : Int) + x.2.2.length ≤ sz l
 | a :: l, h => by
  have hp := sz_pos l
  show _ ≤ ((a.2.1.length : Int) + a.2.2.length) + sz l
  rcases List.mem_cons.1 h with rfl | h
  ·omega
  ·have := sz_in h; omega
theorem sub_map {g g2 k v : Bt} : ∀ all : List KP, subOf g2 (all.map (newT g k v)) = (subOf g2 all).map (newT g k v)
 | [] => rfl
 | a :: all => by
  have e : own g2 (newT g k v a) = own g2 a := by unfold newT; split <;> rfl
  unfold subOf
  rw [List.map_cons, List.filter_cons, List.filter_cons, e]
  have ih := sub_map (g := g) (g2 := g2) (k := k) (v := v) all
  unfold subOf at ih
  split
  ·rw [List.map_cons, ih]
  ·exact ih
theorem sub_filter {g2 : Bt} (q : KP → Bool) (all : List KP) : subOf g2 (all.filter q) = (subOf g2 all).filter q := by
 unfold subOf
 rw [List.filter_filter, List.filter_filter]
 congr 1; funext x; exact Bool.and_comm _ _
theorem other_hit {g g2 k : Bt} (h : g2 ≠ g) {all : List KP} : ∀ x ∈ subOf g2 all, hit g k x = false := fun x hx => by
 cases hh : hit g k x with
 | false => rfl
 | true =>
  have h1 := (hit_own hh).1
  have h2 := (List.mem_filter.1 hx).2
  unfold own at h1 h2
  exact absurd ((beq_iff_eq.1 h2).symm.trans (beq_iff_eq.1 h1)) h
theorem own_hit {g k : Bt} {all : List KP} : ∀ x ∈ subOf g all, hit g k x = isK k x := fun x hx => by
 have h2 := (List.mem_filter.1 hx).2
 unfold own at h2
 unfold hit isK
 rw [h2, Bool.true_and]
theorem sz_map {g k v : Bt} : ∀ {l : List KP} {x : KP}, (∀ y ∈ l, hit g k y = isK k y) → (l.map key).Nodup → l.find? (isK k) = some x → sz (l.map (newT g k v)) = sz l + ((v.length : Int) - x.2.2.length)
 | a :: l, x, hh, hn, hf => by
  rw [List.map_cons, List.nodup_cons] at hn
  rw [List.find?_cons] at hf
  have ha := hh a (List.mem_cons_self ..)
  have hl := fun y hy => hh y (List.mem_cons_of_mem _ hy)
  cases hk : isK k a with
  | true =>
   rw [hk] at hf ha
   cases hf
   have ek : key a = k := beq_iff_eq.1 hk
   have e : l.map (newT g k v) = l := map_id_of fun y hy => by
    rw [hl y hy]
    cases hy2 : isK k y with
    | false => rfl
    | true => exact absurd (List.mem_map.2 ⟨y, hy, (beq_iff_eq.1 hy2).trans ek.symm⟩) hn.1
   rw [List.map_cons, e]
   have e2 : newT g k v a = (a.1, a.2.1, v) := by unfold newT; rw [if_pos ha]
   rw [e2]
   show ((a.2.1.length : Int) + v.length) + sz l = ((a.2.1.length : Int) + a.2.2.length) + sz l + _
   omega
  | false =>
   rw [hk] at hf ha
   have e2 : newT g k v a = a := by unfold newT; rw [if_neg (by rw [ha]; decide)]
   rw [List.map_cons, e2]
   have := sz_map (g := g) (v := v) hl hn.2 hf
   show ((a.2.1.length : Int) + a.2.2.length) + sz (l.map (newT g k v)) = ((a.2.1.length : Int) + a.2.2.length) + sz l + _
   omega
theorem sz_del {k : Bt} : ∀ {l : List KP} {x : KP}, (l.map key).Nodup → l.find? (isK k) = some x → sz (l.filter fun y => !(isK k y)) = sz l - ((k.length : Int) + x.2.2.length)
 | a :: l, x, hn, hf => by
  rw [List.map_cons, List.nodup_cons] at hn
  rw [List.find?_cons] at hf
  cases hk : isK k a with
  | true =>
   rw [hk] at hf
   cases hf
   have ek : key a = k := beq_iff_eq.1 hk
   have e : l.filter (fun y => !(isK k y)) = l := List.filter_eq_self.2 fun y hy => by
    cases hy2 : isK k y with
    | false => rfl
    | true => exact absurd (List.mem_map.2 ⟨y, hy, (beq_iff_eq.1 hy2).trans ek.symm⟩) hn.1
   rw [List.filter_cons, if_neg (by rw [hk]; decide), e]
   show sz l = ((a.2.1.length : Int) + a.2.2.length) + sz l - _
   rw [← ek]; unfold key; omega
  | false =>
   rw [hk] at hf
   rw [List.filter_cons, if_pos (by rw [hk]; rfl)]
   have := sz_del hn.2 hf
   show ((a.2.1.length : Int) + a.2.2.length) + sz (l.filter fun y => !(isK k y)) = ((a.2.1.length : Int) + a.2.2.length) + sz l - _
   omega
/-- a drawer keeps what the list has of its origin -/
structure DRel (sub : List KP) (d : DR) : Prop where
 keys : d.1 = sub.map key
 nd : (sub.map key).Nodup
 texts : ∀ k, assocK k d.2.1 = (sub.find? (isK k)).map txt
 tnd : (d.2.1.map (·.1)).Nodup
 bytes : d.2.2 = sz sub
 few : sz sub ≤ 400
theorem DRel.nil : DRel [] ([], [], 0) := ⟨rfl, List.nodup_nil, fun _ => rfl, List.nodup_nil, rfl, by decide⟩
theorem DRel.drP {sub : List KP} {d : DR} (h : DRel sub d) (hl : sub.length ≤ 1000) : drP d := by
 have hp := sz_pos sub
 have hf := h.few
 refine ⟨by rw [h.keys, List.length_map]; exact hl, by rw [h.bytes]; exact hp, by rw [h.bytes]; exact hf, fun k w hw => ?_⟩
 rw [h.texts] at hw
 obtain ⟨x, hx, rfl⟩ := Option.map_eq_some_iff.1 hw
 have := sz_in (List.mem_of_find?_eq_some hx)
 unfold txt; omega
def dOf (D : List (Bt × DR)) (g : Bt) : DR := (assocK g D).getD ([], [], 0)
structure Rel (n : Nat) (all : List KP) (D : List (Bt × DR)) : Prop where
 len : all.length ≤ n
 at_ : ∀ g, DRel (subOf g all) (dOf D g)
theorem dOf_put (D : List (Bt × DR)) (g g2 : Bt) (d : DR) : dOf (putK g d D) g2 = if g2 = g then d else dOf D g2 := by
 unfold dOf
 rw [assocB_put]
 by_cases h : g2 = g
 ·subst h; rw [if_pos (beq_self_eq_true g2), if_pos rfl]; rfl
 ·rw [if_neg (by simpa using h), if_neg h]
theorem newT_key {g k v : Bt} (l : List KP) : (l.map (newT g k v)).map key = l.map key := by
 rw [List.map_map]
 refine List.map_congr_left fun x _ => ?_
 show key (newT g k v x) = key x
 unfold newT; split <;> rfl
theorem isK_ne {k k2 : Bt} (h : k2 ≠ k) {x : KP} (hx : isK k2 x = true) : isK k x = false := by
 unfold isK at hx ⊢
 rw [beq_iff_eq.1 hx]; simpa using h
theorem put_some {g k v : Bt} {sub : List KP} {d : DR} {x : KP} (h : DRel sub d) (hh : ∀ y ∈ sub, hit g k y = isK k y) (hf : sub.find? (isK k) = some x) :
  (sz (sub.map (newT g k v)) > 400 → dputS d k v = ((2, [], false, []), d)) ∧ (¬ sz (sub.map (newT g k v)) > 400 → ∃ d', dputS d k v = ((0, x.2.2, true, []), d') ∧ DRel (sub.map (newT g k v)) d') := by
 have e := sz_map (v := v) hh h.nd hf
 have ha : assocK k d.2.1 = some x.2.2 := by rw [h.texts, hf]; rfl
 have hb := h.bytes
 unfold dputS
 rw [ha]
 dsimp only
 refine ⟨fun hs => by rw [if_pos (by rw [decide_eq_true_eq]; omega)], fun hs => ⟨_, by rw [if_neg (by rw [decide_eq_true_eq]; omega)], ?_⟩⟩
 refine ⟨by rw [newT_key]; exact h.keys, by rw [newT_key]; exact h.nd, fun k2 => ?_, putK_nodup h.tnd, by show d.2.2 + _ = _; omega, by omega⟩
 show assocK k2 (putK k v d.2.1) = _
 have e1 : isK k2 ∘ newT g k v = isK k2 := by
  funext y
  show isK k2 (newT g k v y) = isK k2 y
  unfold newT; split <;> rfl
 rw [assocB_put, List.find?_map, e1, Option.map_map]
 by_cases hk : k2 = k
 ·subst hk
  rw [if_pos (beq_self_eq_true k2), hf]
  have hx := List.mem_of_find?_eq_some hf
  have hx2 := List.find?_some hf
  show some v = some (txt (newT g k2 v x))
  unfold newT; rw [if_pos ((hh x hx).trans hx2)]; rfl
 ·rw [if_neg (by simpa using hk), h.texts]
  cases hy : sub.find? (isK k2) with
  | none => rfl
  | some y =>
   have h1 := List.mem_of_find?_eq_some hy
   have h2 := isK_ne hk (List.find?_some hy)
   show some (txt y) = some (txt (newT g k v y))
   unfold newT; rw [if_neg (by rw [hh y h1, h2]; decide)]
theorem put_none {g k v : Bt} {sub : List KP} {d : DR} (h : DRel sub d) (hf : sub.find? (isK k) = none) :
  (sz (sub ++ [(g, k, v)]) > 400 → dputS d k v = ((2, [], false, []), d)) ∧ (¬ sz (sub ++ [(g, k, v)]) > 400 → ∃ d', dputS d k v = ((0, [], false, []), d') ∧ DRel (sub ++ [(g, k, v)]) d') := by
 have e : sz (sub ++ [(g, k, v)]) = sz sub + ((k.length : Int) + v.length) := by
  rw [sz_app]
  show sz sub + (((k.length : Int) + v.length) + 0) = _
  omega
 have ha : assocK k d.2.1 = none := by rw [h.texts, hf]; rfl
 have hb := h.bytes
 unfold dputS
 rw [ha]
 dsimp only
 refine ⟨fun hs => by rw [if_pos (by rw [decide_eq_true_eq]; omega)], fun hs => ⟨_, by rw [if_neg (by rw [decide_eq_true_eq]; omega)], ?_⟩⟩
 refine ⟨by show d.1 ++ [k] = _; rw [List.map_append, h.keys]; rfl, ?_, fun k2 => ?_, putK_nodup h.tnd, by show d.2.2 + _ = _; omega, by omega⟩
 ·rw [List.map_append, List.nodup_append]
  refine ⟨h.nd, by simp, fun a ha2 b hb2 => ?_⟩
  have hb3 : b = k := List.mem_singleton.1 hb2
  intro e3
  obtain ⟨y, hy, rfl⟩ := List.mem_map.1 ha2
  have := List.find?_eq_none.1 hf y hy
  exact this (by unfold isK; exact beq_iff_eq.2 (e3.trans hb3))
 ·show assocK k2 (putK k v d.2.1) = _
  rw [assocB_put, List.find?_append]
  by_cases hk : k2 = k
  ·subst hk
   rw [if_pos (beq_self_eq_true k2), hf]
   have : [((g, k2, v) : KP)].find? (isK k2) = some (g, k2, v) := by
    rw [List.find?_cons, show isK k2 (g, k2, v) = true from beq_self_eq_true k2]
   rw [this]; rfl
  ·rw [if_neg (by simpa using hk), h.texts]
   have : [((g, k, v) : KP)].find? (isK k2) = none := by
    rw [List.find?_cons, show isK k2 (g, k, v) = false by unfold isK; simpa using fun e => hk e.symm]; rfl
   rw [this, Option.or_none]
theorem drop_some {k : Bt} {sub : List KP} {d : DR} {x : KP} (h : DRel sub d) (hf : sub.find? (isK k) = some x) : ∃ d', ddrpS d k = ((0, x.2.2, true, []), d') ∧ DRel (sub.filter fun y => !(isK k y)) d' := by
 have e := sz_del h.nd hf
 have ha : assocK k d.2.1 = some x.2.2 := by rw [h.texts, hf]; rfl
 have hb := h.bytes
 have hfew := h.few
 have hp := sz_in (List.mem_of_find?_eq_some hf)
 unfold ddrpS
 rw [ha]
 refine ⟨_, rfl, ?_, ?_, fun k2 => ?_, h.tnd.sublist (delK_sub k d.2.1), by show d.2.2 - _ = _; omega, by omega⟩
 ·show d.1.filter _ = _
  rw [h.keys, List.filter_map]; rfl
 ·exact h.nd.sublist ((List.filter_sublist ..).map key)
 ·show assocK k2 (delK k d.2.1) = _
  rw [assoc_del k2 k h.tnd, List.find?_filter]
  by_cases hk : k2 = k
  ·subst hk
   rw [if_pos (beq_self_eq_true k2)]
   have : sub.find? (fun a => decide ((!(isK k2 a)) = true ∧ isK k2 a = true)) = none := by
    rw [List.find?_eq_none]
    intro y _
    cases isK k2 y <;> simp
   rw [this]; rfl
  ·rw [if_neg (by simpa using hk), h.texts]
   congr 1
   congr 1
   funext y
   cases hy : isK k2 y with
   | false => simp
   | true => rw [isK_ne hk hy]; simp
theorem drop_none {k : Bt} {sub : List KP} {d : DR} (h : DRel sub d) (hf : sub.find? (isK k) = none) : ddrpS d k = ((0, [], false, []), d) := by
 have ha : assocK k d.2.1 = none := by rw [h.texts, hf]; rfl
 unfold ddrpS; rw [ha]
theorem Rel.put {n : Nat} {all all' : List KP} {D : List (Bt × DR)} {g : Bt} {d' : DR} (h : Rel n all D) (hl : all'.length ≤ n + 1) (h1 : DRel (subOf g all') d') (h2 : ∀ g2, g2 ≠ g → subOf g2 all' = subOf g2 all) : Rel (n + 1) all' (putK g d' D) :=
 ⟨hl, fun g2 => by
  rw [dOf_put]
  by_cases hg : g2 = g
  ·rw [if_pos hg, hg]; exact h1
  ·rw [if_neg hg, h2 g2 hg]; exact h.at_ g2⟩
theorem Rel.up {n : Nat} {all : List KP} {D : List (Bt × DR)} (h : Rel n all D) : Rel (n + 1) all D := ⟨by have := h.len; omega, h.at_⟩
/-- one op, by the program -/
def pS (D : List (Bt × DR)) (o : OP) : AN × List (Bt × DR) :=
 if ((OriS o.2.1).2 != 0) = true then (((OriS o.2.1).2, [], false, []), D) else ((ddoS (dOf D (OriS o.2.1).1) o).1, putK (OriS o.2.1).1 (ddoS (dOf D (OriS o.2.1).1) o).2 D)
theorem split_len (q : KP → Bool) : ∀ l : List KP, (l.filter q).length + (l.filter fun x => !(q x)).length = l.length
 | [] => rfl
 | a :: l => by
  have := split_len q l
  rw [List.filter_cons, List.filter_cons, List.length_cons]
  cases q a <;> simp <;> omega
theorem ddo_1 {d : DR} {o : OP} (h : o.1 = 1) : ddoS d o = dputS d o.2.2.1 o.2.2.2 := by unfold ddoS; rw [h]; rfl
theorem ddo_2 {d : DR} {o : OP} (h : o.1 = 2) : ddoS d o = ((0, (assocK o.2.2.1 d.2.1).getD [], (assocK o.2.2.1 d.2.1).isSome, []), d) := by unfold ddoS; rw [h]; rfl
theorem ddo_3 {d : DR} {o : OP} (h : o.1 = 3) : ddoS d o = ddrpS d o.2.2.1 := by unfold ddoS; rw [h]; rfl
theorem ddo_4 {d : DR} {o : OP} (h : o.1 = 4) : ddoS d o = dempS d := by unfold ddoS; rw [h]; rfl
theorem ddo_5 {d : DR} {o : OP} (h : o.1 = 5) : ddoS d o = ((0, [], false, d.1), d) := by unfold ddoS; rw [h]; rfl
theorem ddo_no {d : DR} {o : OP} (h : rbtM o.1 1 5 = false) : ddoS d o = ((1, [], false, []), d) := by
 unfold rbtM at h
 rw [Bool.and_eq_false_iff, decide_eq_false_iff_not, decide_eq_false_iff_not] at h
 unfold ddoS
 rw [if_neg (by rw [beq_iff_eq]; omega), if_neg (by rw [beq_iff_eq]; omega), if_neg (by rw [beq_iff_eq]; omega), if_neg (by rw [beq_iff_eq]; omega), if_neg (by rw [beq_iff_eq]; omega)]
theorem step_ok {n : Nat} {all : List KP} {D : List (Bt × DR)} (h : Rel n all D) (o : OP) : (opS all o).1 = (pS D o).1 ∧ Rel (n + 1) (opS all o).2 (pS D o).2 := by
 have hO : OriS o.2.1 = if ((parS o.2.1).2 != 0) = true then ([], (parS o.2.1).2) else (gOf o, 0) := by rw [OriS_eq]; rfl
 by_cases he : ((parS o.2.1).2 != 0) = true
 ·rw [if_pos he] at hO
  have hP : pS D o = (((parS o.2.1).2, [], false, []), D) := by
   unfold pS; rw [hO]; exact if_pos he
  rw [hP]
  unfold opS
  rw [if_pos he]
  exact ⟨rfl, h.up⟩
 ·rw [if_neg he] at hO
  have hP : pS D o = ((ddoS (dOf D (gOf o)) o).1, putK (gOf o) (ddoS (dOf D (gOf o)) o).2 D) := by
   unfold pS; rw [hO]; exact if_neg (by show ¬((0 : Int) != 0) = true; decide)
  rw [hP]
  unfold opS
  rw [if_neg he]
  obtain ⟨g, hg⟩ : ∃ g, g = gOf o := ⟨_, rfl⟩
  obtain ⟨k, hk⟩ : ∃ k, k = o.2.2.1 := ⟨_, rfl⟩
  obtain ⟨v, hv⟩ : ∃ v, v = o.2.2.2 := ⟨_, rfl⟩
  rw [← hg]
  dsimp only
  obtain ⟨d, hd⟩ : ∃ d, d = dOf D g := ⟨_, rfl⟩
  rw [← hd]
  have hR : DRel (subOf g all) d := by rw [hd]; exact h.at_ g
  have same : ∀ (r : AN × DR), r.2 = d → Rel (n + 1) all (putK g r.2 D) := fun r hr => h.put (by have := h.len; omega) (by rw [hr]; exact hR) fun _ _ => rfl
  cases hb : rbtM o.1 1 5 with
  | false =>
   rw [if_pos (by rfl), ddo_no hb]
   exact ⟨rfl, same _ rfl⟩
  | true =>
   rw [if_neg (by decide)]
   have hb2 := hb
   unfold rbtM at hb2
   rw [Bool.and_eq_true, decide_eq_true_eq, decide_eq_true_eq] at hb2
   by_cases h5 : o.1 = 5
   ·rw [if_pos (by rw [h5]; rfl), ddo_5 h5]
    refine ⟨?_, same ((0, [], false, d.1), d) rfl⟩
    show ((0 : Int), ([] : Bt), false, (all.filter (own g)).map key) = (0, [], false, d.1)
    rw [hR.keys]; rfl
   ·rw [if_neg (by simpa using h5)]
    by_cases h4 : o.1 = 4
    ·rw [if_pos (by rw [h4]; rfl), ddo_4 h4]
     have hs := split_len (own g) all
     refine ⟨?_, h.put (by show (all.filter fun x => !(own g x)).length ≤ n + 1; have := h.len; omega) ?_ fun g2 hg2 => ?_⟩
     ·show ((0 : Int), ([] : Bt), _, ([] : List Bt)) = (0, [], decide ((d.1.length : Int) > 0), [])
      have e : d.1.length = (all.filter (own g)).length := by rw [hR.keys, List.length_map]; rfl
      rw [e]
      congr 3
      rw [decide_eq_decide]; omega
     ·have e : subOf g (all.filter fun x => !(own g x)) = [] := by
       rw [sub_filter, List.filter_eq_nil_iff]
       intro x hx
       have := (List.mem_filter.1 hx).2
       rw [this]; decide
      rw [e]; exact DRel.nil
     ·rw [sub_filter]
      refine List.filter_eq_self.2 fun x hx => ?_
      have hx2 := (List.mem_filter.1 hx).2
      unfold own at hx2 ⊢
      rw [beq_iff_eq.1 hx2]; simpa using hg2
    ·rw [if_neg (by simpa using h4)]
     have hown := own_hit (g := g) (k := k) (all := all)
     rcases at_first (g := g) (k := k) (v := v) hR.nd with ⟨a1, a2, a3⟩ | ⟨i, x, a0, a1, a2, a3, a4, a5, a6⟩
     ·have hix : ixS all o = none := by unfold ixS; rw [← hg, ← hk]; exact a1
      have hA : ansS all o = (0, [], false, []) := by unfold ansS; rw [hix]
      rw [hA]
      by_cases h1 : o.1 = 1
      ·have hNx : nextS all o = all ++ [(g, k, v)] := by unfold nextS; rw [hix]; dsimp only; rw [if_pos h1, hg, hk, hv]
       rw [hNx, ddo_1 h1, ← hk, ← hv]
       have e : (all ++ [(g, k, v)]).filter (own g) = subOf g all ++ [(g, k, v)] := by
        rw [List.filter_append]
        have : [((g, k, v) : KP)].filter (own g) = [(g, k, v)] := by rw [List.filter_cons, if_pos (show own g (g, k, v) = true from beq_self_eq_true g)]; rfl
        rw [this]; rfl
       rw [e]
       obtain ⟨p1, p2⟩ := put_none (g := g) (v := v) hR a3
       by_cases hs : sz (subOf g all ++ [(g, k, v)]) > 400
       ·rw [if_pos (by rw [h1, decide_eq_true hs]; rfl), p1 hs]
        exact ⟨rfl, same _ rfl⟩
       ·rw [if_neg (by rw [decide_eq_false hs, Bool.and_false]; decide)]
        obtain ⟨d', q1, q2⟩ := p2 hs
        rw [q1]
        refine ⟨rfl, h.put (by show (all ++ [(g, k, v)]).length ≤ _; rw [List.length_append]; have := h.len; simp only [List.length_cons, List.length_nil]; omega) (by show DRel (subOf g (all ++ [(g, k, v)])) d'; unfold subOf at e ⊢; rw [e]; exact q2) fun g2 hg2 => ?_⟩
        show subOf g2 (all ++ [(g, k, v)]) = _
        unfold subOf
        rw [List.filter_append]
        have : [((g, k, v) : KP)].filter (own g2) = [] := by rw [List.filter_cons, if_neg (by unfold own; simpa using fun e2 => hg2 e2.symm)]; rfl
        rw [this, List.append_nil]
      ·have hNx : nextS all o = all := by unfold nextS; rw [hix]; dsimp only; rw [if_neg h1]
       rw [hNx, if_neg (by rw [show (o.1 == 1) = false by simpa using h1, Bool.false_and]; decide)]
       by_cases h3 : o.1 = 3
       ·rw [ddo_3 h3, ← hk, drop_none hR a3]
        exact ⟨rfl, same ((0, [], false, []), d) rfl⟩
       ·rw [ddo_2 (by omega), ← hk]
        have ha : assocK k d.2.1 = none := by rw [hR.texts, a3]; rfl
        rw [ha]
        exact ⟨rfl, same ((0, [], false, []), d) rfl⟩
     ·have hix : ixS all o = some i := by unfold ixS; rw [← hg, ← hk]; exact a1
      subst a2
      have hA : ansS all o = (0, (all.getD i default).2.2, true, []) := by unfold ansS; rw [hix]
      rw [hA]
      by_cases h1 : o.1 = 1
      ·have hNx : nextS all o = all.map (newT g k v) := by unfold nextS; rw [hix]; dsimp only; rw [if_pos h1, ← hv, a5]
       rw [hNx, ddo_1 h1, ← hk, ← hv]
       have e : (all.map (newT g k v)).filter (own g) = (subOf g all).map (newT g k v) := sub_map (g2 := g) all
       rw [e]
       obtain ⟨p1, p2⟩ := put_some (v := v) hR hown a4
       by_cases hs : sz ((subOf g all).map (newT g k v)) > 400
       ·rw [if_pos (by rw [h1, decide_eq_true hs]; rfl), p1 hs]
        exact ⟨rfl, same _ rfl⟩
       ·rw [if_neg (by rw [decide_eq_false hs, Bool.and_false]; decide)]
        obtain ⟨d', q1, q2⟩ := p2 hs
        rw [q1]
        refine ⟨rfl, h.put (by show (all.map (newT g k v)).length ≤ _; rw [List.length_map]; have := h.len; omega) (by show DRel (subOf g (all.map (newT g k v))) d'; rw [sub_map]; exact q2) fun g2 hg2 => ?_⟩
        show subOf g2 (all.map (newT g k v)) = _
        rw [sub_map]
        exact map_id_of (other_hit hg2)
      ·rw [if_neg (by rw [show (o.1 == 1) = false by simpa using h1, Bool.false_and]; decide)]
       by_cases h3 : o.1 = 3
       ·have hNx : nextS all o = all.filter fun y => !(hit g k y) := by unfold nextS; rw [hix]; dsimp only; rw [if_neg h1, if_pos h3, a6]
        rw [hNx, ddo_3 h3, ← hk]
        obtain ⟨d', q1, q2⟩ := drop_some hR a4
        rw [q1]
        have e : subOf g (all.filter fun y => !(hit g k y)) = (subOf g all).filter fun y => !(isK k y) := by
         rw [sub_filter]
         exact List.filter_congr fun y hy => by rw [hown y hy]
        refine ⟨rfl, h.put (by show (all.filter _).length ≤ _; have := h.len; have := List.length_filter_le (fun y => !(hit g k y)) all; omega) (by show DRel (subOf g (all.filter fun y => !(hit g k y))) d'; rw [e]; exact q2) fun g2 hg2 => ?_⟩
        show subOf g2 (all.filter fun y => !(hit g k y)) = _
        rw [sub_filter]
        exact filter_id_of (other_hit hg2)
       ·have hNx : nextS all o = all := by unfold nextS; rw [hix]; dsimp only; rw [if_neg h1, if_neg h3]
        rw [hNx, ddo_2 (by omega), ← hk]
        have ha : assocK k d.2.1 = some (all.getD i default).2.2 := by rw [hR.texts, a4]; rfl
        rw [ha]
        exact ⟨rfl, same ((0, (all.getD i default).2.2, true, []), d) rfl⟩
end
end Go.Proofs.YtdjcgbejnpbjlaaGreatDoor.Sd
