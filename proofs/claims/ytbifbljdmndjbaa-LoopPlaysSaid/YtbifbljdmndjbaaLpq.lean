/- Loops: what stays right. -/
import Derived.Test.YtbifbljdmndjbaaLpe
namespace Go.Proofs.Ytbifbljdmndjbaa.Lo
open Go Go.Eng Go.RowKit
set_option linter.unusedVariables false
theorem lla_perm : ∀ (l : List JT) (t : JT), (llaS l t).Perm (t :: l)
 | [], t => List.Perm.refl _
 | s :: l, t => by
  rw [llaS]
  by_cases h : aft s t = true
  ·rw [if_pos h]
  ·rw [if_neg h]
   exact ((lla_perm l t).cons s).trans (List.Perm.swap t s l)
theorem lla_order : ∀ (l : List JT) (t : JT), l.Pairwise ltT → (∀ x ∈ l, x.1 ≠ t.1) → (llaS l t).Pairwise ltT
 | [], t, _, _ => List.pairwise_singleton _ _
 | s :: l, t, h, hn => by
  rw [List.pairwise_cons] at h
  rw [llaS]
  by_cases ha : aft s t = true
  ·rw [if_pos ha]
   have hts := (aft_iff s t).1 ha
   refine List.pairwise_cons.2 ⟨fun x hx => ?_, List.pairwise_cons.2 h⟩
   rcases List.mem_cons.1 hx with rfl | hx
   ·exact hts
   ·exact ltT_trans hts (h.1 x hx)
  ·rw [if_neg ha]
   refine List.pairwise_cons.2 ⟨fun x hx => ?_, lla_order l t h.2 fun x hx => hn x (List.mem_cons_of_mem _ hx)⟩
   rcases List.mem_cons.1 ((lla_perm l t).mem_iff.1 hx) with rfl | hx
   ·have h1 : ¬ ltT x s := fun hc => ha ((aft_iff s x).2 hc)
    have h2 := hn s (List.mem_cons_self ..)
    unfold ltT at *; omega
   ·exact h.1 x hx
theorem lla_len' (l : List JT) (t : JT) : (llaS l t).length = l.length + 1 := (lla_perm l t).length_eq
theorem nums_eq (q : JL) : lnuS q = q.2.2.1.map (·.1) ++ q.2.2.2.1.map (·.1) ++ q.2.2.2.2.map (·.1) := by
 unfold lnuS; simp
/-- one number more -/
theorem more {q q' : JL} (g : GQ q) (hn : q'.2.1 = q.2.1 + 1) (hp : (lnuS q').Perm (q.2.1 :: lnuS q)) : (∀ x ∈ lnuS q', 0 ≤ x ∧ x < q'.2.1) ∧ (lnuS q').Nodup := by
 have h0 := g.next
 refine ⟨fun x hx => ?_, hp.nodup_iff.2 (List.nodup_cons.2 ⟨fun hc => ?_, g.once⟩)⟩
 ·rw [hn]
  rcases List.mem_cons.1 (hp.mem_iff.1 hx) with rfl | hx
  ·omega
  ·have := g.ids x hx; omega
 ·have := g.ids _ hc; omega
/-- none more -/
theorem less {q q' : JL} {l : List Int} (g : GQ q) (hn : q'.2.1 = q.2.1) (hp : (lnuS q').Perm l) (hs : List.Sublist l (lnuS q)) : (∀ x ∈ lnuS q', 0 ≤ x ∧ x < q'.2.1) ∧ (lnuS q').Nodup := by
 refine ⟨fun x hx => ?_, hp.nodup_iff.2 (hs.nodup g.once)⟩
 rw [hn]; exact g.ids x (hs.subset (hp.mem_iff.1 hx))
theorem zero_ok : lchS zeroL = 0 := lch_ryt (by unfold big; simp) ⟨by decide, by decide, fun x hx => by rw [nums_eq] at hx; simp at hx, by rw [nums_eq]; simp, fun x hx => (List.not_mem_nil hx).elim, fun x hx => (List.not_mem_nil hx).elim, fun x hx => (List.not_mem_nil hx).elim, List.Pairwise.nil⟩
theorem full_no {n : Nat} {q : JL} (g : GQ q) (h : fullB n q = false) : n < 100 ∧ q.2.1 < 1000000000 := by
 unfold fullB at h
 have hn := g.next
 rw [Bool.or_eq_false_iff, decide_eq_false_iff_not, beq_eq_false_iff_ne] at h
 omega
theorem tm_keep {q : JL} {a : JK} {low every : Int} (hb : ¬ big q) (g : GQ q) (hl : 0 ≤ low) (hev : every = 0 ∨ every = a.2.2.1) (he : (tmR q a low every).2.2 = 0) : lchS (tmR q a low every).1 = 0 := by
 unfold tmR at he ⊢
 by_cases h1 : tmB q a low = true
 ·rw [if_pos h1] at he; cases he
 ·rw [if_neg h1] at he ⊢
  by_cases h2 : fullB q.2.2.2.2.length q = true
  ·rw [if_pos h2] at he; cases he
  ·rw [if_neg h2]
   have h2 : fullB q.2.2.2.2.length q = false := by simpa using h2
   obtain ⟨hlen, hnx⟩ := full_no g h2
   have h1 : tmB q a low = false := by simpa using h1
   unfold tmB at h1
   rw [Bool.or_eq_false_iff, decide_eq_false_iff_not] at h1
   have hN := nlwi_no h1.1
   have hnow := g.now
   have hnext := g.next
   have hM := more (q' := (q.1, q.2.1 + 1, q.2.2.1, q.2.2.2.1, llaS q.2.2.2.2 (q.2.1, q.1 + a.2.2.1, every, 0, a.2.2.2.1))) g rfl (by
    rw [nums_eq, nums_eq]
    refine (List.Perm.append_left _ ((lla_perm _ _).map _)).trans ?_
    rw [List.map_cons]
    exact List.perm_middle)
   refine lch_ryt (fun hbig => ?_) ⟨g.now, ?_, hM.1, hM.2, g.tasks, g.smalls, fun t ht => ?_, lla_order _ _ g.order fun x hx => ids_tim g x hx⟩
   ·unfold big at hb hbig
    have hll := lla_len' q.2.2.2.2 (q.2.1, q.1 + a.2.2.1, every, 0, a.2.2.2.1)
    rcases hbig with h | h | h
    ·exact hb (.inl h)
    ·exact hb (.inr (.inl h))
    ·have h : 100 < (llaS q.2.2.2.2 (q.2.1, q.1 + a.2.2.1, every, 0, a.2.2.2.1)).length := h
     omega
   ·show 0 ≤ q.2.1 + 1 ∧ q.2.1 + 1 ≤ 1000000000
    omega
   ·rcases List.mem_cons.1 ((lla_perm _ _).mem_iff.1 ht) with rfl | ht
    ·show (q.1 ≤ q.1 + a.2.2.1 ∧ q.1 + a.2.2.1 ≤ 1000000000) ∧ (0 ≤ every ∧ every ≤ 1000000000) ∧ (0 : Int) ≤ 0 ∧ (0 : Int) ≤ 1000000000
     omega
    ·exact g.timers t ht
theorem ra_keep {q : JL} {a : JK} (hz : lchS q = 0) (he : (raS q a).2.2 = 0) : lchS (raS q a).1 = 0 := by
 obtain ⟨hb, g⟩ := lch_zero hz
 have hnow := g.now
 have hnext := g.next
 unfold raS at he ⊢
 by_cases d1 : (a.1 == 1) = true
 ·rw [if_pos d1] at he ⊢
  by_cases h1 : (!(lwiM a.2.1 1 4)) = true
  ·rw [if_pos h1] at he; cases he
  ·rw [if_neg h1] at he ⊢
   by_cases h2 : fullB q.2.2.1.length q = true
   ·rw [if_pos h2] at he; cases he
   ·rw [if_neg h2]
    have h2 : fullB q.2.2.1.length q = false := by simpa using h2
    obtain ⟨hlen, hnx⟩ := full_no g h2
    have hN := nlwi_no (x := a.2.1) (a := 1) (b := 4) (by simpa using h1)
    have hM := more (q' := (q.1, q.2.1 + 1, q.2.2.1 ++ [(q.2.1, a.2.1, false, a.2.2.2.1, a.2.2.2.2)], q.2.2.2.1, q.2.2.2.2)) g rfl (by
     rw [nums_eq, nums_eq]
     show (((q.2.2.1 ++ ([(q.2.1, a.2.1, false, a.2.2.2.1, a.2.2.2.2)] : List JJ)).map (·.1)) ++ q.2.2.2.1.map (·.1) ++ q.2.2.2.2.map (·.1)).Perm _
     have e : ((q.2.2.1 ++ ([(q.2.1, a.2.1, false, a.2.2.2.1, a.2.2.2.2)] : List JJ)).map (·.1)) ++ q.2.2.2.1.map (·.1) ++ q.2.2.2.2.map (·.1) = q.2.2.1.map (·.1) ++ q.2.1 :: (q.2.2.2.1.map (·.1) ++ q.2.2.2.2.map (·.1)) := by simp
     rw [e, List.append_assoc]
     exact List.perm_middle)
    refine lch_ryt (fun hbig => ?_) ⟨g.now, ?_, hM.1, hM.2, fun j hj => ?_, g.smalls, g.timers, g.order⟩
    ·unfold big at hb hbig
     rcases hbig with h | h | h
     ·have h : 100 < (q.2.2.1 ++ [(q.2.1, a.2.1, false, a.2.2.2.1, a.2.2.2.2)]).length := h
      rw [List.length_append, List.length_singleton] at h; omega
     ·exact hb (.inr (.inl h))
     ·exact hb (.inr (.inr h))
    ·show 0 ≤ q.2.1 + 1 ∧ q.2.1 + 1 ≤ 1000000000
     omega
    ·rcases List.mem_append.1 hj with hj | hj
     ·exact g.tasks j hj
     ·rw [List.mem_singleton] at hj; subst hj
      exact ⟨hN, rfl⟩
 ·rw [if_neg d1] at he ⊢
  by_cases d2 : (a.1 == 2) = true
  ·rw [if_pos d2] at he ⊢
   by_cases h2 : fullB q.2.2.2.1.length q = true
   ·rw [if_pos h2] at he; cases he
   ·rw [if_neg h2]
    have h2 : fullB q.2.2.2.1.length q = false := by simpa using h2
    obtain ⟨hlen, hnx⟩ := full_no g h2
    have hM := more (q' := (q.1, q.2.1 + 1, q.2.2.1, q.2.2.2.1 ++ [(q.2.1, 0, true, a.2.2.2.1, a.2.2.2.2)], q.2.2.2.2)) g rfl (by
     rw [nums_eq, nums_eq]
     show (q.2.2.1.map (·.1) ++ ((q.2.2.2.1 ++ ([(q.2.1, 0, true, a.2.2.2.1, a.2.2.2.2)] : List JJ)).map (·.1)) ++ q.2.2.2.2.map (·.1)).Perm _
     have e : q.2.2.1.map (·.1) ++ ((q.2.2.2.1 ++ ([(q.2.1, 0, true, a.2.2.2.1, a.2.2.2.2)] : List JJ)).map (·.1)) ++ q.2.2.2.2.map (·.1) = (q.2.2.1.map (·.1) ++ q.2.2.2.1.map (·.1)) ++ q.2.1 :: q.2.2.2.2.map (·.1) := by simp
     rw [e]
     exact List.perm_middle)
    refine lch_ryt (fun hbig => ?_) ⟨g.now, ?_, hM.1, hM.2, g.tasks, fun j hj => ?_, g.timers, g.order⟩
    ·unfold big at hb hbig
     rcases hbig with h | h | h
     ·exact hb (.inl h)
     ·have h : 100 < (q.2.2.2.1 ++ [(q.2.1, 0, true, a.2.2.2.1, a.2.2.2.2)]).length := h
      rw [List.length_append, List.length_singleton] at h; omega
     ·exact hb (.inr (.inr h))
    ·show 0 ≤ q.2.1 + 1 ∧ q.2.1 + 1 ≤ 1000000000
     omega
    ·rcases List.mem_append.1 hj with hj | hj
     ·exact g.smalls j hj
     ·rw [List.mem_singleton] at hj; subst hj
      exact ⟨rfl, rfl⟩
  ·rw [if_neg d2] at he ⊢
   by_cases d3 : (a.1 == 3) = true
   ·rw [if_pos d3] at he ⊢; exact tm_keep hb g (by omega) (.inl rfl) he
   ·rw [if_neg d3] at he ⊢
    by_cases d4 : (a.1 == 4) = true
    ·rw [if_pos d4] at he ⊢; exact tm_keep hb g (by omega) (.inr rfl) he
    ·rw [if_neg d4] at he ⊢
     by_cases d5 : (a.1 == 5) = true
     ·rw [if_pos d5] at he ⊢
      by_cases h2 : (q.2.2.2.2.filter (fun t => t.1 != a.2.2.1)).length = q.2.2.2.2.length
      ·rw [if_pos h2] at he; cases he
      ·rw [if_neg h2]
       have hsub : List.Sublist (q.2.2.2.2.filter (fun t => t.1 != a.2.2.1)) q.2.2.2.2 := List.filter_sublist
       have hM := less (q' := (q.1, q.2.1, q.2.2.1, q.2.2.2.1, q.2.2.2.2.filter (fun t => t.1 != a.2.2.1))) g rfl (List.Perm.refl _) (by
        rw [nums_eq, nums_eq]
        exact List.Sublist.append (List.Sublist.refl _) (hsub.map _))
       refine lch_ryt (fun hbig => ?_) ⟨g.now, g.next, hM.1, hM.2, g.tasks, g.smalls, fun t ht => g.timers t (hsub.subset ht), g.order.sublist hsub⟩
       unfold big at hb hbig
       have hf := hsub.length_le
       rcases hbig with h | h | h
       ·exact hb (.inl h)
       ·exact hb (.inr (.inl h))
       ·have h : 100 < (q.2.2.2.2.filter (fun t => t.1 != a.2.2.1)).length := h
        exact hb (.inr (.inr (by omega)))
     ·rw [if_neg d5] at he; cases he
theorem rn_keep {q : JL} {u : Int} (hz : lchS q = 0) (hu : q.1 ≤ u ∧ u ≤ 1000000000) : lchS (rnS q u).1 = 0 ∧ (rnS q u).1.1 ≤ u := by
 obtain ⟨hb, g⟩ := lch_zero hz
 have hnow := g.now
 have hnext := g.next
 unfold rnS
 by_cases c1 : decide ((q.2.2.2.1.length : Int) > 0) = true
 ·rw [if_pos c1]
  refine ⟨?_, hu.1⟩
  have hsub : List.Sublist (q.2.2.2.1.drop 1) q.2.2.2.1 := List.drop_sublist ..
  have hM := less (q' := (q.1, q.2.1, q.2.2.1, q.2.2.2.1.drop 1, q.2.2.2.2)) g rfl (List.Perm.refl _) (by
   rw [nums_eq, nums_eq]
   exact List.Sublist.append (List.Sublist.append (List.Sublist.refl _) (hsub.map _)) (List.Sublist.refl _))
  refine lch_ryt (fun hbig => ?_) ⟨g.now, g.next, hM.1, hM.2, g.tasks, fun j hj => g.smalls j (hsub.subset hj), g.timers, g.order⟩
  have hf := hsub.length_le
  rcases hbig with h | h | h
  ·exact hb (.inl h)
  ·have h : 100 < (q.2.2.2.1.drop 1).length := h
   exact hb (.inr (.inl (by omega)))
  ·exact hb (.inr (.inr h))
 ·rw [if_neg c1]
  by_cases c2 : dueB q u = true
  ·rw [if_pos c2]
   unfold dueB at c2
   rw [Bool.and_eq_true, Bool.or_eq_true, Bool.and_eq_true, decide_eq_true_eq, decide_eq_true_eq, decide_eq_true_eq] at c2
   obtain ⟨hl, hat⟩ := c2
   have hl : 0 < q.2.2.2.2.length := by omega
   have hT := g.timers _ (mem_getD default hl)
   have hor := g.order
   have hcons : q.2.2.2.2 = q.2.2.2.2.getD 0 default :: q.2.2.2.2.drop 1 := by
    have := drop_get (k := 0) default hl
    rw [List.drop_zero] at this; exact this
   have hd := drop_ok g hl
   unfold fireR
   generalize ht : q.2.2.2.2.getD 0 default = t at *
   have hfst : ∀ x ∈ q.2.2.2.2.drop 1, ltT t x := by
    rw [hcons, List.pairwise_cons] at hor
    rw [List.drop_one] at hor ⊢
    exact fun x hx => hor.1 x (by simpa using hx)
   have hnw : (if q.1 < t.2.1 then t.2.1 else q.1) = t.2.1 := by split <;> omega
   rw [hnw]
   refine ⟨?_, by show t.2.1 ≤ u; omega⟩
   have hsub : List.Sublist (q.2.2.2.2.drop 1) q.2.2.2.2 := List.drop_sublist ..
   have hf : (q.2.2.2.2.drop 1).length + 1 = q.2.2.2.2.length := by rw [List.length_drop]; omega
   have tks : ∀ {n : Int} (x : JT), x ∈ q.2.2.2.2.drop 1 → t.2.1 ≤ x.2.1 := fun x hx => by
    have := hfst x hx; unfold ltT at this; omega
   have old : ∀ x ∈ q.2.2.2.2.drop 1, (t.2.1 ≤ x.2.1 ∧ x.2.1 ≤ 1000000000) ∧ (0 ≤ x.2.2.1 ∧ x.2.2.1 ≤ 1000000000) ∧ 0 ≤ x.2.2.2.1 ∧ x.2.2.2.1 ≤ 1000000000 := fun x hx => by
    have h1 := g.timers x (hsub.subset hx)
    have h2 := hfst x hx
    unfold ltT at h2
    omega
   cases hag : agB t with
   | true =>
    rw [if_t rfl]
    unfold agB at hag
    rw [Bool.and_eq_true, Bool.and_eq_true, decide_eq_true_eq, decide_eq_true_eq, decide_eq_true_eq] at hag
    have hM := less (q' := (t.2.1, q.2.1, q.2.2.1, q.2.2.2.1, llaS (q.2.2.2.2.drop 1) (agT t))) (l := lnuS q) g rfl (by
     rw [nums_eq, nums_eq]
     refine List.Perm.append_left _ (((lla_perm _ _).map _).trans ?_)
     have : q.2.2.2.2.map (·.1) = ((agT t) :: q.2.2.2.2.drop 1).map (·.1) := by
      conv => lhs; rw [hcons]
      rfl
     rw [this]) (List.Sublist.refl _)
    refine lch_ryt (fun hbig => ?_) ⟨?_, g.next, hM.1, hM.2, g.tasks, g.smalls, fun x hx => ?_, lla_order _ _ hd.1 fun x hx => hd.2 x hx⟩
    ·have hll := lla_len' (q.2.2.2.2.drop 1) (agT t)
     rcases hbig with h | h | h
     ·exact hb (.inl h)
     ·exact hb (.inr (.inl h))
     ·have h : 100 < (llaS (q.2.2.2.2.drop 1) (agT t)).length := h
      exact hb (.inr (.inr (by omega)))
    ·show 0 ≤ t.2.1 ∧ t.2.1 ≤ 1000000000
     omega
    ·rcases List.mem_cons.1 ((lla_perm _ _).mem_iff.1 hx) with rfl | hx
     ·show (t.2.1 ≤ t.2.1 + t.2.2.1 ∧ t.2.1 + t.2.2.1 ≤ 1000000000) ∧ (0 ≤ t.2.2.1 ∧ t.2.2.1 ≤ 1000000000) ∧ 0 ≤ t.2.2.2.1 + 1 ∧ t.2.2.2.1 + 1 ≤ 1000000000
      omega
     ·exact old x hx
   | false =>
    rw [if_f rfl]
    have hM := less (q' := (t.2.1, q.2.1, q.2.2.1, q.2.2.2.1, q.2.2.2.2.drop 1)) g rfl (List.Perm.refl _) (by
     rw [nums_eq, nums_eq]
     exact List.Sublist.append (List.Sublist.refl _) (hsub.map _))
    refine lch_ryt (fun hbig => ?_) ⟨?_, g.next, hM.1, hM.2, g.tasks, g.smalls, fun x hx => old x hx, hd.1⟩
    ·rcases hbig with h | h | h
     ·exact hb (.inl h)
     ·exact hb (.inr (.inl h))
     ·have h : 100 < (q.2.2.2.2.drop 1).length := h
      exact hb (.inr (.inr (by omega)))
    ·show 0 ≤ t.2.1 ∧ t.2.1 ≤ 1000000000
     omega
  ·rw [if_neg c2]
   by_cases c3 : decide ((q.2.2.1.length : Int) > 0) = true
   ·rw [if_pos c3]
    refine ⟨?_, hu.1⟩
    have hsub : List.Sublist (q.2.2.1.drop 1) q.2.2.1 := List.drop_sublist ..
    have hM := less (q' := (q.1, q.2.1, q.2.2.1.drop 1, q.2.2.2.1, q.2.2.2.2)) g rfl (List.Perm.refl _) (by
     rw [nums_eq, nums_eq]
     exact List.Sublist.append (List.Sublist.append (hsub.map _) (List.Sublist.refl _)) (List.Sublist.refl _))
    refine lch_ryt (fun hbig => ?_) ⟨g.now, g.next, hM.1, hM.2, fun j hj => g.tasks j (hsub.subset hj), g.smalls, g.timers, g.order⟩
    have hf := hsub.length_le
    rcases hbig with h | h | h
    ·have h : 100 < (q.2.2.1.drop 1).length := h
     exact hb (.inl (by omega))
    ·exact hb (.inr (.inl h))
    ·exact hb (.inr (.inr h))
   ·rw [if_neg c3]
    refine ⟨?_, Int.le_refl u⟩
    have hM := less (q' := (u, q.2.1, q.2.2.1, q.2.2.2.1, q.2.2.2.2)) g rfl (List.Perm.refl _) (by rw [nums_eq, nums_eq]; exact List.Sublist.refl _)
    refine lch_ryt hb ⟨by show 0 ≤ u ∧ u ≤ 1000000000; omega, g.next, hM.1, hM.2, g.tasks, g.smalls, fun x hx => ?_, g.order⟩
    have hT := g.timers x hx
    refine ⟨⟨?_, hT.1.2⟩, hT.2⟩
    show u ≤ x.2.1
    have c3 : ¬ (q.2.2.1.length : Int) > 0 := fun h => c3 (decide_eq_true h)
    have c2 : dueB q u = false := by simpa using c2
    cases hl : q.2.2.2.2 with
    | nil => rw [hl] at hx; exact (List.not_mem_nil hx).elim
    | cons t l =>
     have hor := g.order
     unfold dueB at c2
     rw [hl] at c2 hor hx
     have h1 : ¬ t.2.1 ≤ u := fun hc => by
      have h3 : ((q.2.2.1.length : Int) == 0) = true := by rw [beq_iff_eq]; omega
      have h4 : decide (((t :: l).getD 0 default).2.1 ≤ u) = true := decide_eq_true hc
      rw [h3, h4] at c2
      simp at c2
     rw [List.pairwise_cons] at hor
     rcases List.mem_cons.1 hx with rfl | hx
     ·omega
     ·have := hor.1 x hx; unfold ltT at this; omega
def runP : Nat → JL → Int → List JJ → List JJ × JL
 | 0, q, _, out => (out, q)
 | n + 1, q, u, out => if (rnS q u).2.2 = true then runP n (rnS q u).1 u (out ++ [(rnS q u).2.1]) else (out, (rnS q u).1)
def ply (s : List JJ × JL) (a : JK) : List JJ × JL :=
 if (a.1 != 6) = true then (if ((raS s.2 a).2.2 == 0) = true then (s.1, (raS s.2 a).1) else s)
 else if (lwiM a.2.2.1 0 1000000 && decide (s.2.1 + a.2.2.1 ≤ 1000000000)) = true then runP (300 - s.1.length) s.2 (s.2.1 + a.2.2.1) s.1 else s
def plyS (l : List JK) : List JJ × JL := l.foldl ply ([], zeroL)
def good (s : List JJ × JL) : Prop := lchS s.2 = 0 ∧ s.1.length ≤ 300
theorem run_good : ∀ (n : Nat) (q : JL) (u : Int) (out : List JJ), lchS q = 0 → q.1 ≤ u ∧ u ≤ 1000000000 → out.length + n ≤ 300 → good (runP n q u out)
 | 0, q, u, out, hz, _, hl => ⟨hz, hl⟩
 | n + 1, q, u, out, hz, hu, hl => by
  have hk := rn_keep hz hu
  rw [runP]
  by_cases h : (rnS q u).2.2 = true
  ·rw [if_pos h]
   exact run_good n _ u _ hk.1 ⟨hk.2, hu.2⟩ (by rw [List.length_append, List.length_singleton]; omega)
  ·rw [if_neg h]; exact ⟨hk.1, by show out.length ≤ 300; omega⟩
theorem ply_good (s : List JJ × JL) (a : JK) (h : good s) : good (ply s a) := by
 unfold ply
 by_cases h1 : (a.1 != 6) = true
 ·rw [if_pos h1]
  by_cases h2 : ((raS s.2 a).2.2 == 0) = true
  ·rw [if_pos h2]; exact ⟨ra_keep h.1 (eq_of_beq h2), h.2⟩
  ·rw [if_neg h2]; exact h
 ·rw [if_neg h1]
  by_cases h2 : (lwiM a.2.2.1 0 1000000 && decide (s.2.1 + a.2.2.1 ≤ 1000000000)) = true
  ·rw [if_pos h2]
   rw [Bool.and_eq_true, lwi_iff, decide_eq_true_eq] at h2
   have := h.2
   exact run_good _ _ _ _ h.1 (by omega) (by omega)
  ·rw [if_neg h2]; exact h
theorem fold_good : ∀ (l : List JK) (s : List JJ × JL), good s → good (l.foldl ply s)
 | [], s, h => h
 | a :: l, s, h => fold_good l _ (ply_good s a h)
theorem zero_good : good ([], zeroL) := ⟨zero_ok, Nat.zero_le _⟩
theorem play_good (l : List JK) : good (plyS l) := fold_good l _ zero_good
end Go.Proofs.Ytbifbljdmndjbaa.Lo
