/- Code: the document's check of a function answers as the checker. -/
import Derived.Test.YtanhbfhpnjjgcaaDoorCck
namespace Go.Proofs.YtanhbfhpnjjgcaaDoor.Cc
open Go Go.Eng Go.RowKit Fl
set_option linter.unusedVariables false
noncomputable section
section
variable {p : JP} {f : JF} {own : Int} {K : Bool → Prop}
theorem swp (hn : f.2.2.2.length ≤ 8000) (hK : ¬RightF p f own → K false) (hC : CodeOk p f) {C91 : Bool → List AT → Prop} : ∀ (d k : Nat) (more : Bool) (L : List AT), k + d = f.2.2.2.length → Ir p f own L → (more = false → ∀ j < k, (L.getD j default).1 = true → Closed p f own L j) →
  (∀ more' L', Good p f own more L more' L' → (more' = false → ∀ j < f.2.2.2.length, (L'.getD j default).1 = true → Closed p f own L' j) → C91 more' L') → fnrl104 p own K f C91 (d + 1) more (k : Int) L := by
 intro d
 induction d with
 | zero =>
  intro k more L hk I hc hA
  refine ⟨fun h => by have := of_decide_eq_true h; omega, fun _ => hA more L ⟨I, fun _ _ => rfl, .inr ⟨rfl, rfl⟩⟩ fun hm j hj => hc hm j (by omega)⟩
 | succ d ih =>
  intro k more L hk I hc hA
  have hw : w6 ((k : Int) + 1) = ((k + 1 : Nat) : Int) := by rw [w64 (by omega)]; omega
  refine sweep1 (C := fnrl104 p own K f C91 (d + 1)) hn hK hC (by omega) I (fun h0 => ?_) fun hkn more' L' hG hcl => ?_
  ·rw [hw]
   refine ih (k + 1) more L (by omega) I (fun hm j hj hjk => ?_) hA
   by_cases hjk2 : j = k
   ·subst hjk2; rw [h0] at hjk; cases hjk
   ·exact hc hm j (by omega) hjk
  ·rw [hw]
   refine ih (k + 1) more' L' (by omega) hG.toIr (fun hm j hj hjk => ?_) fun more'' L'' hG2 h2 => hA more'' L'' (hG.trans hG2) h2
   by_cases hjk2 : j = k
   ·subst hjk2; exact hcl
   ·rcases hG.how with ⟨h1, _⟩ | ⟨h1, h2⟩
    ·rw [h1] at hm; cases hm
    ·rw [h2] at hjk ⊢
     exact hc (by rw [← h1]; exact hm) j (by omega) hjk
theorem closed_right {L : List AT} (hn : 0 < f.2.2.2.length) (h0 : L.getD 0 default = (true, 0, [])) (hc : ∀ j < f.2.2.2.length, (L.getD j default).1 = true → Closed p f own L j) : RightF p f own := by
 have key : ∀ a s, Rc p f own a s → 0 ≤ a ∧ a < f.2.2.2.length ∧ (L.getD a.toNat default).1 = true ∧ stA (L.getD a.toNat default) = s := fun a s hr => by
  induction hr with
  | start => exact ⟨by omega, by omega, by show (L.getD 0 default).1 = true; rw [h0], by show stA (L.getD 0 default) = _; rw [h0]; rfl⟩
  | @step a s l x h1 h2 h3 ih =>
   obtain ⟨i1, i2, i3, i4⟩ := ih
   obtain ⟨l2, g1, g2⟩ := hc a.toNat (by omega) i3
   rw [Int.toNat_of_nonneg i1, i4, h2] at g1
   cases g1
   exact g2 x h3
 refine ⟨fun a s hr hx => ?_, fun a s t h1 h2 => ?_⟩
 ·obtain ⟨i1, i2, i3, i4⟩ := key a s hr
  obtain ⟨l2, g1, g2⟩ := hc a.toNat (by omega) i3
  rw [Int.toNat_of_nonneg i1, i4, hx] at g1
  cases g1
 ·rw [← (key a s h1).2.2.2, ← (key a t h2).2.2.2]
theorem outr (hn : f.2.2.2.length ≤ 8000) (hn0 : 0 < f.2.2.2.length) (hK : ¬RightF p f own → K false) (hT : RightF p f own → K true) (hC : CodeOk p f) : ∀ (d : Nat) (L : List AT), unk f.2.2.2.length L ≤ d → Ir p f own L → L.getD 0 default = (true, 0, []) → fnrl91 p own K f (d + 2) true L := by
 intro d
 induction d with
 | zero =>
  intro L hd I h0
  refine ⟨fun _ => ⟨f.2.2.2.length + 1, ?_⟩, fun h => by cases h⟩
  refine swp (C91 := fnrl91 p own K f 1) hn hK hC f.2.2.2.length 0 false L (by omega) I (fun _ j hj => by omega) fun more' L' hG hc => ?_
  rcases hG.how with ⟨h1, h2⟩ | ⟨h1, h2⟩
  ·omega
  ·subst h1
   exact ⟨fun h => (by cases h), fun _ => hT (closed_right hn0 (by rw [h2]; exact h0) (hc rfl))⟩
 | succ d ih =>
  intro L hd I h0
  refine ⟨fun _ => ⟨f.2.2.2.length + 1, ?_⟩, fun h => by cases h⟩
  refine swp (C91 := fnrl91 p own K f (d + 2)) hn hK hC f.2.2.2.length 0 false L (by omega) I (fun _ j hj => by omega) fun more' L' hG hc => ?_
  have h0' : L'.getD 0 default = (true, 0, []) := by rw [hG.keep 0 (by rw [h0]), h0]
  rcases hG.how with ⟨h1, h2⟩ | ⟨h1, h2⟩
  ·subst h1
   exact ih L' (by omega) hG.toIr h0'
  ·subst h1
   exact ⟨fun h => (by cases h), fun _ => hT (closed_right hn0 h0' (hc rfl))⟩
end
set_option maxHeartbeats 2000000 in
theorem most_ok (p : JP) (f : JF) (own d A : Int) (m : List (Int × ST)) (q : List Int) (b : Bool) : ∀ M : List (Int × Int), M = putK 24 (f.2.2.2.length : Int) (putK 20 (f.2.2.2.length : Int) (putK 17 401 (putK 16 (p.1.length : Int) (putK 13 (p.2.2.length : Int) (putK 12 401 (putK 10 (f.2.2.2.length : Int) (putK 9 (f.2.2.2.length : Int) (putK 8 11 (putK 7 2 (putK 5 f.2.1 (putK 4 f.2.1 (putK 3 f.2.1 (putK 2 f.2.1 (putK 1 (p.2.1.length : Int) ([] : List (Int × Int)))))))))))))))) →
  (∀ e, assocK d M = some e → e = bndN (p, f, own, m, q, b) (d, A)) ∧ (assocK d M = none → (1 : Int) = bndN (p, f, own, m, q, b) (d, A)) := by
 intro M hM
 have key : (match assocK d M with | some e => e | none => 1) = bndN (p, f, own, m, q, b) (d, A) := by
  by_cases h : d = 24 ∨ d = 20 ∨ d = 17 ∨ d = 16 ∨ d = 13 ∨ d = 12 ∨ d = 10 ∨ d = 9 ∨ d = 8 ∨ d = 7 ∨ d = 5 ∨ d = 4 ∨ d = 3 ∨ d = 2 ∨ d = 1
  ·rcases h with h | h | h | h | h | h | h | h | h | h | h | h | h | h | h <;> (subst h; subst hM; kernel_rfl)
  ·simp only [not_or] at h
   obtain ⟨h1, h2, h3, h4, h5, h6, h7, h8, h9, h10, h11, h12, h13, h14, h15⟩ := h
   have e1 : assocK d M = none := by
    rw [hM]
    simp only [assocK_put, beq_eq_false_iff_ne.2 h1, beq_eq_false_iff_ne.2 h2, beq_eq_false_iff_ne.2 h3, beq_eq_false_iff_ne.2 h4, beq_eq_false_iff_ne.2 h5, beq_eq_false_iff_ne.2 h6, beq_eq_false_iff_ne.2 h7, beq_eq_false_iff_ne.2 h8, beq_eq_false_iff_ne.2 h9, beq_eq_false_iff_ne.2 h10, beq_eq_false_iff_ne.2 h11, beq_eq_false_iff_ne.2 h12, beq_eq_false_iff_ne.2 h13, beq_eq_false_iff_ne.2 h14, beq_eq_false_iff_ne.2 h15, Bool.false_eq_true, if_false, assocK]
   rw [e1]
   unfold bndN bndV0 bndV1
   simp only [beq_eq_false_iff_ne.2 h1, beq_eq_false_iff_ne.2 h2, beq_eq_false_iff_ne.2 h3, beq_eq_false_iff_ne.2 h4, beq_eq_false_iff_ne.2 h5, beq_eq_false_iff_ne.2 h6, beq_eq_false_iff_ne.2 h7, beq_eq_false_iff_ne.2 h8, beq_eq_false_iff_ne.2 h9, beq_eq_false_iff_ne.2 h10, beq_eq_false_iff_ne.2 h11, beq_eq_false_iff_ne.2 h12, beq_eq_false_iff_ne.2 h13, beq_eq_false_iff_ne.2 h14, beq_eq_false_iff_ne.2 h15, Bool.or_false, Bool.false_eq_true, if_false]
 exact ⟨fun e he => by rw [he] at key; exact key, fun he => by rw [he] at key; exact key⟩
section
variable {p : JP} {f : JF} {own : Int} {K : Bool → Prop}
theorem cap_eq {c : CK} {s : Int} (h0 : 0 ≤ c.2.1.2.1) (h1 : c.2.1.2.1 ≤ 400) : rbtM s 0 (w6 (c.2.1.2.1 - 1)) = capC c s := by
 rw [w64 (by omega)]
 unfold rbtM capC
 rw [Bool.eq_iff_iff]
 simp only [Bool.and_eq_true, Bool.not_eq_true', decide_eq_true_eq, decide_eq_false_iff_not]
 omega
theorem V1_eq {c : CK} {i : Int × Int} {x : Int} {b : Bool} (hm : (if (!b) = true then 1 else x) = bndN c i) (h0 : 0 ≤ bndN c i) (h1 : bndN c i ≤ 8000) : fnrV1 i x b = frmV1 c i := by
 unfold fnrV1
 rw [hm, w64 (by omega)]
 unfold frmV1 rbtM
 rw [Bool.eq_iff_iff]
 simp only [Bool.or_eq_true, Bool.not_eq_true', Bool.and_eq_false_iff, decide_eq_true_eq, decide_eq_false_iff_not]
 omega
theorem caps {c : CK} {i : Int × Int} {x : Int} {C : Int → Prop} {g : JF} (hf : c.2.1 = f) (h0 : 0 ≤ f.2.1) (h1 : f.2.1 ≤ 400) (hg : g = c.1.1.getD (Int.toNat i.2) default) (hl : g.2.2.1.length ≤ 4611686018427387904) (h16 : (i.1 == 16) = true) (hV : frmV1 c i = false)
  (hb : insC c i = false → K false) (hgd : insC c i = true → C (w6 (x + 1))) : ∀ (k q : Nat), q + k = g.2.2.1.length → g.2.2.1.all (capC c) = (g.2.2.1.drop q).all (capC c) → fnrl55 K f i x C g (k + 1) (q : Int) := by
 have hi : insC c i = ((i.2 != 0) && g.2.2.1.all (capC c)) := by unfold insC; rw [hV, h16, hg]; rfl
 intro k
 induction k with
 | zero =>
  intro q h2 he
  refine ⟨fun h => by have := of_decide_eq_true h; omega, fun _ => ⟨fun h3 => hb (by rw [hi]; simp only [bne, h3]; rfl), fun h3 => hgd ?_⟩⟩
  rw [hi, he, List.drop_of_length_le (by omega)]
  simp only [bne, h3]; rfl
 | succ k ih =>
  intro q h2 he
  have hq : q < g.2.2.1.length := by omega
  rw [drop_get (l := g.2.2.1) default hq, List.all_cons] at he
  refine ⟨fun _ => ⟨by omega, by omega, ?_⟩, fun h => by have := of_decide_eq_false h; omega⟩
  rw [Int.toNat_natCast, ← hf, cap_eq (by rw [hf]; exact h0) (by rw [hf]; exact h1), hf]
  refine ⟨fun h => hb ?_, fun h => ?_⟩
  ·have h : capC c (g.2.2.1.getD q default) = false := by simpa using h
   rw [hi, he, h]; simp
  ·have h : capC c (g.2.2.1.getD q default) = true := by simpa using h
   rw [w64 (by omega)]
   exact ih (q + 1) (by omega) (by rw [he, h]; rfl)
/-- what is known of a program whose functions are asked -/
structure FnP (p : JP) (f : JF) : Prop where
 code : f.2.2.2.length ≤ 8000
 slots : f.2.1 ≤ 400
 funcs : p.1.length ≤ 400
 consts : p.2.1.length ≤ 400
 shapes : p.2.2.length ≤ 400
 caught : ∀ g ∈ p.1, g.2.2.1.length ≤ 4611686018427387904
 self : f.2.2.1.length ≤ 4611686018427387904
 names : ∀ x ∈ p.2.2, x.length ≤ 4611686018427387904
theorem ins32 (hP : FnP p f) (h0 : 0 ≤ f.2.1) {c : CK} (hc : c = (p, f, own, [], [], false)) {i : Int × Int} {x y : Int} {b : Bool} {C : Int → Prop} (hm : (if (!b) = true then 1 else y) = bndN c i)
  (hb : insC c i = false → K false) (hgd : insC c i = true → C (w6 (x + 1))) : fnrj32 p K f i y b x C := by
 have hB : 0 ≤ bndN c i ∧ bndN c i ≤ 8000 := by
  have := hP.code; have := hP.slots; have := hP.funcs; have := hP.consts; have := hP.shapes
  subst hc
  unfold bndN
  dsimp only
  repeat' split
  all_goals omega
 have hV := V1_eq hm hB.1 hB.2
 have h41 : fnrj41 p K f i y b x C := by
  refine ⟨fun h => hb ?_, fun h => ⟨fun h16 => ?_, fun h16 => hgd ?_⟩⟩
  ·rw [hV] at h; unfold insC; rw [h]; rfl
  ·rw [hV] at h
   have h7 : bndN c i = (p.1.length : Int) := by
    have : i.1 = 16 := by simpa using h16
    subst hc
    unfold bndN bndV0 bndV1; rw [this]; rfl
   have h' := h
   unfold frmV1 at h'
   simp only [Bool.or_eq_false_iff, decide_eq_false_iff_not] at h'
   obtain ⟨_, _, h5, h6⟩ := h'
   rw [h7] at h6
   have hg : (p.1.getD (Int.toNat i.2) default).2.2.1.length ≤ 4611686018427387904 := by
    refine hP.caught _ ?_
    rw [List.getD_eq_getElem?_getD, List.getElem?_eq_getElem (by omega)]
    exact List.getElem_mem _
   exact ⟨by omega, by omega, _, caps (c := c) (by rw [hc]) h0 hP.slots (by rw [hc]) hg h16 h hb hgd (p.1.getD (Int.toNat i.2) default).2.2.1.length 0 (by omega) rfl⟩
  ·rw [hV] at h; unfold insC; rw [h, h16]; rfl
 have h34 : fnrj34 p K f i y b x C := ⟨fun _ => h41, fun _ => h41⟩
 exact ⟨fun _ => h34, fun _ => h34⟩
theorem fnr_all (hP : FnP p f) (hf : 0 ≤ own ∧ Int.toNat own < p.1.length ∧ p.1.getD (Int.toNat own) default = f)
  (hF : ¬(frmS (p, f, own, [], [], false) = true ∧ RightF p f own) → K false) (hT : frmS (p, f, own, [], [], false) = true ∧ RightF p f own → K true) : fnrF p own K := by
 obtain ⟨f1, f2, f3⟩ := hf
 unfold fnrF
 rw [f3]
 obtain ⟨c, hc⟩ : ∃ c : CK, c = (p, f, own, [], [], false) := ⟨_, rfl⟩
 rw [← hc] at hF hT
 have hn := hP.code
 have hV0 : fnrV0 f = (frmV0 c || ((f.2.2.2.length : Int) == 0)) := by
  subst hc
  unfold fnrV0 frmV0
  simp only [Bool.or_assoc]
 have loop : fnrV0 f = false → ∀ (k q : Nat), q + k = f.2.2.2.length → f.2.2.2.all (insC c) = (f.2.2.2.drop q).all (insC c) → fnrl21 p own K f (k + 1) (q : Int) := fun hv => by
  rw [hV0, Bool.or_eq_false_iff] at hv
  obtain ⟨v0, v1⟩ := hv
  have hn0 : 0 < f.2.2.2.length := by
   have : ¬ (f.2.2.2.length : Int) = 0 := by simpa using v1
   omega
  have hs0 : 0 ≤ f.2.1 := by
   rw [hc] at v0
   unfold frmV0 at v0
   simp only [Bool.or_eq_false_iff, decide_eq_false_iff_not] at v0
   have := v0.2.1
   omega
  have hbad : frmS c = false → K false := fun h => hF fun h2 => by rw [h] at h2; cases h2.1
  intro k
  induction k with
  | zero =>
   intro q h1 he
   refine ⟨fun h => by have := of_decide_eq_true h; omega, fun _ => ?_⟩
   have hfr : frmS c = true := by
    rw [List.drop_of_length_le (by omega)] at he
    unfold frmS
    rw [v0, hc]; rw [hc] at he
    rw [he]; rfl
   have hw : Int.toNat (w6 ((f.2.2.2.length : Int) + 1)) = f.2.2.2.length + 1 := by rw [w64 (by omega)]; omega
   rw [hw]
   refine ⟨by rw [w64 (by omega)]; omega, by rw [w64 (by omega)]; omega, by omega, by rw [List.length_replicate]; show 0 < _; omega, f.2.2.2.length + 2, ?_⟩
   have hC : CodeOk p f := by
    have := frmS_code (c := c) hfr (by rw [hc]; exact hP.names)
    rw [hc] at this; exact this
   obtain ⟨L, hL⟩ : ∃ L, L = (List.replicate (f.2.2.2.length + 1) ((false, 0, []) : AT)).set 0 (true, 0, []) := ⟨_, rfl⟩
   have hg : ∀ k, k ≠ 0 → (L.getD k default).1 = false := fun k hk => by
    rw [hL, getD_set _ _ _ _ _ (by rw [List.length_replicate]; omega), if_neg hk, List.getD_eq_getElem?_getD, List.getElem?_replicate]
    split <;> rfl
   have hg0 : L.getD 0 default = (true, 0, []) := by rw [hL, getD_set _ _ _ _ _ (by rw [List.length_replicate]; omega), if_pos rfl]
   suffices h : fnrl91 p own K f (f.2.2.2.length + 2) true L by rw [hL] at h; exact h
   have hu := unk_le f.2.2.2.length L
   refine outr hn hn0 (fun h => hF fun h2 => h h2.2) (fun h => hT ⟨hfr, h⟩) hC _ L hu ⟨by rw [hL, List.length_set, List.length_replicate], fun k hk hkn => ?_⟩ hg0
   by_cases hk0 : k = 0
   ·subst hk0
    rw [hg0]
    exact ⟨.start, by show (0 : Int) ≤ 0; omega, by show (0 : Int) + _ ≤ _; omega, by show 0 + _ ≤ _; omega⟩
   ·rw [hg k hk0] at hkn; cases hkn
  | succ k ih =>
   intro q h1 he
   have hq : q < f.2.2.2.length := by omega
   rw [drop_get (l := f.2.2.2) default hq, List.all_cons] at he
   refine ⟨fun _ => ⟨by omega, by omega, ?_⟩, fun h => by have := of_decide_eq_false h; omega⟩
   rw [Int.toNat_natCast]
   obtain ⟨i, hi⟩ : ∃ i, i = f.2.2.2.getD q default := ⟨_, rfl⟩
   rw [← hi] at he ⊢
   have hb : insC c i = false → K false := fun h => hbad (by
    unfold frmS; rw [h] at he; rw [hc] at he ⊢; rw [he]; simp)
   have hgd : insC c i = true → fnrl21 p own K f (k + 1) (w6 ((q : Int) + 1)) := fun h => by
    rw [w64 (by omega)]
    exact ih (q + 1) (by omega) (by rw [he, h]; rfl)
   obtain ⟨m1, m2⟩ := most_ok p f own i.1 i.2 [] [] false _ rfl
   rw [← hc] at m1 m2
   exact ⟨fun e h => ins32 hP hs0 hc (m1 e h) hb hgd, fun h => ins32 hP hs0 hc (m2 h) hb hgd⟩
 have h8 : fnrj8 p own K f := by
  refine ⟨fun h => hF fun h2 => ?_, fun h => ⟨_, loop h f.2.2.2.length 0 (by omega) rfl⟩⟩
  rw [hV0, Bool.or_eq_true] at h
  rcases h with h | h
  ·have := h2.1
   unfold frmS at this
   rw [h] at this; cases this
  ·have h : (f.2.2.2.length : Int) = 0 := by simpa using h
   refine h2.2.1 0 (0, []) .start ?_
   unfold nx
   rw [if_pos]; omega
 exact ⟨f1, f2, fun _ => h8, fun _ => ⟨fun _ => h8, fun _ => h8⟩⟩
end
end
end Go.Proofs.YtanhbfhpnjjgcaaDoor.Cc
