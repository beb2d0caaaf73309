/- Code: what a step of the checker answers: the next ones of an instruction. -/
import Derived.Test.YtanhbfhpnjjgcaaDoorCcd
import Derived.Test.YtanhbfhpnjjgcaaDoorCce
namespace Go.Proofs.YtanhbfhpnjjgcaaDoor.Cc
open Go Go.Eng Go.RowKit Fl
set_option linter.unusedVariables false
noncomputable section
/-- what follows at an instruction in a state; none: a fault -/
def nx (p : JP) (f : JF) (own a : Int) (s : ST) : Option (List (Int × ST)) :=
 if ¬(0 ≤ a ∧ Int.toNat a < f.2.2.2.length) then none else
 let i := f.2.2.2.getD (Int.toNat a) default
 let t : ST := (s.1 - (movS i p).1 + (movS i p).2, s.2)
 if s.1 < (movS i p).1 then none else
 if (i.1 == 9) = true then some [(i.2, t)] else
 if (i.1 == 10) = true then some [(i.2, t), (a + 1, t)] else
 if (i.1 == 24) = true then some [(i.2, s), (a + 1, t)] else
 if ((i.1 == 18) || (i.1 == 25)) = true then (if ((decide ((s.2.length : Int) > 0)) || (!((i.1 == 25) == (own == 0)))) = true then none else some []) else
 if (i.1 == 19) = true then some [] else
 if (i.1 == 20) = true then some [(i.2, (s.1 + 1, s.2)), (a + 1, (t.1, s.2 ++ [i.2, s.1]))] else
 if (i.1 == 21) = true then (if ((s.2.length : Int) == 0) = true then none else some [(a + 1, (t.1, s.2.take (s.2.length - 2)))]) else
 some [(a + 1, t)]
def badC (c : CK) : CK := (c.1, c.2.1, c.2.2.1, c.2.2.2.1, c.2.2.2.2.1, true)
def rchs (c : CK) (l : List (Int × ST)) : CK := l.foldl (fun c x => rchS c x.1 x.2) c
def stpS (c : CK) (a : Int) : CK :=
 match assocK a c.2.2.2.1 with
 | none => c
 | some s => match nx c.1 c.2.1 c.2.2.1 a s with
  | none => badC c
  | some l => rchs c l
theorem kinds {d : Int} (h : 1 ≤ d ∧ d ≤ 25) : d = 1 ∨ d = 2 ∨ d = 3 ∨ d = 4 ∨ d = 5 ∨ d = 6 ∨ d = 7 ∨ d = 8 ∨ d = 9 ∨ d = 10 ∨ d = 11 ∨ d = 12 ∨ d = 13 ∨ d = 14 ∨ d = 15 ∨ d = 16 ∨ d = 17 ∨ d = 18 ∨ d = 19 ∨ d = 20 ∨ d = 21 ∨ d = 22 ∨ d = 23 ∨ d = 24 ∨ d = 25 := by omega
/-- what is right of an instruction -/
structure InsOk (c : CK) (i : Int × Int) : Prop where
 kind : 1 ≤ i.1 ∧ i.1 ≤ 25
 arg : 0 ≤ i.2
 list : i.1 = 12 ∨ i.1 = 17 → i.2 ≤ 400
 shape : i.1 = 13 → Int.toNat i.2 < c.1.2.2.length
theorem insC_ok {c : CK} {i : Int × Int} (h : insC c i = true) : InsOk c i := by
 unfold insC at h
 simp only [Bool.and_eq_true, Bool.not_eq_true'] at h
 obtain ⟨h1, _⟩ := h
 unfold frmV1 at h1
 simp only [Bool.or_eq_false_iff, decide_eq_false_iff_not] at h1
 obtain ⟨a1, a2, a3, a4⟩ := h1
 refine ⟨⟨by omega, by omega⟩, by omega, fun h => ?_, fun h => ?_⟩
 ·have : bndN c i = 401 := by
   unfold bndN bndV0 bndV1
   rcases h with h | h <;> rw [h] <;> rfl
  omega
 ·have : bndN c i = (c.1.2.2.length : Int) := by
   unfold bndN bndV0 bndV1; rw [h]; rfl
  omega
theorem nds_mov {i : Int × Int} (p : JP) (h : 1 ≤ i.1 ∧ i.1 ≤ 25) : ndsS i p = (movS i p).1 := by
 obtain ⟨d, A⟩ := i
 rcases kinds h with h | h | h | h | h | h | h | h | h | h | h | h | h | h | h | h | h | h | h | h | h | h | h | h | h <;> (dsimp only at h; subst h; rfl)
theorem eff_mov {c : CK} {i : Int × Int} (h : InsOk c i) (hs : ∀ x ∈ c.1.2.2, x.length ≤ 4611686018427387904) : effS i.1 i.2 c.1 = (movS i c.1).2 - (movS i c.1).1 := by
 obtain ⟨p, r⟩ := c
 obtain ⟨d, A⟩ := i
 obtain ⟨h1, h2, h3, h4⟩ := h
 dsimp only at h1 h2 h3 h4 hs ⊢
 rcases kinds h1 with h | h | h | h | h | h | h | h | h | h | h | h | h | h | h | h | h | h | h | h | h | h | h | h | h <;> subst h <;> first | rfl | skip
 ·show w6 (1 - A) = 1 - A
  have := h3 (.inl rfl)
  exact w64 (by omega)
 ·show w6 (1 - ((p.2.2.getD (Int.toNat A) default).length : Int)) = 1 - ((p.2.2.getD (Int.toNat A) default).length : Int)
  have h5 : (p.2.2.getD (Int.toNat A) default) ∈ p.2.2 := by
   rw [List.getD_eq_getElem?_getD, List.getElem?_eq_getElem (h4 rfl)]
   exact List.getElem_mem _
  have := hs _ h5
  exact w64 (by omega)
 ·show w6 (0 - A) = 1 - w6 (A + 1)
  have := h3 (.inr rfl)
  rw [w64 (by omega), w64 (by omega)]; omega
theorem mp {m : Int × Int} (t g : Int) (h : m = (t, g)) (hk : 0 ≤ t ∧ 0 ≤ g ∧ g ≤ t + 1) : 0 ≤ m.1 ∧ 0 ≤ m.2 ∧ m.2 ≤ m.1 + 1 := by
 subst h; exact hk
theorem mov_pos {c : CK} {i : Int × Int} (h : InsOk c i) (hs : ∀ x ∈ c.1.2.2, x.length ≤ 4611686018427387904) : 0 ≤ (movS i c.1).1 ∧ 0 ≤ (movS i c.1).2 ∧ (movS i c.1).2 ≤ (movS i c.1).1 + 1 := by
 obtain ⟨p, r⟩ := c
 obtain ⟨d, A⟩ := i
 obtain ⟨h1, h2, h3, h4⟩ := h
 dsimp only at h1 h2 h3 h4 hs ⊢
 rcases kinds h1 with h | h | h | h | h | h | h | h | h | h | h | h | h | h | h | h | h | h | h | h | h | h | h | h | h <;> subst h <;> first | exact mp 0 1 rfl (by decide) | exact mp 1 1 rfl (by decide) | exact mp 1 0 rfl (by decide) | exact mp 2 1 rfl (by decide) | exact mp 1 2 rfl (by decide) | exact mp 3 1 rfl (by decide) | exact mp 2 3 rfl (by decide) | exact mp 0 0 rfl (by decide) | skip
 ·show 0 ≤ A ∧ 0 ≤ (1 : Int) ∧ (1 : Int) ≤ A + 1
  omega
 ·show 0 ≤ ((p.2.2.getD (Int.toNat A) default).length : Int) ∧ 0 ≤ (1 : Int) ∧ (1 : Int) ≤ ((p.2.2.getD (Int.toNat A) default).length : Int) + 1
  omega
 ·show 0 ≤ w6 (A + 1) ∧ 0 ≤ (1 : Int) ∧ (1 : Int) ≤ w6 (A + 1) + 1
  have := h3 (.inr rfl)
  rw [w64 (by omega)]; omega
theorem assocK_put {V : Type} (k a : Int) (v : V) : ∀ (l : List (Int × V)), assocK k (putK a v l) = if (k == a) = true then some v else assocK k l
 | [] => by simp only [putK, assocK]
 | x :: l => by
  simp only [putK]
  by_cases h : (a == x.1) = true
  ·rw [if_pos h]
   have e : a = x.1 := by simpa using h
   simp only [assocK]
   by_cases h2 : (k == a) = true
   ·rw [if_pos h2, if_pos h2]
   ·rw [if_neg h2, if_neg h2, if_neg (by rw [← e]; exact h2)]
  ·rw [if_neg h]
   simp only [assocK]
   by_cases h2 : (k == x.1) = true
   ·rw [if_pos h2]
    have e : k = x.1 := by simpa using h2
    have h4 : ¬ (k == a) = true := fun h3 => h (by rw [← e, show k = a by simpa using h3]; exact beq_self_eq_true a)
    rw [if_neg h4, if_pos h2]
   ·rw [if_neg h2, assocK_put k a v l, if_neg h2]
/-- what a step wants -/
def stpP (c : CK) (a : Int) : Prop :=
 0 ≤ a ∧ Int.toNat a < c.2.1.2.2.2.length ∧ c.2.1.2.2.2.length ≤ 8000 ∧ (∃ s : ST, assocK a c.2.2.2.1 = some s ∧ 0 ≤ s.1 ∧ s.1 ≤ 100000 ∧ s.2.length ≤ 90000 ∧ s.2.length % 2 = 0) ∧ c.2.2.2.2.1.length ≤ 900000 ∧ seenOk c.2.2.2.1 ∧
 insC c (c.2.1.2.2.2.getD (Int.toNat a) default) = true ∧ ∀ x ∈ c.1.2.2, x.length ≤ 4611686018427387904
theorem rch_keep {c : CK} {a b : Int} {s t : ST} (h1 : c.2.2.2.2.1.length ≤ 900000) (h2 : s.2.length ≤ 100000) (h3 : seenOk c.2.2.2.1) (h4 : t.2.length ≤ 100000) : rchP c a s ∧ rchP (rchS c a s) b t := by
 refine ⟨⟨by omega, h2, h3⟩, ?_⟩
 unfold rchS
 split
 ·exact ⟨by show c.2.2.2.2.1.length ≤ _; omega, h4, h3⟩
 ·split
  ·exact ⟨by show c.2.2.2.2.1.length ≤ _; omega, h4, h3⟩
  ·refine ⟨by show (c.2.2.2.2.1 ++ [a]).length ≤ _; rw [List.length_append]; simp only [List.length_cons, List.length_nil]; omega, h4, fun k e he => ?_⟩
   have he : assocK k (putK a s c.2.2.2.1) = some e := he
   rw [assocK_put] at he
   split at he
   ·cases he; exact h2
   ·exact h3 k e he
theorem stp_F (c : CK) (a : Int) (hp : stpP c a) : stpF c a (fun r => r = stpS c a) := by
 obtain ⟨h0, h1, h2, ⟨s, h3, h4, h5, h6, h11⟩, h7, h8, h9, h10⟩ := hp
 have hI := insC_ok h9
 have hM := mov_pos hI h10
 have hS : stpS c a = match nx c.1 c.2.1 c.2.2.1 a s with | none => badC c | some l => rchs c l := by
  unfold stpS; rw [h3]
 unfold stpF
 refine ⟨h0, h1, fun e he => ?_, fun h => by rw [h3] at h; cases h⟩
 rw [h3] at he
 cases he
 have hN : ∀ x, nx c.1 c.2.1 c.2.2.1 a s = x → stpS c a = match x with | none => badC c | some l => rchs c l := fun x hx => by rw [hS, hx]
 unfold nx at hN
 rw [if_neg (by simp only [h0, h1, and_self, not_true_eq_false, not_false_eq_true])] at hN
 generalize hi : c.2.1.2.2.2.getD (Int.toNat a) default = i at *
 dsimp only at hN
 have hnd := nds_mov c.1 hI.kind
 have hef := eff_mov hI h10
 have hsh : shP i c.1 := fun h => ⟨hI.arg, hI.shape (by simpa using h)⟩
 have hA : w6 (a + 1) = a + 1 := w64 (by omega)
 have hH : w6 (s.1 + 1) = s.1 + 1 := w64 (by omega)
 have hj : (decide (s.1 < ndsS i c.1)) = false → ∀ x, x = w6 (s.1 + effS i.1 i.2 c.1) → x = s.1 - (movS i c.1).1 + (movS i c.1).2 := fun h x hx => by
  have h := of_decide_eq_false h
  rw [hnd] at h
  rw [hx, hef, w64 (by omega)]; omega
 have hb : (decide (s.1 < ndsS i c.1)) = true → (c.1, c.2.1, c.2.2.1, c.2.2.2.1, c.2.2.2.2.1, true) = stpS c a := fun h => by
  have h := of_decide_eq_true h
  rw [hnd] at h
  exact (hN none (if_pos h)).symm
 rw [hnd] at hj hb ⊢
 have hsc : scoP [s.2, [i.2, s.1]] := ⟨by show 2 ≤ 10; omega, fun x hx => by
  rcases List.mem_cons.1 hx with rfl | hx
  ·omega
  ·rcases List.mem_cons.1 hx with rfl | hx
   ·show 2 ≤ 100000; omega
   ·cases hx⟩
 have hsS : scoS [s.2, [i.2, s.1]] = s.2 ++ [i.2, s.1] := by simp [scoS]
 have hx : ¬ s.1 < (movS i c.1).1 → (i.1 == 9) = false → (i.1 == 10) = false → (i.1 == 24) = false → stpj31 c a (fun r => r = stpS c a) i s ∧ stpj31y c a (fun r => r = stpS c a) i s := fun hlt k9 k10 k24 => by
  have hT := hj (decide_eq_false hlt) _ rfl
  simp only [if_neg hlt, k9, k10, k24, Bool.false_eq_true, if_false] at hN
  suffices h : stpj31 c a (fun r => r = stpS c a) i s from ⟨h, h⟩
  unfold stpj31
  rw [hA, hT, hH, hsS]
  refine ⟨fun k18 => ?_, fun k18 => ?_⟩
  ·have hE : stpj38 c (fun r => r = stpS c a) i s := by
    show _ = _
    have hN2 := hN _ (if_pos k18)
    rw [hN2]
    unfold stpV0
    cases hz : ((decide ((s.2.length : Int) > 0)) || (!((i.1 == 25) == (c.2.2.1 == 0))))
    ·rw [Bool.or_false]; rfl
    ·rw [Bool.or_true]; rfl
   exact ⟨fun _ => hE, fun _ => ⟨fun _ => hE, fun _ => hE⟩⟩
  ·simp only [k18, Bool.false_eq_true, if_false] at hN
   refine ⟨fun k19 => (hN _ (if_pos k19)).symm, fun k19 => ⟨fun k20 => ?_, fun k20 => ⟨fun k21 => ?_, fun k21 => ?_⟩⟩⟩
   ·simp only [k19, Bool.false_eq_true, if_false] at hN
    obtain ⟨r1, r2⟩ := rch_keep (c := c) (a := i.2) (b := a + 1) (s := (s.1 + 1, s.2)) (t := (s.1 - (movS i c.1).1 + (movS i c.1).2, s.2 ++ [i.2, s.1])) h7 (by show s.2.length ≤ _; omega) h8 (by show (s.2 ++ [i.2, s.1]).length ≤ _; rw [List.length_append]; simp only [List.length_cons, List.length_nil]; omega)
    exact ⟨r1, hsc, r2, (hN _ (if_pos k20)).symm⟩
   ·simp only [k19, k20, Bool.false_eq_true, if_false] at hN
    have hN2 := hN _ (if_pos k21)
    refine ⟨fun k0 => by rw [hN2, if_pos k0]; rfl, fun k0 => ?_⟩
    rw [k0] at hN2
    have h0l : ¬ ((s.2.length : Int) = 0) := by simpa using k0
    have hW : w6 ((s.2.length : Int) - 2) = (s.2.length : Int) - 2 := w64 (by omega)
    have hW2 : Int.toNat (w6 ((s.2.length : Int) - 2)) = s.2.length - 2 := by rw [hW]; omega
    rw [hW2, hW]
    exact ⟨by omega, by omega, by omega, (rch_keep (b := 0) (t := (0, [])) h7 (by show (s.2.take _).length ≤ _; rw [List.length_take]; omega) h8 (Nat.zero_le _)).1, hN2.symm⟩
   ·simp only [k19, k20, k21, Bool.false_eq_true, if_false] at hN
    exact ⟨(rch_keep (b := 0) (t := (0, [])) h7 (by show s.2.length ≤ _; omega) h8 (Nat.zero_le _)).1, (hN _ rfl).symm⟩
 have hB : ∀ J : Prop, ((i.1 == 9) = false → (i.1 == 10) = false → (i.1 == 24) = false → ¬ s.1 < (movS i c.1).1 → J) → ndsP i c.1 ∧ ((decide (s.1 < (movS i c.1).1)) = true → (c.1, c.2.1, c.2.2.1, c.2.2.2.1, c.2.2.2.2.1, true) = stpS c a) ∧ ((decide (s.1 < (movS i c.1).1)) = false → effP i.1 i.2 c.1 ∧ ((i.1 == 9) = true → rchP c i.2 (w6 (s.1 + effS i.1 i.2 c.1), s.2) ∧ rchS c i.2 (w6 (s.1 + effS i.1 i.2 c.1), s.2) = stpS c a) ∧ ((i.1 == 9) = false → ((i.1 == 10) = true → rchP c i.2 (w6 (s.1 + effS i.1 i.2 c.1), s.2) ∧ rchP (rchS c i.2 (w6 (s.1 + effS i.1 i.2 c.1), s.2)) (w6 (a + 1)) (w6 (s.1 + effS i.1 i.2 c.1), s.2) ∧ rchS (rchS c i.2 (w6 (s.1 + effS i.1 i.2 c.1), s.2)) (w6 (a + 1)) (w6 (s.1 + effS i.1 i.2 c.1), s.2) = stpS c a) ∧ ((i.1 == 10) = false → ((i.1 == 24) = true → rchP c i.2 s ∧ rchP (rchS c i.2 s) (w6 (a + 1)) (w6 (s.1 + effS i.1 i.2 c.1), s.2) ∧ rchS (rchS c i.2 s) (w6 (a + 1)) (w6 (s.1 + effS i.1 i.2 c.1), s.2) = stpS c a) ∧ ((i.1 == 24) = false → ((i.1 == 18) = true → J) ∧ ((i.1 == 18) = false → J))))) := fun J hJ => by
  refine ⟨hsh, hb, fun hlt => ?_⟩
  have hT := hj hlt _ rfl
  have hlt := of_decide_eq_false hlt
  rw [hT, hA]
  have hl : s.2.length ≤ 100000 := by omega
  have R := fun (x y : Int) (t u : ST) (ht : t.2 = s.2) (hu : u.2 = s.2) => rch_keep (c := c) (a := x) (b := y) (s := t) (t := u) h7 (by rw [ht]; exact hl) h8 (by rw [hu]; exact hl)
  refine ⟨hsh, fun k9 => ?_, fun k9 => ⟨fun k10 => ?_, fun k10 => ⟨fun k24 => ?_, fun k24 => ⟨fun _ => hJ k9 k10 k24 hlt, fun _ => hJ k9 k10 k24 hlt⟩⟩⟩⟩
  ·simp only [if_neg hlt] at hN
   exact ⟨(R i.2 0 _ s rfl rfl).1, (hN _ (if_pos k9)).symm⟩
  ·simp only [if_neg hlt, k9, Bool.false_eq_true, if_false] at hN
   exact ⟨(R i.2 0 _ s rfl rfl).1, (R i.2 (a + 1) (s.1 - (movS i c.1).1 + (movS i c.1).2, s.2) (s.1 - (movS i c.1).1 + (movS i c.1).2, s.2) rfl rfl).2, (hN _ (if_pos k10)).symm⟩
  ·simp only [if_neg hlt, k9, k10, Bool.false_eq_true, if_false] at hN
   exact ⟨(R i.2 0 _ s rfl rfl).1, (R i.2 (a + 1) s (s.1 - (movS i c.1).1 + (movS i c.1).2, s.2) rfl rfl).2, (hN _ (if_pos k24)).symm⟩
 exact ⟨hB _ (fun k9 k10 k24 hlt => (hx hlt k9 k10 k24).1), hB _ (fun k9 k10 k24 hlt => (hx hlt k9 k10 k24).2)⟩
set_option linter.unusedVariables false in
theorem stp_c {g : Ghost} {bxc : Nat} {axc_0 : Option Addr} {cxc_0 : Nat} {axc_1 : Option Addr} {cxc_1 : Nat} {axc_2 : Option Addr} {cxc_2 : Nat} {axc_3 : Option Addr} {cxc_3 : Nat} {axc_4 : Option Addr} {cxc_4 : Nat} {bmxc_8 : Nat} {esxc_8 : Array MapEntry} {ckxc_8 : Nat} {axc_5 : Option Addr} {cxc_5 : Nat} {xsxc_5 : List Value} (xc : ((List (Int × Int × List (Int) × List (Int × Int))) × (List (Int × Int × List UInt8)) × List (List (List UInt8))) × (Int × Int × List (Int) × List (Int × Int)) × Int × (List ((Int) × (Int × List (Int)))) × List (Int) × Bool) (xat : Int) (hRxc_0 : Rep g (.slice (.pair (.int .i64) (.pair (.int .i64) (.pair (.slice (.int .i64)) (.slice (.pair (.int .i64) (.int .i64))))))) [.slice axc_0 xc.1.1.length cxc_0] xc.1.1) (hRxc_1 : Rep g (.slice (.pair (.int .i64) (.pair (.int .i64) (.str)))) [.slice axc_1 xc.1.2.1.length cxc_1] xc.1.2.1) (hRxc_2 : Rep g (.slice (.slice (.str))) [.slice axc_2 xc.1.2.2.length cxc_2] xc.1.2.2) (hRxc_3 : Rep g (.slice (.int .i64)) [.slice axc_3 xc.2.1.2.2.1.length cxc_3] xc.2.1.2.2.1) (hRxc_4 : Rep g (.slice (.pair (.int .i64) (.int .i64))) [.slice axc_4 xc.2.1.2.2.2.length cxc_4] xc.2.1.2.2.2) (hMxc_8 : RepMapA g (.pair (.int .i64) (.slice (.int .i64))) true (Value.int .i64) esxc_8 ckxc_8 xc.2.2.2.1) (hLxc_5 : RepL g (.int .i64) xsxc_5 xc.2.2.2.2.1)  (hp : stpP xc xat) : CallsH Tryd.prog 10 #[.pointer (some ⟨bxc, 0, none⟩), .int .i64 xat] g [.blk bxc (.cells #[.slice axc_0 xc.1.1.length cxc_0, .slice axc_1 xc.1.2.1.length cxc_1, .slice axc_2 xc.1.2.2.length cxc_2, .int .i64 xc.2.1.1, .int .i64 xc.2.1.2.1, .slice axc_3 xc.2.1.2.2.1.length cxc_3, .slice axc_4 xc.2.1.2.2.2.length cxc_4, .int .i64 xc.2.2.1, .map (some bmxc_8), .slice axc_5 xc.2.2.2.2.1.length cxc_5, .bool xc.2.2.2.2.2] 37), .blk bmxc_8 (.map esxc_8 ckxc_8), .own (.slice axc_5 xc.2.2.2.2.1.length cxc_5) 3 1 xc.2.2.2.2.1.length xsxc_5] (fun g' H' v => ∃ (afxc_0 : Option Addr) (cfxc_0 : Nat), ∃ (afxc_1 : Option Addr) (cfxc_1 : Nat), ∃ (afxc_2 : Option Addr) (cfxc_2 : Nat), ∃ (afxc_3 : Option Addr) (cfxc_3 : Nat), ∃ (afxc_4 : Option Addr) (cfxc_4 : Nat), ∃ (esfxc_8 : Array MapEntry) (ckfxc_8 : Nat), ∃ (afxc_5 : Option Addr) (cfxc_5 : Nat) (xsfxc_5 : List Value), v = .tuple #[] ∧ Rep g' (.slice (.pair (.int .i64) (.pair (.int .i64) (.pair (.slice (.int .i64)) (.slice (.pair (.int .i64) (.int .i64))))))) [.slice afxc_0 (stpS xc xat).1.1.length cfxc_0] (stpS xc xat).1.1 ∧ Rep g' (.slice (.pair (.int .i64) (.pair (.int .i64) (.str)))) [.slice afxc_1 (stpS xc xat).1.2.1.length cfxc_1] (stpS xc xat).1.2.1 ∧ Rep g' (.slice (.slice (.str))) [.slice afxc_2 (stpS xc xat).1.2.2.length cfxc_2] (stpS xc xat).1.2.2 ∧ Rep g' (.slice (.int .i64)) [.slice afxc_3 (stpS xc xat).2.1.2.2.1.length cfxc_3] (stpS xc xat).2.1.2.2.1 ∧ Rep g' (.slice (.pair (.int .i64) (.int .i64))) [.slice afxc_4 (stpS xc xat).2.1.2.2.2.length cfxc_4] (stpS xc xat).2.1.2.2.2 ∧ RepMapA g' (.pair (.int .i64) (.slice (.int .i64))) true (Value.int .i64) esfxc_8 ckfxc_8 (stpS xc xat).2.2.2.1 ∧ RepL g' (.int .i64) xsfxc_5 (stpS xc xat).2.2.2.2.1 ∧ H' = [.blk bxc (.cells #[.slice afxc_0 (stpS xc xat).1.1.length cfxc_0, .slice afxc_1 (stpS xc xat).1.2.1.length cfxc_1, .slice afxc_2 (stpS xc xat).1.2.2.length cfxc_2, .int .i64 (stpS xc xat).2.1.1, .int .i64 (stpS xc xat).2.1.2.1, .slice afxc_3 (stpS xc xat).2.1.2.2.1.length cfxc_3, .slice afxc_4 (stpS xc xat).2.1.2.2.2.length cfxc_4, .int .i64 (stpS xc xat).2.2.1, .map (some bmxc_8), .slice afxc_5 (stpS xc xat).2.2.2.2.1.length cfxc_5, .bool (stpS xc xat).2.2.2.2.2] 37), .blk bmxc_8 (.map esfxc_8 ckfxc_8), .own (.slice afxc_5 (stpS xc xat).2.2.2.2.1.length cfxc_5) 3 1 (stpS xc xat).2.2.2.2.1.length xsfxc_5]) :=
 (stp_ok xc xat hRxc_0 hRxc_1 hRxc_2 hRxc_3 hRxc_4 hMxc_8 hLxc_5 _ (stp_F xc xat hp)).mono (by rintro g' H' v _ ⟨fxc, afxc_0, cfxc_0, afxc_1, cfxc_1, afxc_2, cfxc_2, afxc_3, cfxc_3, afxc_4, cfxc_4, esfxc_8, ckfxc_8, afxc_5, cfxc_5, xsfxc_5, rfl, hRfxc_0, hRfxc_1, hRfxc_2, hRfxc_3, hRfxc_4, hMfxc_8, hLfxc_5, rfl, hK⟩; subst hK; exact ⟨afxc_0, cfxc_0, afxc_1, cfxc_1, afxc_2, cfxc_2, afxc_3, cfxc_3, afxc_4, cfxc_4, esfxc_8, ckfxc_8, afxc_5, cfxc_5, xsfxc_5, rfl, hRfxc_0, hRfxc_1, hRfxc_2, hRfxc_3, hRfxc_4, hMfxc_8, hLfxc_5, rfl⟩)
end
end Go.Proofs.YtanhbfhpnjjgcaaDoor.Cc
