/- Trails: the plain law of documents. -/
import Derived.Test.YtdaagfgedkdmjaaGreatDoorUor
import Derived.Test.YtdaagfgedkdmjaaGreatDoorUte
namespace Go.Proofs.YtdaagfgedkdmjaaGreatDoor.Ub
open Go Go.Eng Go.RowKit Go.Shelf Go.Proofs Bld Sp Ti Uc Ua Ui
set_option linter.unusedVariables false
noncomputable section
abbrev JEn := List UInt8 × List UInt8 × Int
abbrev JTr := List JEn × Int
def rngD (e : JEn) : Bool := !(decide (e.2.2 < 0) || decide (e.2.2 > 1000000))
def sameD (x : JEn) (z : JEn) : Bool := z.2.2 == x.2.2
section
variable (o : List UInt8 → List UInt8)
/-- what the program asks of an entry behind some -/
def dcStep (m : List JEn) (e : JEn) : Bool := match m.getLast? with
 | none => true
 | some p => if (p.2.2 == e.2.2) = true then (o p.1 == o e.1) else !(m.any (sameD e))
def dcF (m : List JEn) : List JEn → Bool
 | [] => true
 | e :: r => rngD e && (dcStep o m e && dcF (m ++ [e]) r)
/-- what the document asks -/
def fwd (x : JEn) : List JEn → Bool
 | [] => true
 | y :: q => (!(sameD x y) || ((o x.1 == o y.1) && (y :: q).all (sameD x))) && fwd x q
def rR (c : List UInt8 → Bool) (m : List JEn) : List JEn → Bool
 | [] => true
 | e :: r => (c e.1 && (rngD e && fwd o e m)) && rR c (m ++ [e]) r
theorem fwd_iff (x : JEn) : ∀ m : List JEn, fwd o x m = true ↔ ∀ a y b, m = a ++ y :: b → y.2.2 = x.2.2 → o x.1 = o y.1 ∧ ∀ z ∈ b, z.2.2 = x.2.2
 | [] => ⟨fun _ a y b h => (by cases a <;> cases h), fun _ => rfl⟩
 | y :: q => by
  rw [fwd, Bool.and_eq_true, fwd_iff x q]
  constructor
  ·rintro ⟨h1, h2⟩ a z b hm hz
   cases a with
   | nil =>
    injection hm with e1 e2
    subst e1 e2
    have : sameD x y = true := by unfold sameD; rw [hz]; simp
    rw [this] at h1
    simp only [Bool.not_true, Bool.false_or, Bool.and_eq_true, beq_iff_eq, List.all_eq_true] at h1
    refine ⟨h1.1, fun z hz => ?_⟩
    have := h1.2 z (List.mem_cons_of_mem _ hz)
    unfold sameD at this
    simpa using this
   | cons w a =>
    injection hm with e1 e2
    exact h2 a z b e2 hz
  ·intro h
   refine ⟨?_, fun a z b hm hz => h (y :: a) z b (by rw [hm]; rfl) hz⟩
   by_cases hy : sameD x y = true
   ·have hy' : y.2.2 = x.2.2 := by unfold sameD at hy; simpa using hy
    obtain ⟨h1, h2⟩ := h [] y q rfl hy'
    rw [hy, h1]
    simp only [Bool.not_true, Bool.false_or, beq_self_eq_true, Bool.true_and, List.all_eq_true]
    intro z hz
    rcases List.mem_cons.1 hz with rfl | hz
    ·exact hy
    ·unfold sameD; rw [h2 z hz]; simp
   ·have : sameD x y = false := by simpa using hy
    rw [this]; rfl
/-- all that stands is right -/
def inv (m : List JEn) : Prop := ∀ a x b, m = a ++ x :: b → fwd o x a = true
theorem inv_snoc {m : List JEn} {e : JEn} (h : inv o m) (he : fwd o e m = true) : inv o (m ++ [e]) := by
 intro a x b hm
 rcases List.eq_nil_or_concat b with rfl | ⟨b', z, rfl⟩
 ·have := List.append_inj' (s₁ := m) (t₁ := [e]) (s₂ := a) (t₂ := [x]) (by rw [hm]) rfl
  obtain ⟨rfl, h2⟩ := this
  injection h2 with h2
  rw [← h2]; exact he
 ·have : m ++ [e] = (a ++ x :: b') ++ [z] := by rw [hm]; simp
  have := List.append_inj' this rfl
  exact h a x b' this.1
theorem step_eq {m : List JEn} (h : inv o m) (x : JEn) : fwd o x m = dcStep o m x := by
 rcases List.eq_nil_or_concat m with rfl | ⟨q, p, rfl⟩
 ·rfl
 ·rw [List.concat_eq_append] at h ⊢
  have hp := h q p [] (by simp)
  rw [fwd_iff o] at hp
  unfold dcStep
  rw [List.getLast?_concat]
  show fwd o x (q ++ [p]) = if (p.2.2 == x.2.2) = true then (o p.1 == o x.1) else !((q ++ [p]).any (sameD x))
  rw [Bool.eq_iff_iff, fwd_iff o]
  by_cases hpx : p.2.2 = x.2.2
  ·rw [if_pos (by simpa using hpx), beq_iff_eq]
   constructor
   ·intro hh
    exact (hh q p [] rfl hpx).1.symm
   ·intro ho a y b hm hy
    rcases List.eq_nil_or_concat b with rfl | ⟨b', z, rfl⟩
    ·have := List.append_inj' (s₁ := q) (t₁ := [p]) (s₂ := a) (t₂ := [y]) hm rfl
     obtain ⟨-, h2⟩ := this
     injection h2 with h2
     subst h2
     exact ⟨ho.symm, fun z hz => by cases hz⟩
    ·have h3 : q ++ [p] = (a ++ y :: b') ++ [z] := by rw [hm]; simp
     obtain ⟨h4, h5⟩ := List.append_inj' h3 rfl
     injection h5 with h5
     subst h5
     obtain ⟨h6, h7⟩ := hp a y b' h4 (by rw [hy, hpx])
     refine ⟨by rw [← ho, h6], fun w hw => ?_⟩
     rw [List.concat_eq_append] at hw
     rcases List.mem_append.1 hw with hw | hw
     ·rw [h7 w hw, hpx]
     ·rw [List.mem_singleton] at hw; rw [hw, hpx]
  ·rw [if_neg (by simpa using hpx), Bool.not_eq_true', ← Bool.not_eq_true, List.any_eq_true]
   constructor
   ·rintro hh ⟨y, hy, hyx⟩
    have hyx : y.2.2 = x.2.2 := by unfold sameD at hyx; simpa using hyx
    rcases List.mem_append.1 hy with hy | hy
    ·obtain ⟨a, b, rfl⟩ := List.append_of_mem hy
     have := (hh a y (b ++ [p]) (by simp) hyx).2 p (by simp)
     exact hpx this
    ·rw [List.mem_singleton] at hy
     rw [hy] at hyx; exact hpx hyx
   ·intro hh a y b hm hy
    exact absurd ⟨y, by rw [hm]; simp, by unfold sameD; rw [hy]; simp⟩ hh
theorem docs_eq (c : List UInt8 → Bool) : ∀ (r m : List JEn), inv o m → ((r.all fun e => c e.1) && dcF o m r) = rR o c m r
 | [], m, _ => rfl
 | e :: r, m, h => by
  rw [List.all_cons, dcF, rR, ← step_eq o h e]
  cases hc : c e.1
  ·rfl
  ·cases hr : rngD e
   ·simp
   ·cases hf : fwd o e m
    ·simp
    ·have ih := docs_eq c r (m ++ [e]) (inv_snoc o h hf)
     rw [← ih]
     simp
theorem inv_nil : inv o [] := fun a x b h => by cases a <;> cases h
end
end
end Go.Proofs.YtdaagfgedkdmjaaGreatDoor.Ub
