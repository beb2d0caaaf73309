/- The tokens of a text: both cut it alike; the Raws of tokens. -/
import Derived.Test.YtcnhdkhkadiohaaGreatDoorTrc
namespace Go.Proofs.YtcnhdkhkadiohaaGreatDoor.Tk
open Go Go.Eng Bld Trm Css
set_option maxHeartbeats 4000000
set_option maxRecDepth 100000
set_option linter.unusedSimpArgs false
set_option linter.unusedVariables false
abbrev Tok := Int × Bs × Bs × Int
theorem beg_some {s : Bs} (h : begM s = true) : 1 ≤ (nmN s.length s).2 := by
 match s with
 | [] => cases h
 | c :: r =>
  cases he : escM (c :: r)
  ·have hs : signM (c.toNat : Int) = true := by
    rw [beg_cons] at h
    split at h
    ·rename_i hc
     rw [Bool.and_eq_true] at hc
     have : c = 45 := by simpa using hc.1
     subst this
     decide +kernel
    rw [he, Bool.or_false] at h
    unfold signM signj3M
    rw [h]; rfl
   show 1 ≤ (nmN (r.length + 1) (c :: r)).2
   rw [nmN_cons _ c r he, if_t hs]
   simp
  have hl := esc_len he
  match r, he, hl with
  | d :: r, he, _ =>
   show 1 ≤ (nmN (r.length + 1 + 1) (c :: d :: r)).2
   rw [nmN_esc _ c d r he]
   simp
theorem take_len {s : Bs} {n : Nat} (h : 1 ≤ n) (hs : 1 ≤ s.length) : 1 ≤ (s.take n).length ∧ (s.take n).length ≤ s.length := by
 rw [List.length_take]; omega
theorem first_raw {s : Bs} (hp : firstP s) : 1 ≤ (firstM s).2.1.length ∧ (firstM s).2.1.length ≤ s.length := by
 obtain ⟨h, hne, hlt⟩ := hp
 have hs : 1 ≤ s.length := List.length_pos_iff.mpr hne
 have hw := sp_wrap h
 have hall : 1 ≤ s.length ∧ s.length ≤ s.length := ⟨hs, Nat.le_refl _⟩
 have nm : ∀ (q : Int) (i : Nat), i ≤ s.length → (1 ≤ i ∨ begM s = true ∧ i = 0) → 1 ≤ (namedM q s (i : Int)).2.1.length ∧ (namedM q s (i : Int)).2.1.length ≤ s.length := fun q i hi ho => by
  rw [named_eq h q hi]
  refine take_len ?_ hs
  have h1 := nameS_len (nameP_drop h i)
  unfold rsaidS
  rw [Int.toNat_natCast]
  rcases ho with ho | ⟨ho, rfl⟩
  ·simp only; omega
  have := beg_some ho
  simp only [List.drop_zero]
  unfold nameS
  simp only
  omega
 have f88 : ∀ c, 1 ≤ (firstj88M s c).2.1.length ∧ (firstj88M s c).2.1.length ≤ s.length := fun c => by
  rw [tail_eq]; exact take_len dc hs
 have n0 := nm 1 0 (Nat.zero_le _)
 have n4 := nm 4 1 hs (.inl (Nat.le_refl _))
 have n3 := nm 3 1 hs (.inl (Nat.le_refl _))
 unfold firstM
 rw [hw]
 split
 ·rename_i hc
  have := of_decide_eq_true hc
  exact take_len om hs
 split
 ·rename_i hc
  have e := note_eq h hc
  have : (firstj21M s).2.1 = (rnoteS s).2.1 := by rw [e]; rfl
  rw [this]
  unfold rnoteS
  simp only
  split
  ·exact take_len om hs
  exact hall
 split
 ·show 1 ≤ (textS s).2.1.length ∧ _
  unfold textS txR
  simp only
  split
  ·exact take_len om hs
  split
  ·exact take_len om hs
  exact hall
 unfold firstj43M firstj49M
 split
 ·exact n4
 split
 ·exact n3
 split
 ·rename_i hc
  have hc := of_decide_eq_true hc
  have := numS_ok h
  show 1 ≤ (numberM s (numS s).1 (numS s).2).2.1.length ∧ _
  obtain ⟨i, hi⟩ : ∃ k : Nat, (numS s).2 = (k : Int) := ⟨(numS s).2.toNat, by omega⟩
  rw [hi] at hc this ⊢
  have h1 := nameS_len (nameP_drop h i)
  rw [List.length_drop] at h1
  have h2 := h
  unfold nameP at h2
  unfold numberM numberj5M numberV0
  simp only
  rw [w64 (x := (i : Int) + 1) om, Int.toNat_natCast, w64 om]
  split
  ·exact take_len om hs
  split <;> exact take_len om hs
 split
 ·rename_i hB
  have := n0 (.inr ⟨hB, rfl⟩)
  have hn0 : (((0 : Nat) : Int)) = 0 := rfl
  rw [hn0] at this
  show 1 ≤ (firstV4 s).length ∧ (firstV4 s).length ≤ s.length
  unfold firstV4
  split
  ·have h2 := h
   unfold nameP at h2
   rw [w64 om]
   exact take_len om hs
  exact this
 exact f88 _
/-- a text cut into tokens -/
def cutN : Nat → Bs → List Tok
 | 0, _ => []
 | k + 1, s => if s = [] then [] else firstM s :: cutN k (s.drop (firstM s).2.1.length)
def cutS (s : Bs) : List Tok := cutN s.length s
def cutP (s : Bs) : Prop := s.length < 4294967281
theorem cut_first {s : Bs} (h : cutP s) (hne : s ≠ []) : firstP s := ⟨by unfold cutP at h; unfold nameP; omega, hne, h⟩
theorem cut_loop (K : List Tok → Prop) : ∀ (k : Nat) (s : Bs) (out : List Tok), s.length ≤ k → out.length + s.length < 4294967281 → K (out ++ cutN k s) → cutl7 K (k + 1) s out := by
 intro k
 induction k with
 | zero =>
  intro s out h1 h2 hK
  obtain rfl : s = [] := List.eq_nil_of_length_eq_zero om
  refine ⟨(fun h => by cases h), fun _ => ?_⟩
  simpa [cutN] using hK
 | succ k ih =>
  intro s out h1 h2 hK
  by_cases hs : s = []
  ·subst hs
   refine ⟨(fun h => by cases h), fun _ => ?_⟩
   simpa [cutN] using hK
  have hf := cut_first (s := s) (by unfold cutP; omega) hs
  have hr := first_raw hf
  refine ⟨fun _ => ⟨hf, by simp; omega, by omega, by omega, by omega, ?_⟩, fun h => absurd (by simpa using h) hs⟩
  rw [Int.toNat_natCast]
  refine ih _ _ (by rw [List.length_drop]; omega) (by rw [List.length_drop]; simp; omega) ?_
  have e : cutN (k + 1) s = firstM s :: cutN k (s.drop (firstM s).2.1.length) := if_neg hs
  rw [e] at hK
  rw [List.append_assoc]
  exact hK
theorem cut_F (s : Bs) (hp : cutP s) : cutF s (fun r => r = cutS s) :=
 ⟨_, cut_loop _ s.length s [] (Nat.le_refl _) (by unfold cutP at hp; simpa using hp) (by simp [cutS])⟩
theorem cut_c {g : Ghost} (xs : Bs) (hG0 : SomeInt g 0)  (hp : cutP xs) : CallsH Tryz.prog 27 #[sv xs] g [] (fun g' H' v => ∃ (z0 : Option Addr) (v0 : Nat), v = .slice z0 (cutS xs).length v0 ∧ Rep g' (.slice yK) [.slice z0 (cutS xs).length v0] (cutS xs) ∧ H' = []) :=
 (cut_ok xs hG0 _ (cut_F xs hp)).mono (by rintro g' H' v _ ⟨r0, z0, v0, rfl, hRr0_0, rfl, hK⟩; subst hK; exact ⟨z0, v0, rfl, hRr0_0, rfl⟩)
/-- the Raws of tokens -/
def rawS (l : List Tok) : Bs := (l.map fun t => t.2.1).flatten
def rawP (l : List Tok) : Prop := (rawS l).length ≤ 140737488351232 ∧ l.length ≤ 140737488351232
theorem ints_app (a b : Bs) : intsOf a ++ intsOf b = intsOf (a ++ b) := by simp [intsOf]
end Go.Proofs.YtcnhdkhkadiohaaGreatDoor.Tk
