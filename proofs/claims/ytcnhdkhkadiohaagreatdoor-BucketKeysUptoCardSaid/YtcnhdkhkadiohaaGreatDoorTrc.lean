/- The reference's tokens: the first token of a text. -/
import Derived.Test.YtcnhdkhkadiohaaGreatDoorTrb
namespace Go.Proofs.YtcnhdkhkadiohaaGreatDoor.Tk
open Go Go.Eng Bld Trm Css
set_option linter.unusedVariables false
theorem said_nat {s : Bs} (h : nameP s) {i : Nat} (hi : i ≤ s.length) : (rsaidS s (i : Int)).2 = w6 ((i : Int) + (nameS (s.drop i)).2) ∧ (i : Int) ≤ (rsaidS s (i : Int)).2 ∧ (rsaidS s (i : Int)).2 ≤ s.length := by
 have h1 := nameS_len (nameP_drop h i)
 rw [List.length_drop] at h1
 unfold nameP at h
 unfold rsaidS
 rw [Int.toNat_natCast]
 simp only
 rw [w64 om]
 omega
def rnoteS (s : Bs) : Int × Bs × Bs × Int := (9, (if 0 ≤ Lib.index (s.drop 2) [42, 47] then s.take ((Lib.index (s.drop 2) [42, 47]).toNat + 4) else s), [], 0)
def rtokV3 (e2 : UInt8) : Int :=
 (if ((((e2.toNat : Int) == 40) || ((e2.toNat : Int) == 91)) || ((e2.toNat : Int) == 123)) = true then 10 else 12)
def rtokV4 (e2 : UInt8) : Int :=
 (if ((((e2.toNat : Int) == 41) || ((e2.toNat : Int) == 93)) || ((e2.toNat : Int) == 125)) = true then 11 else (rtokV3 e2))
def rtokV5 (e2 : UInt8) : Int :=
 (if ((e2.toNat : Int) == 92) = true then 6 else (rtokV4 e2))
/-- blanks at the beginning -/
def spN (s : Bs) : Nat := s.length - (tlS s [32, 9, 10, 12, 13]).length
theorem sp_wrap {s : Bs} (h : nameP s) : w6 ((s.length : Int) - ((tlS s ([32, 9, 10, 12, 13] : Bs)).length : Int)) = (spN s : Int) := by
 have := tlS_len s [32, 9, 10, 12, 13]
 unfold nameP at h
 unfold spN
 rw [w64 om]; omega
theorem cp_rest {s : Bs} (h : (cpM s ([47, 42] : Bs)).2 = true) : (cpM s ([47, 42] : Bs)).1 = s.drop 2 := by
 unfold cpM slcpM at h ⊢
 cases hc : slhpM s ([47, 42] : Bs)
 ·rw [hc] at h; cases h
 rfl
theorem note_eq {s : Bs} (h : nameP s) (hc : (cpM s ([47, 42] : Bs)).2 = true) : rnoteS s = (9, firstV0 s, [], 0) := by
 have hl := idx_len (s.drop 2) [42, 47]
 unfold rnoteS firstV0 idxS
 rw [cp_rest hc]
 rw [List.length_drop] at hl
 unfold nameP at h
 by_cases h0 : 0 ≤ Lib.index (s.drop 2) [42, 47]
 ·have := hl h0
  simp only [List.length_cons, List.length_nil] at this
  rw [if_pos h0, if_t (by simpa using h0), w64 om, show (Lib.index (s.drop 2) [42, 47] + 4).toNat = (Lib.index (s.drop 2) [42, 47]).toNat + 4 by omega]
 rw [if_neg h0, if_f (by simpa using h0)]
theorem named_eq {s : Bs} (h : nameP s) (q : Int) {i : Nat} (hi : i ≤ s.length) : namedM q s (i : Int) = (q, s.take (rsaidS s (i : Int)).2.toNat, (rsaidS s (i : Int)).1, 0) := by
 unfold namedM
 rw [(said_nat h hi).1, Int.toNat_natCast]
 rfl
theorem b35 (c : UInt8) : (((c.toNat : Int)) == 35) = (c == 35) := byte_beq c 35
theorem tail_eq (xs : Bs) (c : UInt8) : firstj88M xs c = (rtokV5 c, xs.take (Int.toNat 1), [], 0) := by
 unfold firstj88M firstj102M firstV5 firstV6 rtokV5 rtokV4 rtokV3
 have e : ∀ n : UInt8, ((c.toNat : Int) == (n.toNat : Int)) = (c == n) := byte_beq c
 have e40 : ((c.toNat : Int) == 40) = (c == 40) := e 40
 have e41 : ((c.toNat : Int) == 41) = (c == 41) := e 41
 have e91 : ((c.toNat : Int) == 91) = (c == 91) := e 91
 have e93 : ((c.toNat : Int) == 93) = (c == 93) := e 93
 have e123 : ((c.toNat : Int) == 123) = (c == 123) := e 123
 have e125 : ((c.toNat : Int) == 125) = (c == 125) := e 125
 have e92 : ((c.toNat : Int) == 92) = (c == 92) := e 92
 rw [e40, e41, e91, e93, e123, e125, e92]
 by_cases h40 : c = 40
 ·subst h40; rfl
 by_cases h91 : c = 91
 ·subst h91; rfl
 by_cases z0 : c = 123
 ·subst z0; rfl
 by_cases h41 : c = 41
 ·subst h41; rfl
 by_cases h93 : c = 93
 ·subst h93; rfl
 by_cases v0 : c = 125
 ·subst v0; rfl
 by_cases h92 : c = 92
 ·subst h92; rfl
 simp [h40, h91, z0, h41, h93, v0, h92]
end Go.Proofs.YtcnhdkhkadiohaaGreatDoor.Tk
