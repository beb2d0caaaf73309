/- The reference's tokens: bytes, names, lower letters. -/
import Derived.Test.YtcnhdkhkadiohaaGreatDoorCut
namespace Go.Proofs.YtcnhdkhkadiohaaGreatDoor.Tk
open Go Go.Eng Bld Trm Css
set_option linter.unusedVariables false
theorem byte_all {p : UInt8 → Bool} (h : (List.range 256).all (fun n => p (UInt8.ofNat n)) = true) (c : UInt8) : p c = true := by
 have h1 := List.all_eq_true.1 h c.toNat (by simpa using c.toNat_lt)
 simpa using h1
theorem byte_beq (a b : UInt8) : (((a.toNat : Int) == (b.toNat : Int)) = (a == b)) := by
 by_cases h : a = b
 ·subst h; simp
 have : ¬ ((a.toNat : Int) == (b.toNat : Int)) = true := fun e => h ((byte_eq a b).1 e)
 rw [Bool.not_eq_true] at this
 rw [this]; simpa using h
theorem beg_cons (c : UInt8) (r : Bs) : begM (c :: r) = if (c == 45 && decide (r ≠ [])) = true then (r.getD 0 0 == 45 || (startsM ((r.getD 0 0).toNat : Int) || escM r)) else (startsM (c.toNat : Int) || escM (c :: r)) := by
 unfold begM begj15M begj19M
 have e1 : ((((c :: r).getD (Int.toNat 0) 0).toNat : Int) == 45) = (c == 45) := byte_beq c 45
 have e2 : decide (((c :: r).length : Int) > 1) = decide (r ≠ []) := by
  apply decide_eq_decide.2
  cases r
  ·simp
  simp only [List.length_cons, ne_eq, reduceCtorEq, not_false_eq_true, iff_true]; omega
 have e3 : ((((c :: r).getD (Int.toNat 1) 0).toNat : Int) == 45) = (r.getD 0 0 == 45) := byte_beq (r.getD 0 0) 45
 rw [if_f (show (c :: r == ([] : Bs)) = false from rfl), e1, e2, e3]
 rfl
def rsaidS (s : Bs) (i : Int) : Bs × Int := ((nameS (s.drop i.toNat)).1, i + (nameS (s.drop i.toNat)).2)
end Go.Proofs.YtcnhdkhkadiohaaGreatDoor.Tk
