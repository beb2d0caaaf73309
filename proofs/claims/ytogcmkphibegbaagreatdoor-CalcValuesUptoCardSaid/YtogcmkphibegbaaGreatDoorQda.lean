/- strconv.Itoa. -/
import Derived.Test.YtogcmkphibegbaaGreatDoorTrr
import Derived.Test.YtogcmkphibegbaaGreatDoorByt
import Derived.Test.YtogcmkphibegbaaGreatDoorMor
import Derived.Test.YtogcmkphibegbaaGreatDoorLaid
import Derived.Lib.AppendIntMem
namespace Go.Proofs.YtogcmkphibegbaaGreatDoor.Co
open Go Go.Eng Go.RowKit Go.Shelf Go.Proofs Ti
set_option linter.unusedVariables false
def DPow : List (Int) := [1, 10, 100, 1000, 10000, 100000, 1000000, 10000000, 100000000, 1000000000, 10000000000, 100000000000, 1000000000000, 10000000000000, 100000000000000, 1000000000000000, 10000000000000000, 100000000000000000, 1000000000000000000, 10000000000000000000]
def itoaS (n : Int) : List UInt8 := Lib.itoa n
def itoaP (n : Int) : Prop := -9223372036854775808 ≤ n ∧ n ≤ 9223372036854775807
theorem itoa_c {g : Ghost} (n : Int) (hG : GlobL g 2 (.int .u64) DPow) (hp : itoaP n) : CallsG Tryz.prog 40 #[.int .i64 n] g (.string ⟨⟨itoaS n⟩⟩) := fun W hW => by
 obtain ⟨xs, h1, h2⟩ := hG.var (P := Tryz.prog) hW (name := "internal/strconv.uint64pow10") (by kernel_rfl)
 have htab : Lib.TabIs Tryz.prog W "internal/strconv.uint64pow10" .u64 Lib.pow10Tab := by
  unfold Lib.TabIs
  rw [h1, repL_ints h2, show DPow = Lib.pow10Tab by decide +kernel]
 refine (Tryz.strconv_Itoa n hp.1 hp.2 W htab).mono fun e W' ⟨he, k, os, hw⟩ => ⟨he, ?_⟩
 subst hw
 exact Lib.below_grow _ W (Nat.le_refl _) k os
end Go.Proofs.YtogcmkphibegbaaGreatDoor.Co
