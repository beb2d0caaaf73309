/- strconv.Itoa. -/
import Derived.Test.YtogcmkphibegbaaDoorTrr
import Derived.Test.YtogcmkphibegbaaDoorByt
import Derived.Test.YtogcmkphibegbaaDoorMor
import Derived.Test.YtogcmkphibegbaaDoorLaid
import Derived.Lib.AppendIntMem
namespace Go.Proofs.YtogcmkphibegbaaDoor.Co
open Go Go.Eng Go.RowKit Go.Shelf Go.Proofs Ti
set_option linter.unusedVariables false
def DPow : List (Int) := [1, 10, 100, 1000, 10000, 100000, 1000000, 10000000, 100000000, 1000000000, 10000000000, 100000000000, 1000000000000, 10000000000000, 100000000000000, 1000000000000000, 10000000000000000, 100000000000000000, 1000000000000000000, 10000000000000000000]
def itoaS (n : Int) : List UInt8 := Lib.itoa n
def itoaP (n : Int) : Prop := -9223372036854775808 ≤ n ∧ n ≤ 9223372036854775807
theorem itoa_c {g : Ghost} (n : Int) (hG : GlobL g 7 (.int .u64) DPow) (hp : itoaP n) : CallsG Tryd.prog 48 #[.int .i64 n] g (.string ⟨⟨itoaS n⟩⟩) := fun W hW => by
 obtain ⟨xs, h1, h2⟩ := hG.var (P := Tryd.prog) hW (name := "internal/strconv.uint64pow10") (by kernel_rfl)
 have htab : Lib.TabIs Tryd.prog W "internal/strconv.uint64pow10" .u64 Lib.pow10Tab := by
  unfold Lib.TabIs
  rw [h1, repL_ints h2, show DPow = Lib.pow10Tab by decide +kernel]
 refine (Tryd.strconv_Itoa n hp.1 hp.2 W htab).mono fun e W' ⟨he, k, os, hw⟩ => ⟨he, ?_⟩
 subst hw
 exact Lib.below_grow _ W (Nat.le_refl _) k os
theorem u8i {a : UInt8} {n : Nat} (h : n < 256) : ((a.toNat : Int) == (n : Int)) = (a == UInt8.ofNat n) := by
 rw [Bool.eq_iff_iff, beq_iff_eq, beq_iff_eq]
 constructor
 ·intro h2; exact UInt8.toNat.inj (by rw [UInt8.toNat_ofNat_of_lt' (by exact h)]; omega)
 ·rintro rfl; rw [UInt8.toNat_ofNat_of_lt' (by exact h)]
end Go.Proofs.YtogcmkphibegbaaDoor.Co
