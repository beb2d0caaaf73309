/- Numbers and colors as texts. -/
import Derived.Test.YteocjdpjpkjlaaaDoorArr
import Derived.Test.YteocjdpjpkjlaaaDoorTri
import Derived.Test.YteocjdpjpkjlaaaDoorByt
import Derived.Test.YteocjdpjpkjlaaaDoorMor
import Derived.Test.YteocjdpjpkjlaaaDoorLaid
import Derived.Lib.AppendIntMem
namespace Go.Proofs.YteocjdpjpkjlaaaDoor.Co
open Go Go.Eng Go.RowKit Go.Shelf Go.Proofs Ti
set_option linter.unusedVariables false
def DPow : List (Int) := [1, 10, 100, 1000, 10000, 100000, 1000000, 10000000, 100000000, 1000000000, 10000000000, 100000000000, 1000000000000, 10000000000000, 100000000000000, 1000000000000000, 10000000000000000, 100000000000000000, 1000000000000000000, 10000000000000000000]
def itoaS (n : Int) : List UInt8 := Lib.itoa n
def itoaP (n : Int) : Prop := -9223372036854775808 ≤ n ∧ n ≤ 9223372036854775807
theorem itoa_c {g : Ghost} (n : Int) (hG : GlobL g 2 (.int .u64) DPow) (hp : itoaP n) : CallsG Tryd.prog 63 #[.int .i64 n] g (.string ⟨⟨itoaS n⟩⟩) := fun W hW => by
  obtain ⟨xs, h1, h2⟩ := hG.var (P := Tryd.prog) hW (name := "internal/strconv.uint64pow10") (by kernel_rfl)
  have htab : Lib.TabIs Tryd.prog W "internal/strconv.uint64pow10" .u64 Lib.pow10Tab := by
    unfold Lib.TabIs
    rw [h1, repL_ints h2, show DPow = Lib.pow10Tab by decide +kernel]
  refine (Tryd.strconv_Itoa n hp.1 hp.2 W htab).mono fun e W' ⟨he, k, os, hw⟩ => ⟨he, ?_⟩
  subst hw
  exact Lib.below_grow _ W (Nat.le_refl _) k os
theorem byte_all {p : UInt8 → Bool} (h : (List.range 256).all (fun n => p (UInt8.ofNat n)) = true) (c : UInt8) : p c = true := by
  have h1 := List.all_eq_true.1 h c.toNat (by simpa using c.toNat_lt)
  simpa using h1
theorem u8w {x : Int} (h : 0 ≤ x ∧ x ≤ 255) : IntKind.wrap .u8 x = x := IntWalk.u8_in x h
theorem u64w {x : Int} (h : 0 ≤ x ∧ x ≤ 18446744073709551615) : IntKind.wrap .u64 x = x := by
  show x % 18446744073709551616 = x
  exact Int.emod_eq_of_lt h.1 (by omega)
theorem u8i {a : UInt8} {n : Nat} (h : n < 256) : ((a.toNat : Int) == (n : Int)) = (a == UInt8.ofNat n) := by
  rw [Bool.eq_iff_iff, beq_iff_eq, beq_iff_eq]
  constructor
  · intro h2; exact UInt8.toNat.inj (by rw [UInt8.toNat_ofNat_of_lt' (by exact h)]; omega)
  · rintro rfl; rw [UInt8.toNat_ofNat_of_lt' (by exact h)]
def rbytF (xc : Int) (xi : Int) (K : Int → Prop) : Prop :=
  (0 : Int) ≤ (IntKind.wrap .u64 (IntKind.wrap .i64 (8 * xi))) ∧ K (Int.tmod (IntKind.wrap .i64 (shrI .u32 (IntKind.wrap .u32 xc) (IntKind.wrap .u64 (IntKind.wrap .i64 (8 * xi))))) 256)
set_option maxHeartbeats 4000000 in
set_option maxRecDepth 100000 in
set_option linter.unusedVariables false in
theorem rbyt_ok {g : Ghost} (xc : Int) (xi : Int) (K : Int → Prop)
    (hF : rbytF xc xi K) : CallsH Tryd.prog 20 #[.int .i64 xc, .int .i64 xi] g [] (fun g' H' v => ∃ (r0 : Int), v = .int .i64 r0 ∧ H' = [] ∧ K r0) := by
  refine CallsH.enter 13 [(0, .int .i64 xc), (1, .int .i64 xi)] Tryd.func20 rfl (by kernel_rfl) (by kernel_rfl) (by kernel_rfl) fun w0 => ?_
  refine Ok.seq ?_
  refine Ok.region ?_
  refine Ok.batch 1 [(0, .int .i64 xc), (1, .int .i64 xi)] (by kernel_rfl) ?_
  refine Ok.nil ?_
  refine Ok.thenN ?_
  refine Ok.seq ?_
  refine Ok.region ?_
  refine Ok.batch 5 [(6, .int .u32 (IntKind.wrap .u32 xc)), (9, .int .u64 (IntKind.wrap .u64 (IntKind.wrap .i64 (8 * xi))))] (by kernel_rfl) ?_
  obtain ⟨hv, hF⟩ := hF
  refine Ok.op rfl (OpOk.step (v := .int .u32 (shrI .u32 (IntKind.wrap .u32 xc) (IntKind.wrap .u64 (IntKind.wrap .i64 (8 * xi))))) (Yields.shr rfl rfl hv) rfl rfl ?_)
  refine Ok.batch 3 [(4, .int .i64 (Int.tmod (IntKind.wrap .i64 (shrI .u32 (IntKind.wrap .u32 xc) (IntKind.wrap .u64 (IntKind.wrap .i64 (8 * xi))))) 256))] (by kernel_rfl) ?_
  refine Ok.nil ?_
  refine Ok.thenN ?_
  refine Ok.ret ?_
  exact Ok.resH (vs := [.int .i64 (Int.tmod (IntKind.wrap .i64 (shrI .u32 (IntKind.wrap .u32 xc) (IntKind.wrap .u64 (IntKind.wrap .i64 (8 * xi))))) 256)]) (.inl rfl) rfl (.cons (.tmp rfl) .nil) (Gext.refl w0 g) ⟨(Int.tmod (IntKind.wrap .i64 (shrI .u32 (IntKind.wrap .u32 xc) (IntKind.wrap .u64 (IntKind.wrap .i64 (8 * xi))))) 256), rfl, rfl, hF⟩
def rbytM (xc : Int) (xi : Int) : Int := (Int.tmod (IntKind.wrap .i64 (shrI .u32 (IntKind.wrap .u32 xc) (IntKind.wrap .u64 (IntKind.wrap .i64 (8 * xi))))) 256)
set_option linter.unusedSimpArgs false in
set_option linter.unusedVariables false in
theorem rbytF_A (xc : Int) (xi : Int) (P : Int → Prop) (h : P (rbytM xc xi)) : rbytF xc xi (fun k0 => P k0) := by
  unfold rbytM at h
  unfold rbytF
  refine ⟨?_, ?_⟩
  · first | (exact Int.emod_nonneg _ (by decide)) | omega | assumption | exact trivial | (have h0 := List.length_pos_iff.mpr (by assumption); omega) | (simp; omega) | (simp at *; omega)
  exact h
theorem rbyt_F (xc : Int) (xi : Int) : rbytF xc xi (fun k0 => k0 = rbytM xc xi) :=
  rbytF_A xc xi (fun z => z = rbytM xc xi) rfl
set_option linter.unusedVariables false in
theorem rbyt_c {g : Ghost} (xc : Int) (xi : Int)  : CallsG Tryd.prog 20 #[.int .i64 xc, .int .i64 xi] g (.int .i64 (rbytM xc xi)) :=
  (rbyt_ok xc xi _ (rbyt_F xc xi)).gives (by rintro g' H' v _ ⟨r0, rfl, rfl, hK⟩; subst hK; rfl)
def atP (c i : Int) : Prop := 0 ≤ i ∧ i ≤ 3
def cprtF (xc : Int) (xat : Int) (K : Int → Prop) : Prop :=
  (0 : Int) ≤ (IntKind.wrap .i64 (8 * xat)) ∧ K (IntKind.wrap .i64 (bitAnd .u32 (shrI .u32 (IntKind.wrap .u32 xc) (IntKind.wrap .i64 (8 * xat))) 255))
set_option maxHeartbeats 4000000 in
set_option maxRecDepth 100000 in
set_option linter.unusedVariables false in
theorem cprt_ok {g : Ghost} (xc : Int) (xat : Int) (K : Int → Prop)
    (hF : cprtF xc xat K) : CallsH Tryd.prog 52 #[.int .i64 xc, .int .i64 xat] g [] (fun g' H' v => ∃ (r0 : Int), v = .int .i64 r0 ∧ H' = [] ∧ K r0) := by
  refine CallsH.enter 12 [(0, .int .i64 xc), (1, .int .i64 xat)] Tryd.func52 rfl (by kernel_rfl) (by kernel_rfl) (by kernel_rfl) fun w0 => ?_
  refine Ok.seq ?_
  refine Ok.region ?_
  refine Ok.batch 1 [(0, .int .i64 xc), (1, .int .i64 xat)] (by kernel_rfl) ?_
  refine Ok.nil ?_
  refine Ok.thenN ?_
  refine Ok.seq ?_
  refine Ok.region ?_
  refine Ok.batch 4 [(6, .int .u32 (IntKind.wrap .u32 xc)), (8, .int .i64 (IntKind.wrap .i64 (8 * xat)))] (by kernel_rfl) ?_
  obtain ⟨hv, hF⟩ := hF
  refine Ok.op rfl (OpOk.step (v := .int .u32 (shrI .u32 (IntKind.wrap .u32 xc) (IntKind.wrap .i64 (8 * xat)))) (Yields.shr rfl rfl hv) rfl rfl ?_)
  refine Ok.batch 3 [(4, .int .i64 (IntKind.wrap .i64 (bitAnd .u32 (shrI .u32 (IntKind.wrap .u32 xc) (IntKind.wrap .i64 (8 * xat))) 255)))] (by kernel_rfl) ?_
  refine Ok.nil ?_
  refine Ok.thenN ?_
  refine Ok.ret ?_
  exact Ok.resH (vs := [.int .i64 (IntKind.wrap .i64 (bitAnd .u32 (shrI .u32 (IntKind.wrap .u32 xc) (IntKind.wrap .i64 (8 * xat))) 255))]) (.inl rfl) rfl (.cons (.tmp rfl) .nil) (Gext.refl w0 g) ⟨(IntKind.wrap .i64 (bitAnd .u32 (shrI .u32 (IntKind.wrap .u32 xc) (IntKind.wrap .i64 (8 * xat))) 255)), rfl, rfl, hF⟩
def cprtM (xc : Int) (xat : Int) : Int := (IntKind.wrap .i64 (bitAnd .u32 (shrI .u32 (IntKind.wrap .u32 xc) (IntKind.wrap .i64 (8 * xat))) 255))
set_option linter.unusedSimpArgs false in
set_option linter.unusedVariables false in
theorem cprtF_A (xc : Int) (xat : Int) (hp : atP xc xat) (P : Int → Prop) (h : P (cprtM xc xat)) : cprtF xc xat (fun k0 => P k0) := by
  unfold cprtM at h
  unfold cprtF
  refine ⟨?_, ?_⟩
  · first | (unfold atP at hp; rw [w64 (by omega)]; omega) | (exact Int.emod_nonneg _ (by decide)) | omega | assumption | exact trivial | (have h0 := List.length_pos_iff.mpr (by assumption); omega) | (simp; omega) | (simp at *; omega)
  exact h
theorem cprt_F (xc : Int) (xat : Int) (hp : atP xc xat) : cprtF xc xat (fun k0 => k0 = cprtM xc xat) :=
  cprtF_A xc xat hp (fun z => z = cprtM xc xat) rfl
set_option linter.unusedVariables false in
theorem cprt_c {g : Ghost} (xc : Int) (xat : Int)  (hp : atP xc xat) : CallsG Tryd.prog 52 #[.int .i64 xc, .int .i64 xat] g (.int .i64 (cprtM xc xat)) :=
  (cprt_ok xc xat _ (cprt_F xc xat hp)).gives (by rintro g' H' v _ ⟨r0, rfl, rfl, hK⟩; subst hK; rfl)
theorem and255 {y : Int} (h : 0 ≤ y ∧ y < 4294967296) : bitAnd .u32 y 255 = y % 256 := by
  obtain ⟨a, rfl⟩ := Int.eq_ofNat_of_zero_le h.1
  unfold bitAnd
  rw [show IntKind.bits .u32 = 32 from rfl, BitVec.ofInt_natCast, show (255 : Int) = ((255 : Nat) : Int) from rfl, BitVec.ofInt_natCast, BitVec.toNat_and, BitVec.toNat_ofNat, BitVec.toNat_ofNat, Nat.mod_eq_of_lt (show a < 2 ^ 32 by omega), Nat.mod_eq_of_lt (show 255 < 2 ^ 32 by omega),
    show (255 : Nat) = 2 ^ 8 - 1 from rfl, Nat.and_two_pow_sub_one_eq_mod]
  show (((a % 2 ^ 8 : Nat) : Int)) % 4294967296 = (a : Int) % 256
  omega
theorem u32_in (c : Int) : 0 ≤ IntKind.wrap .u32 c ∧ IntKind.wrap .u32 c < 4294967296 := by
  show 0 ≤ c % 4294967296 ∧ c % 4294967296 < 4294967296
  omega
def byt (c : Int) (i : Nat) : Int := IntKind.wrap .u32 c / 256 ^ i % 256
theorem byt_in (c : Int) (i : Nat) : 0 ≤ byt c i ∧ byt c i ≤ 255 := by unfold byt; omega
theorem part_eq (c : Int) (i : Nat) (h : i ≤ 3) : cprtM c (i : Int) = byt c i ∧ rbytM c (i : Int) = byt c i := by
  have hu := u32_in c
  have key : ∀ (i : Nat) (p : Int), 0 < p → (2 : Int) ^ (min (Int.toNat (IntKind.wrap .i64 (8 * (i : Int)))) 32) = p → (2 : Int) ^ (min (Int.toNat (IntKind.wrap .u64 (IntKind.wrap .i64 (8 * (i : Int))))) 32) = p → (256 : Int) ^ i = p → cprtM c (i : Int) = byt c i ∧ rbytM c (i : Int) = byt c i := by
    intro i p hp h1 h2 h3
    have hle : IntKind.wrap .u32 c / p ≤ IntKind.wrap .u32 c := Int.ediv_le_self _ hu.1
    have h0 : 0 ≤ IntKind.wrap .u32 c / p := Int.ediv_nonneg hu.1 (by omega)
    have e1 : shrI .u32 (IntKind.wrap .u32 c) (IntKind.wrap .i64 (8 * (i : Int))) = IntKind.wrap .u32 c / p := by
      show (IntKind.wrap .u32 c).fdiv (2 ^ (min (Int.toNat (IntKind.wrap .i64 (8 * (i : Int)))) 32)) = _
      rw [h1, Int.fdiv_eq_ediv_of_nonneg _ (by omega)]
    have e2 : shrI .u32 (IntKind.wrap .u32 c) (IntKind.wrap .u64 (IntKind.wrap .i64 (8 * (i : Int)))) = IntKind.wrap .u32 c / p := by
      show (IntKind.wrap .u32 c).fdiv (2 ^ (min (Int.toNat (IntKind.wrap .u64 (IntKind.wrap .i64 (8 * (i : Int))))) 32)) = _
      rw [h2, Int.fdiv_eq_ediv_of_nonneg _ (by omega)]
    unfold cprtM rbytM byt
    rw [e1, e2, h3, and255 (by omega), w64 (by omega), w64 (by omega), Int.tmod_eq_emod_of_nonneg h0]
    exact ⟨rfl, rfl⟩
  have hi : i = 0 ∨ i = 1 ∨ i = 2 ∨ i = 3 := by omega
  rcases hi with rfl | rfl | rfl | rfl
  · exact key 0 1 (by decide) (by decide) (by decide) (by decide)
  · exact key 1 256 (by decide) (by decide) (by decide) (by decide)
  · exact key 2 65536 (by decide) (by decide) (by decide) (by decide)
  · exact key 3 16777216 (by decide) (by decide) (by decide) (by decide)
def DBru : List (Int) := [0, 1, 56, 2, 57, 49, 28, 3, 61, 58, 42, 50, 38, 29, 17, 4, 62, 47, 59, 36, 45, 43, 51, 22, 53, 39, 33, 30, 24, 18, 12, 5, 63, 55, 48, 27, 60, 41, 37, 16, 46, 35, 44, 21, 52, 32, 23, 11, 54, 26, 40, 15, 34, 20, 31, 10, 25, 14, 19, 9, 13, 8, 7, 6]
def tz64F (K : Int → Prop) : Prop :=
  (0 : Int) ≤ 15 ∧ Int.toNat 15 < DBru.length ∧ K (IntKind.wrap .i64 (DBru.getD (Int.toNat 15) default))
set_option maxHeartbeats 4000000 in
set_option maxRecDepth 100000 in
set_option linter.unusedVariables false in
theorem tz64_ok {g : Ghost}  (hG8 : GlobL g 8 (.int .u8) DBru) (K : Int → Prop)
    (hF : tz64F K) : CallsH Tryd.prog 148 #[.int .u64 16] g [] (fun g' H' v => ∃ (r0 : Int), v = .int .i64 r0 ∧ H' = [] ∧ K r0) := by
  refine CallsH.enter 14 [(0, .int .u64 16)] Tryd.func148 rfl (by kernel_rfl) (by kernel_rfl) (by kernel_rfl) fun w0 => ?_
  refine Ok.seq ?_
  refine Ok.region ?_
  refine Ok.batch 1 [(0, .int .u64 16)] (by kernel_rfl) ?_
  refine Ok.nil ?_
  refine Ok.thenN ?_
  refine Ok.seq ?_
  refine Ok.seq ?_
  refine Ok.region ?_
  refine Ok.batch 2 [(0, .int .u64 16), (4, .bool false)] (by kernel_rfl) ?_
  refine Ok.nil ?_
  refine Ok.thenN ?_
  refine Ok.cond (b := false) rfl (fun h => by cases h) (fun _ => ?_)
  refine Ok.skip ?_
  refine Ok.thenN ?_
  refine Ok.seq ?_
  refine Ok.region ?_
  refine Ok.batch 6 [(10, .int .u64 15)] (by kernel_rfl) ?_
  obtain ⟨h02, h12, hF⟩ := hF
  have he2 := get_of (l := DBru) (default : Int) h12
  generalize hg2 : (DBru.getD (Int.toNat 15) default) = e2 at he2 hF ⊢
  refine Ok.op rfl (OpOk.indexGlob (e := .int .u8) (L := DBru) (q := 15) (el := e2) hG8 rfl rfl Tryd.underlying164 (by kernel_rfl) rfl h02 he2 rfl fun cs1 _ hat1 hr1 => ?_)
  obtain rfl := hr1
  replace hat1 : At g 8 (Int.toNat 15 * 1) [.int .u8 e2] := hat1
  refine Ok.op rfl (OpOk.step (v := .int .u8 e2) (Yields.loadRo 0 hat1 (by kernel_rfl) Tryd.underlying5 rfl (by kernel_rfl)) rfl rfl ?_)
  refine Ok.batch 2 [(2, .int .i64 (IntKind.wrap .i64 e2))] (by kernel_rfl) ?_
  refine Ok.nil ?_
  refine Ok.thenN ?_
  refine Ok.ret ?_
  exact Ok.resH (vs := [.int .i64 (IntKind.wrap .i64 e2)]) (.inl rfl) rfl (.cons (.tmp rfl) .nil) (Gext.refl w0 g) ⟨(IntKind.wrap .i64 e2), rfl, rfl, hF⟩
def tz64M : Int := (IntKind.wrap .i64 (DBru.getD (Int.toNat 15) default))
set_option linter.unusedSimpArgs false in
set_option linter.unusedVariables false in
theorem tz64F_A (P : Int → Prop) (h : P (tz64M)) : tz64F (fun k0 => P k0) := by
  unfold tz64M at h
  unfold tz64F
  have hlen_DBru : DBru.length = 64 := by first | rfl | decide
  refine ⟨?_, ?_, ?_⟩
  · first | decide +kernel | omega | assumption | exact trivial | (have h0 := List.length_pos_iff.mpr (by assumption); omega) | (simp; omega) | (simp at *; omega)
  · first | decide +kernel | omega | assumption | exact trivial | (have h0 := List.length_pos_iff.mpr (by assumption); omega) | (simp; omega) | (simp at *; omega)
  exact h
theorem tz64_F : tz64F (fun k0 => k0 = tz64M) :=
  tz64F_A (fun z => z = tz64M) rfl
set_option linter.unusedVariables false in
theorem tz64_c {g : Ghost}  (hG8 : GlobL g 8 (.int .u8) DBru)  : CallsG Tryd.prog 148 #[.int .u64 16] g (.int .i64 tz64M) :=
  (tz64_ok  hG8 _ (tz64_F )).gives (by rintro g' H' v _ ⟨r0, rfl, rfl, hK⟩; subst hK; rfl)
def tzF (K : Int → Prop) : Prop :=
  K tz64M
set_option maxHeartbeats 4000000 in
set_option maxRecDepth 100000 in
set_option linter.unusedVariables false in
theorem tz_ok {g : Ghost}  (hG8 : GlobL g 8 (.int .u8) DBru) (K : Int → Prop)
    (hF : tzF K) : CallsH Tryd.prog 136 #[.int .u64 16] g [] (fun g' H' v => ∃ (r0 : Int), v = .int .i64 r0 ∧ H' = [] ∧ K r0) := by
  refine CallsH.enter 8 [(0, .int .u64 16)] Tryd.func136 rfl (by kernel_rfl) (by kernel_rfl) (by kernel_rfl) fun w0 => ?_
  refine Ok.seq ?_
  refine Ok.region ?_
  refine Ok.batch 1 [(0, .int .u64 16)] (by kernel_rfl) ?_
  refine Ok.nil ?_
  refine Ok.thenN ?_
  refine Ok.seq ?_
  refine Ok.cond (b := false) rfl (fun h => by cases h) (fun _ => ?_)
  refine Ok.skip ?_
  refine Ok.thenN ?_
  refine Ok.seq ?_
  refine Ok.region ?_
  refine Ok.batch 1 [(6, .int .u64 16)] (by kernel_rfl) ?_
  refine Ok.op rfl (OpOk.callG (v := .int .i64 tz64M) (enters (by kernel_rfl) (fun _ => by kernel_rfl)) (fun W hW => tz64_c  (hG8.mono hW.sees)) rfl ?_)
  refine Ok.batch 1 [(2, .int .i64 tz64M)] (by kernel_rfl) ?_
  refine Ok.nil ?_
  refine Ok.thenN ?_
  refine Ok.ret ?_
  exact Ok.resH (vs := [.int .i64 tz64M]) (.inl rfl) rfl (.cons (.tmp rfl) .nil) (Gext.refl w0 g) ⟨tz64M, rfl, rfl, hF⟩
def tzM : Int := tz64M
set_option linter.unusedSimpArgs false in
set_option linter.unusedVariables false in
theorem tzF_A (P : Int → Prop) (h : P (tzM)) : tzF (fun k0 => P k0) := by
  unfold tzM at h
  unfold tzF
  exact h
theorem tz_F : tzF (fun k0 => k0 = tzM) :=
  tzF_A (fun z => z = tzM) rfl
set_option linter.unusedVariables false in
theorem tz_c {g : Ghost}  (hG8 : GlobL g 8 (.int .u8) DBru)  : CallsG Tryd.prog 136 #[.int .u64 16] g (.int .i64 tzM) :=
  (tz_ok  hG8 _ (tz_F )).gives (by rintro g' H' v _ ⟨r0, rfl, rfl, hK⟩; subst hK; rfl)
def fbtl31b (K : (List (Int)) → (List UInt8) → Prop) (x1l31 : Int) (x13l31 : Int) (yown_b2_0l31 : List (Int)) (C31 : Int → Int → (List (Int)) → Prop) : Prop :=
  ((decide (x1l31 ≥ 16)) = true → (0 : Int) ≤ (bitAnd .u64 x1l31 15) ∧ Int.toNat (bitAnd .u64 x1l31 15) < ([48, 49, 50, 51, 52, 53, 54, 55, 56, 57, 97, 98, 99, 100, 101, 102, 103, 104, 105, 106, 107, 108, 109, 110, 111, 112, 113, 114, 115, 116, 117, 118, 119, 120, 121, 122] : List UInt8).length ∧ (0 : Int) ≤ (IntKind.wrap .i64 (x13l31 - 1)) ∧ Int.toNat (IntKind.wrap .i64 (x13l31 - 1)) < yown_b2_0l31.length ∧ (0 : Int) ≤ (IntKind.wrap .u64 tzM) ∧ C31 (shrI .u64 x1l31 (IntKind.wrap .u64 tzM)) (IntKind.wrap .i64 (x13l31 - 1)) (yown_b2_0l31.set (Int.toNat (IntKind.wrap .i64 (x13l31 - 1))) ((([48, 49, 50, 51, 52, 53, 54, 55, 56, 57, 97, 98, 99, 100, 101, 102, 103, 104, 105, 106, 107, 108, 109, 110, 111, 112, 113, 114, 115, 116, 117, 118, 119, 120, 121, 122] : List UInt8).getD (Int.toNat (bitAnd .u64 x1l31 15)) 0).toNat : Int))) ∧ ((decide (x1l31 ≥ 16)) = false → (0 : Int) ≤ x1l31 ∧ Int.toNat x1l31 < ([48, 49, 50, 51, 52, 53, 54, 55, 56, 57, 97, 98, 99, 100, 101, 102, 103, 104, 105, 106, 107, 108, 109, 110, 111, 112, 113, 114, 115, 116, 117, 118, 119, 120, 121, 122] : List UInt8).length ∧ (0 : Int) ≤ (IntKind.wrap .i64 (x13l31 - 1)) ∧ Int.toNat (IntKind.wrap .i64 (x13l31 - 1)) < yown_b2_0l31.length ∧ (0 : Int) ≤ (IntKind.wrap .i64 (x13l31 - 1)) ∧ ((IntKind.wrap .i64 (x13l31 - 1)) : Int) ≤ ((yown_b2_0l31.set (Int.toNat (IntKind.wrap .i64 (x13l31 - 1))) ((([48, 49, 50, 51, 52, 53, 54, 55, 56, 57, 97, 98, 99, 100, 101, 102, 103, 104, 105, 106, 107, 108, 109, 110, 111, 112, 113, 114, 115, 116, 117, 118, 119, 120, 121, 122] : List UInt8).getD (Int.toNat x1l31) 0).toNat : Int)).length : Int) ∧ ((yown_b2_0l31.set (Int.toNat (IntKind.wrap .i64 (x13l31 - 1))) ((([48, 49, 50, 51, 52, 53, 54, 55, 56, 57, 97, 98, 99, 100, 101, 102, 103, 104, 105, 106, 107, 108, 109, 110, 111, 112, 113, 114, 115, 116, 117, 118, 119, 120, 121, 122] : List UInt8).getD (Int.toNat x1l31) 0).toNat : Int)).length : Int) ≤ ((yown_b2_0l31.set (Int.toNat (IntKind.wrap .i64 (x13l31 - 1))) ((([48, 49, 50, 51, 52, 53, 54, 55, 56, 57, 97, 98, 99, 100, 101, 102, 103, 104, 105, 106, 107, 108, 109, 110, 111, 112, 113, 114, 115, 116, 117, 118, 119, 120, 121, 122] : List UInt8).getD (Int.toNat x1l31) 0).toNat : Int)).length : Int) ∧ K ([] : List (Int)) (bytesOf ((yown_b2_0l31.set (Int.toNat (IntKind.wrap .i64 (x13l31 - 1))) ((([48, 49, 50, 51, 52, 53, 54, 55, 56, 57, 97, 98, 99, 100, 101, 102, 103, 104, 105, 106, 107, 108, 109, 110, 111, 112, 113, 114, 115, 116, 117, 118, 119, 120, 121, 122] : List UInt8).getD (Int.toNat x1l31) 0).toNat : Int)).drop (Int.toNat (IntKind.wrap .i64 (x13l31 - 1))))))
def fbtl31 (K : (List (Int)) → (List UInt8) → Prop) : Nat → Int → Int → (List (Int)) → Prop
  | 0, _, _, _ => False
  | k + 1, x1l31, x13l31, yown_b2_0l31 => fbtl31b K x1l31 x13l31 yown_b2_0l31 (fbtl31 K k)
def fbtF (xdst : List (Int)) (xu : Int) (K : (List (Int)) → (List UInt8) → Prop) : Prop :=
  ∃ k, fbtl31 K k xu 65 (List.replicate 65 (0 : Int))
set_option maxHeartbeats 4000000 in
set_option maxRecDepth 100000 in
set_option linter.unusedVariables false in
theorem fbt_ok {g : Ghost} {axdst_0 : Option Addr} {cxdst_0 : Nat} (xdst : List (Int)) (xu : Int) (hRxdst_0 : Rep g (.slice (.int .u8)) [.slice axdst_0 xdst.length cxdst_0] xdst) (hG8 : GlobL g 8 (.int .u8) DBru) (K : (List (Int)) → (List UInt8) → Prop)
    (hF : fbtF xdst xu K) : CallsH Tryd.prog 106 #[.slice axdst_0 xdst.length cxdst_0, .int .u64 xu, .int .i64 16, .bool false, .bool false] g [] (fun g' H' v => ∃ (r0 : List (Int)), ∃ (r1 : List UInt8), ∃ (ar0_0 : Option Addr) (cr0_0 : Nat), v = .tuple #[.slice ar0_0 r0.length cr0_0, .string ⟨⟨r1⟩⟩] ∧ Rep g' (.slice (.int .u8)) [.slice ar0_0 r0.length cr0_0] r0 ∧ H' = [] ∧ K r0 r1) := by
  refine CallsH.enter 102 [(0, .slice axdst_0 xdst.length cxdst_0), (1, .int .u64 xu), (2, .int .i64 16), (3, .bool false), (4, .bool false)] Tryd.func106 rfl (by kernel_rfl) (by kernel_rfl) (by kernel_rfl) fun w0 => ?_
  refine Ok.seq ?_
  refine Ok.region ?_
  refine Ok.batch 1 [(0, .slice axdst_0 xdst.length cxdst_0), (1, .int .u64 xu), (2, .int .i64 16), (3, .bool false), (4, .bool false), (10, .slice none 0 0)] (by kernel_rfl) ?_
  have hL1 : RepL g (.int .u8) [] [] := rfl
  refine Ok.ownNil 5 1 ?_
  refine Ok.batch 1 [(0, .slice axdst_0 xdst.length cxdst_0), (1, .int .u64 xu), (2, .int .i64 16), (3, .bool false), (4, .bool false), (10, .slice none ([] : List (Int)).length 0), (11, .string ⟨⟨([] : List UInt8)⟩⟩)] (by kernel_rfl) ?_
  refine Ok.nil ?_
  refine Ok.thenN ?_
  refine Ok.seq ?_
  refine Ok.seq ?_
  refine Ok.region ?_
  refine Ok.batch 10 [(0, .slice axdst_0 xdst.length cxdst_0), (1, .int .u64 xu), (2, .int .i64 16), (3, .bool false), (4, .bool false), (10, .slice none ([] : List (Int)).length 0), (11, .string ⟨⟨([] : List UInt8)⟩⟩), (28, .bool false)] (by kernel_rfl) ?_
  refine Ok.nil ?_
  refine Ok.thenN ?_
  refine Ok.cond (b := false) rfl (fun h => by cases h) (fun _ => ?_)
  refine Ok.skip ?_
  refine Ok.thenN ?_
  refine Ok.seq ?_
  refine Ok.region ?_
  refine Ok.op rfl (OpOk.alloc (z := .agg #[.int .u8 0, .int .u8 0, .int .u8 0, .int .u8 0, .int .u8 0, .int .u8 0, .int .u8 0, .int .u8 0, .int .u8 0, .int .u8 0, .int .u8 0, .int .u8 0, .int .u8 0, .int .u8 0, .int .u8 0, .int .u8 0, .int .u8 0, .int .u8 0, .int .u8 0, .int .u8 0, .int .u8 0, .int .u8 0, .int .u8 0, .int .u8 0, .int .u8 0, .int .u8 0, .int .u8 0, .int .u8 0, .int .u8 0, .int .u8 0, .int .u8 0, .int .u8 0, .int .u8 0, .int .u8 0, .int .u8 0, .int .u8 0, .int .u8 0, .int .u8 0, .int .u8 0, .int .u8 0, .int .u8 0, .int .u8 0, .int .u8 0, .int .u8 0, .int .u8 0, .int .u8 0, .int .u8 0, .int .u8 0, .int .u8 0, .int .u8 0, .int .u8 0, .int .u8 0, .int .u8 0, .int .u8 0, .int .u8 0, .int .u8 0, .int .u8 0, .int .u8 0, .int .u8 0, .int .u8 0, .int .u8 0, .int .u8 0, .int .u8 0, .int .u8 0, .int .u8 0]) (cs := ⟨((List.replicate 65 (0 : Int)).map (Value.int .u8))⟩) (by kernel_rfl) (by kernel_rfl) rfl fun b2 => ?_)
  have hL2 : RepL g (.int .u8) ((List.replicate 65 (0 : Int)).map (Value.int .u8)) (List.replicate 65 (0 : Int)) := repInts _
  refine Ok.arr (k := 65) rfl rfl ?_
  refine Ok.nil ?_
  refine Ok.thenN ?_
  refine Ok.seq ?_
  refine Ok.region ?_
  refine Ok.batch 1 [(0, .slice axdst_0 xdst.length cxdst_0), (1, .int .u64 xu), (2, .int .i64 16), (3, .bool false), (4, .bool false), (10, .slice none ([] : List (Int)).length 0), (11, .string ⟨⟨([] : List UInt8)⟩⟩), (12, .pointer (some ⟨b2, 0, none⟩)), (13, .int .i64 65)] (by kernel_rfl) ?_
  refine Ok.nil ?_
  refine Ok.thenN ?_
  refine Ok.seq ?_
  refine Ok.seq ?_
  refine Ok.region ?_
  refine Ok.batch 1 [(0, .slice axdst_0 xdst.length cxdst_0), (1, .int .u64 xu), (2, .int .i64 16), (3, .bool false), (4, .bool false), (10, .slice none ([] : List (Int)).length 0), (11, .string ⟨⟨([] : List UInt8)⟩⟩), (12, .pointer (some ⟨b2, 0, none⟩)), (13, .int .i64 65), (30, .bool false)] (by kernel_rfl) ?_
  refine Ok.nil ?_
  refine Ok.thenN ?_
  refine Ok.cond (b := false) rfl (fun h => by cases h) (fun _ => ?_)
  refine Ok.skip ?_
  refine Ok.thenN ?_
  refine Ok.seq ?_
  refine Ok.seq ?_
  refine Ok.region ?_
  refine Ok.batch 1 [(0, .slice axdst_0 xdst.length cxdst_0), (1, .int .u64 xu), (2, .int .i64 16), (3, .bool false), (4, .bool false), (10, .slice none ([] : List (Int)).length 0), (11, .string ⟨⟨([] : List UInt8)⟩⟩), (12, .pointer (some ⟨b2, 0, none⟩)), (13, .int .i64 65), (33, .int .i64 16)] (by kernel_rfl) ?_
  refine Ok.op rfl (OpOk.inline (args := #[.int .i64 16]) 8 [(0, .int .i64 16)] (enters (by kernel_rfl) (fun _ => by kernel_rfl)) Tryd.func135 rfl rfl rfl rfl ?_)
  refine Ok.seq ?_
  refine Ok.region ?_
  refine Ok.batch 1 [(0, .int .i64 16)] (by kernel_rfl) ?_
  refine Ok.nil ?_
  refine Ok.thenN ?_
  refine Ok.seq ?_
  refine Ok.region ?_
  refine Ok.batch 6 [(2, .bool true)] (by kernel_rfl) ?_
  refine Ok.nil ?_
  refine Ok.thenN ?_
  refine Ok.ret ?_
  refine Ok.back (vs := [.bool true]) (.inl rfl) rfl (.cons (.tmp rfl) .nil) rfl ?_
  refine Ok.nil ?_
  refine Ok.thenN ?_
  refine Ok.cond (b := true) rfl (fun _ => ?_) (fun h => by cases h)
  refine Ok.seq ?_
  refine Ok.region ?_
  refine Ok.batch 2 [(0, .slice axdst_0 xdst.length cxdst_0), (1, .int .u64 xu), (2, .int .i64 16), (3, .bool false), (4, .bool false), (10, .slice none ([] : List (Int)).length 0), (11, .string ⟨⟨([] : List UInt8)⟩⟩), (12, .pointer (some ⟨b2, 0, none⟩)), (13, .int .i64 65), (36, .int .u64 16)] (by kernel_rfl) ?_
  refine Ok.op rfl (OpOk.callG (v := .int .i64 tzM) (enters (by kernel_rfl) (fun _ => by kernel_rfl)) (fun W hW => tz_c  (hG8.mono hW.sees)) rfl ?_)
  refine Ok.batch 2 [(0, .slice axdst_0 xdst.length cxdst_0), (1, .int .u64 xu), (2, .int .i64 16), (3, .bool false), (4, .bool false), (10, .slice none ([] : List (Int)).length 0), (11, .string ⟨⟨([] : List UInt8)⟩⟩), (12, .pointer (some ⟨b2, 0, none⟩)), (13, .int .i64 65), (14, .int .u64 (IntKind.wrap .u64 tzM))] (by kernel_rfl) ?_
  refine Ok.nil ?_
  refine Ok.thenN ?_
  refine Ok.seq ?_
  refine Ok.region ?_
  refine Ok.batch 3 [(0, .slice axdst_0 xdst.length cxdst_0), (1, .int .u64 xu), (2, .int .i64 16), (3, .bool false), (4, .bool false), (10, .slice none ([] : List (Int)).length 0), (11, .string ⟨⟨([] : List UInt8)⟩⟩), (12, .pointer (some ⟨b2, 0, none⟩)), (13, .int .i64 65), (14, .int .u64 (IntKind.wrap .u64 tzM)), (15, .int .u64 16)] (by kernel_rfl) ?_
  refine Ok.nil ?_
  refine Ok.thenN ?_
  refine Ok.seq ?_
  refine Ok.region ?_
  refine Ok.batch 4 [(0, .slice axdst_0 xdst.length cxdst_0), (1, .int .u64 xu), (3, .bool false), (4, .bool false), (10, .slice none ([] : List (Int)).length 0), (11, .string ⟨⟨([] : List UInt8)⟩⟩), (12, .pointer (some ⟨b2, 0, none⟩)), (13, .int .i64 65), (14, .int .u64 (IntKind.wrap .u64 tzM)), (15, .int .u64 16), (16, .int .u64 15)] (by kernel_rfl) ?_
  refine Ok.nil ?_
  refine Ok.thenN ?_
  refine Ok.seq ?_
  refine Ok.block ?_
  obtain ⟨k, hF⟩ := hF
  refine Ok.loop (fun k a W => ∃ gl31 : Ghost, Gext w0 g gl31 ∧ ∃ (x1l31 : Int) (x13l31 : Int) (yown_b2_0l31 : List (Int)) (xsyown_b2_0l31 : List Value), RepL gl31 (.int .u8) xsyown_b2_0l31 yown_b2_0l31 ∧ yown_b2_0l31.length = (List.replicate 65 (0 : Int)).length ∧ StA 102 [(0, .slice axdst_0 xdst.length cxdst_0), (1, .int .u64 x1l31), (3, .bool false), (4, .bool false), (10, .slice none ([] : List (Int)).length 0), (11, .string ⟨⟨([] : List UInt8)⟩⟩), (12, .pointer (some ⟨b2, 0, none⟩)), (13, .int .i64 x13l31), (14, .int .u64 (IntKind.wrap .u64 tzM)), (15, .int .u64 16), (16, .int .u64 15)] a ∧ StW w0 [.own (.slice (some ⟨b2, 0, none⟩) yown_b2_0l31.length 65) 146 1 yown_b2_0l31.length xsyown_b2_0l31, .own (.slice none ([] : List (Int)).length 0) 5 1 ([] : List (Int)).length ([])] gl31 W ∧ fbtl31 K k x1l31 x13l31 yown_b2_0l31) k ?_ ?_
  ·
    exact fun a W hA hW => ⟨g, (Gext.refl w0 g), xu, 65, (List.replicate 65 (0 : Int)), ((List.replicate 65 (0 : Int)).map (Value.int .u8)), hL2, rfl, hA.sub (by kernel_rfl), hW, hF⟩
  ·
    clear hF
    rintro k31 a W ⟨gl31, hxl31, x1l31, x13l31, yown_b2_0l31, xsyown_b2_0l31, hLyown_b2_0l31, hnyown_b2_0l31, hA, hW, hF⟩
    cases k31 with
    | zero => exact (hF : False).elim
    | succ k31 =>
      refine (?_ : Ok _ _ _ _ _ _) a W hA hW
      clear hA hW
      replace hRxdst_0 := hRxdst_0.mono hxl31.1
      replace hL1 := hL1.mono hxl31.1
      replace hG8 := hG8.mono hxl31.1
      refine Ok.seq ?_
      refine Ok.seq ?_
      refine Ok.region ?_
      refine Ok.batch 3 [(0, .slice axdst_0 xdst.length cxdst_0), (1, .int .u64 x1l31), (3, .bool false), (4, .bool false), (10, .slice none ([] : List (Int)).length 0), (11, .string ⟨⟨([] : List UInt8)⟩⟩), (12, .pointer (some ⟨b2, 0, none⟩)), (13, .int .i64 x13l31), (14, .int .u64 (IntKind.wrap .u64 tzM)), (15, .int .u64 16), (16, .int .u64 15), (46, .bool (decide (x1l31 ≥ 16)))] (by kernel_rfl) ?_
      refine Ok.nil ?_
      refine Ok.thenN ?_
      refine Ok.cond (b := decide (x1l31 ≥ 16)) rfl (fun hc3 => ?_) (fun hc3 => ?_)
      · replace hF := hF.1 hc3
        refine Ok.skip ?_
        refine Ok.thenN ?_
        refine Ok.block ?_
        refine Ok.seq ?_
        refine Ok.region ?_
        refine Ok.batch 3 [(0, .slice axdst_0 xdst.length cxdst_0), (1, .int .u64 x1l31), (3, .bool false), (4, .bool false), (10, .slice none ([] : List (Int)).length 0), (11, .string ⟨⟨([] : List UInt8)⟩⟩), (12, .pointer (some ⟨b2, 0, none⟩)), (13, .int .i64 (IntKind.wrap .i64 (x13l31 - 1))), (14, .int .u64 (IntKind.wrap .u64 tzM)), (15, .int .u64 16), (16, .int .u64 15)] (by kernel_rfl) ?_
        refine Ok.nil ?_
        refine Ok.thenN ?_
        refine Ok.seq ?_
        refine Ok.region ?_
        refine Ok.batch 4 [(0, .slice axdst_0 xdst.length cxdst_0), (1, .int .u64 x1l31), (3, .bool false), (4, .bool false), (10, .slice none ([] : List (Int)).length 0), (11, .string ⟨⟨([] : List UInt8)⟩⟩), (12, .pointer (some ⟨b2, 0, none⟩)), (13, .int .i64 (IntKind.wrap .i64 (x13l31 - 1))), (14, .int .u64 (IntKind.wrap .u64 tzM)), (15, .int .u64 16), (16, .int .u64 15), (49, .int .i64 (IntKind.wrap .i64 (x13l31 - 1))), (52, .int .u64 (bitAnd .u64 x1l31 15))] (by kernel_rfl) ?_
        obtain ⟨h04, h14, hF⟩ := hF
        have he4 := get_of (l := ([48, 49, 50, 51, 52, 53, 54, 55, 56, 57, 97, 98, 99, 100, 101, 102, 103, 104, 105, 106, 107, 108, 109, 110, 111, 112, 113, 114, 115, 116, 117, 118, 119, 120, 121, 122] : List UInt8)) (0 : UInt8) h14
        generalize hg4 : (([48, 49, 50, 51, 52, 53, 54, 55, 56, 57, 97, 98, 99, 100, 101, 102, 103, 104, 105, 106, 107, 108, 109, 110, 111, 112, 113, 114, 115, 116, 117, 118, 119, 120, 121, 122] : List UInt8).getD (Int.toNat (bitAnd .u64 x1l31 15)) 0) = e4 at he4 hF ⊢
        refine Ok.op rfl (OpOk.step (v := .int .u8 (e4.toNat : Int)) (Yields.indexStr (k := .u64) (i := (bitAnd .u64 x1l31 15)) (s := ([48, 49, 50, 51, 52, 53, 54, 55, 56, 57, 97, 98, 99, 100, 101, 102, 103, 104, 105, 106, 107, 108, 109, 110, 111, 112, 113, 114, 115, 116, 117, 118, 119, 120, 121, 122] : List UInt8)) (b := e4) (by kernel_rfl) (by kernel_rfl) Tryd.underlying9 h04 he4) rfl rfl ?_)
        obtain ⟨h06, h16, hF⟩ := hF
        have he6 := get_of (l := yown_b2_0l31) (default : Int) h16
        generalize hg6 : (yown_b2_0l31.getD (Int.toNat (IntKind.wrap .i64 (x13l31 - 1))) default) = e6 at he6 hF ⊢
        refine Ok.op rfl (OpOk.indexArr (e := .int .u8) (q := IntKind.wrap .i64 (x13l31 - 1)) (el := e6) hLyown_b2_0l31 rfl rfl Tryd.underlying146 (by kernel_rfl) (Eq.trans (show yown_b2_0l31.length = (List.replicate 65 (0 : Int)).length from hnyown_b2_0l31) rfl) h06 he6 rfl fun cs5 _ hr5 hc5 => ?_)
        obtain rfl := hr5
        replace hc5 : ∀ j v, ([.int .u8 e6] : List Value)[j]? = some v → xsyown_b2_0l31[Int.toNat (IntKind.wrap .i64 (x13l31 - 1)) * 1 + j]? = some v := hc5
        refine Ok.op rfl (OpOk.storeOwn (e := .int .u8) (q := Int.toNat (IntKind.wrap .i64 (x13l31 - 1))) (cells := [.int .u8 e6]) (vs := [.int .u8 (e4.toNat : Int)]) (el' := (e4.toNat : Int)) 0 0 1 rfl hLyown_b2_0l31 hc5 (by kernel_rfl) rfl rfl rfl (by kernel_rfl) (by kernel_rfl) (by kernel_rfl) (by kernel_rfl) (by kernel_rfl) (show Rep _ _ [.int .u8 (e4.toNat : Int)] _ from rfl) fun xs7 hL7 => ?_)
        refine Ok.nil ?_
        refine Ok.thenN ?_
        refine Ok.region ?_
        refine Ok.batch 2 [(0, .slice axdst_0 xdst.length cxdst_0), (3, .bool false), (4, .bool false), (10, .slice none ([] : List (Int)).length 0), (11, .string ⟨⟨([] : List UInt8)⟩⟩), (12, .pointer (some ⟨b2, 0, none⟩)), (13, .int .i64 (IntKind.wrap .i64 (x13l31 - 1))), (14, .int .u64 (IntKind.wrap .u64 tzM)), (15, .int .u64 16), (16, .int .u64 15), (55, .int .u64 x1l31), (56, .int .u64 (IntKind.wrap .u64 tzM))] (by kernel_rfl) ?_
        obtain ⟨hv, hF⟩ := hF
        refine Ok.op rfl (OpOk.step (v := .int .u64 (shrI .u64 x1l31 (IntKind.wrap .u64 tzM))) (Yields.shr rfl rfl hv) rfl rfl ?_)
        refine Ok.batch 1 [(0, .slice axdst_0 xdst.length cxdst_0), (1, .int .u64 (shrI .u64 x1l31 (IntKind.wrap .u64 tzM))), (3, .bool false), (4, .bool false), (10, .slice none ([] : List (Int)).length 0), (11, .string ⟨⟨([] : List UInt8)⟩⟩), (12, .pointer (some ⟨b2, 0, none⟩)), (13, .int .i64 (IntKind.wrap .i64 (x13l31 - 1))), (14, .int .u64 (IntKind.wrap .u64 tzM)), (15, .int .u64 16), (16, .int .u64 15)] (by kernel_rfl) ?_
        refine Ok.nil ?_
        refine Ok.blockN ?_
        refine Ok.thenN ?_
        subst hg6
        subst hg4
        exact fun a W hA hW => ⟨k31, Nat.lt_succ_self _, gl31, hxl31, shrI .u64 x1l31 (IntKind.wrap .u64 tzM), IntKind.wrap .i64 (x13l31 - 1), (yown_b2_0l31.set (Int.toNat (IntKind.wrap .i64 (x13l31 - 1))) ((([48, 49, 50, 51, 52, 53, 54, 55, 56, 57, 97, 98, 99, 100, 101, 102, 103, 104, 105, 106, 107, 108, 109, 110, 111, 112, 113, 114, 115, 116, 117, 118, 119, 120, 121, 122] : List UInt8).getD (Int.toNat (bitAnd .u64 x1l31 15)) 0).toNat : Int)), xs7, hL7, (by simp only [List.length_set, hnyown_b2_0l31]), hA.sub (by kernel_rfl), hW, hF⟩
      · replace hF := hF.2 hc3
        refine Ok.exit ?_
        refine Ok.thenE ?_
        refine Ok.thenE ?_
        refine Ok.blockHit ?_
        refine Ok.thenN ?_
        refine Ok.seq ?_
        refine Ok.region ?_
        refine Ok.batch 3 [(0, .slice axdst_0 xdst.length cxdst_0), (1, .int .u64 x1l31), (3, .bool false), (4, .bool false), (10, .slice none ([] : List (Int)).length 0), (11, .string ⟨⟨([] : List UInt8)⟩⟩), (12, .pointer (some ⟨b2, 0, none⟩)), (13, .int .i64 (IntKind.wrap .i64 (x13l31 - 1)))] (by kernel_rfl) ?_
        refine Ok.nil ?_
        refine Ok.thenN ?_
        refine Ok.region ?_
        refine Ok.batch 2 [(0, .slice axdst_0 xdst.length cxdst_0), (3, .bool false), (4, .bool false), (10, .slice none ([] : List (Int)).length 0), (11, .string ⟨⟨([] : List UInt8)⟩⟩), (12, .pointer (some ⟨b2, 0, none⟩)), (13, .int .i64 (IntKind.wrap .i64 (x13l31 - 1))), (60, .int .i64 (IntKind.wrap .i64 (x13l31 - 1))), (61, .int .u64 x1l31)] (by kernel_rfl) ?_
        obtain ⟨h08, h18, hF⟩ := hF
        have he8 := get_of (l := ([48, 49, 50, 51, 52, 53, 54, 55, 56, 57, 97, 98, 99, 100, 101, 102, 103, 104, 105, 106, 107, 108, 109, 110, 111, 112, 113, 114, 115, 116, 117, 118, 119, 120, 121, 122] : List UInt8)) (0 : UInt8) h18
        generalize hg8 : (([48, 49, 50, 51, 52, 53, 54, 55, 56, 57, 97, 98, 99, 100, 101, 102, 103, 104, 105, 106, 107, 108, 109, 110, 111, 112, 113, 114, 115, 116, 117, 118, 119, 120, 121, 122] : List UInt8).getD (Int.toNat x1l31) 0) = e8 at he8 hF ⊢
        refine Ok.op rfl (OpOk.step (v := .int .u8 (e8.toNat : Int)) (Yields.indexStr (k := .u64) (i := x1l31) (s := ([48, 49, 50, 51, 52, 53, 54, 55, 56, 57, 97, 98, 99, 100, 101, 102, 103, 104, 105, 106, 107, 108, 109, 110, 111, 112, 113, 114, 115, 116, 117, 118, 119, 120, 121, 122] : List UInt8)) (b := e8) (by kernel_rfl) (by kernel_rfl) Tryd.underlying9 h08 he8) rfl rfl ?_)
        obtain ⟨h010, h110, hF⟩ := hF
        have he10 := get_of (l := yown_b2_0l31) (default : Int) h110
        generalize hg10 : (yown_b2_0l31.getD (Int.toNat (IntKind.wrap .i64 (x13l31 - 1))) default) = e10 at he10 hF ⊢
        refine Ok.op rfl (OpOk.indexArr (e := .int .u8) (q := IntKind.wrap .i64 (x13l31 - 1)) (el := e10) hLyown_b2_0l31 rfl rfl Tryd.underlying146 (by kernel_rfl) (Eq.trans (show yown_b2_0l31.length = (List.replicate 65 (0 : Int)).length from hnyown_b2_0l31) rfl) h010 he10 rfl fun cs9 _ hr9 hc9 => ?_)
        obtain rfl := hr9
        replace hc9 : ∀ j v, ([.int .u8 e10] : List Value)[j]? = some v → xsyown_b2_0l31[Int.toNat (IntKind.wrap .i64 (x13l31 - 1)) * 1 + j]? = some v := hc9
        refine Ok.op rfl (OpOk.storeOwn (e := .int .u8) (q := Int.toNat (IntKind.wrap .i64 (x13l31 - 1))) (cells := [.int .u8 e10]) (vs := [.int .u8 (e8.toNat : Int)]) (el' := (e8.toNat : Int)) 0 0 1 rfl hLyown_b2_0l31 hc9 (by kernel_rfl) rfl rfl rfl (by kernel_rfl) (by kernel_rfl) (by kernel_rfl) (by kernel_rfl) (by kernel_rfl) (show Rep _ _ [.int .u8 (e8.toNat : Int)] _ from rfl) fun xs11 hL11 => ?_)
        refine Ok.nil ?_
        refine Ok.thenN ?_
        refine Ok.seq ?_
        refine Ok.seq ?_
        refine Ok.region ?_
        refine Ok.batch 1 [(0, .slice axdst_0 xdst.length cxdst_0), (4, .bool false), (10, .slice none ([] : List (Int)).length 0), (11, .string ⟨⟨([] : List UInt8)⟩⟩), (12, .pointer (some ⟨b2, 0, none⟩)), (13, .int .i64 (IntKind.wrap .i64 (x13l31 - 1))), (89, .bool false)] (by kernel_rfl) ?_
        refine Ok.nil ?_
        refine Ok.thenN ?_
        refine Ok.cond (b := false) rfl (fun h => by cases h) (fun _ => ?_)
        refine Ok.skip ?_
        refine Ok.thenN ?_
        refine Ok.seq ?_
        refine Ok.seq ?_
        refine Ok.region ?_
        refine Ok.batch 1 [(0, .slice axdst_0 xdst.length cxdst_0), (10, .slice none ([] : List (Int)).length 0), (11, .string ⟨⟨([] : List UInt8)⟩⟩), (12, .pointer (some ⟨b2, 0, none⟩)), (13, .int .i64 (IntKind.wrap .i64 (x13l31 - 1))), (94, .bool false)] (by kernel_rfl) ?_
        refine Ok.nil ?_
        refine Ok.thenN ?_
        refine Ok.cond (b := false) rfl (fun h => by cases h) (fun _ => ?_)
        refine Ok.skip ?_
        refine Ok.thenN ?_
        refine Ok.seq ?_
        refine Ok.region ?_
        refine Ok.batch 1 [(10, .slice none ([] : List (Int)).length 0), (12, .pointer (some ⟨b2, 0, none⟩)), (99, .int .i64 (IntKind.wrap .i64 (x13l31 - 1)))] (by kernel_rfl) ?_
        refine Ok.freeze (H' := [.own (.slice none ([] : List (Int)).length 0) 5 1 ([] : List (Int)).length ([])]) 0 rfl hL11 rfl fun g12 hx12 hRf12 => ?_
        replace hL1 := hL1.mono hx12.1
        replace hG8 := hG8.mono hx12.1
        obtain ⟨h013, h113, h213, hF⟩ := hF
        refine Ok.op rfl (OpOk.sliceArr (e := .int .u8) (l := (IntKind.wrap .i64 (x13l31 - 1))) (h := ((yown_b2_0l31.set (Int.toNat (IntKind.wrap .i64 (x13l31 - 1))) (e8.toNat : Int)).length : Int)) rfl Tryd.underlying146 (by kernel_rfl) (Eq.trans (show (yown_b2_0l31.set (Int.toNat (IntKind.wrap .i64 (x13l31 - 1))) (e8.toNat : Int)).length = (List.replicate 65 (0 : Int)).length from (by simp only [List.length_set, hnyown_b2_0l31])) rfl) (.inl ⟨_, _, rfl, rfl⟩) (.inr ⟨rfl, rfl⟩) hRf12 h013 h113 h213 rfl ((yown_b2_0l31.set (Int.toNat (IntKind.wrap .i64 (x13l31 - 1))) (e8.toNat : Int)).drop (Int.toNat (IntKind.wrap .i64 (x13l31 - 1)))) (by rw [show (((yown_b2_0l31.set (Int.toNat (IntKind.wrap .i64 (x13l31 - 1))) (e8.toNat : Int)).length : Int)).toNat = (yown_b2_0l31.set (Int.toNat (IntKind.wrap .i64 (x13l31 - 1))) (e8.toNat : Int)).length from Int.toNat_natCast _, List.take_length]) fun a13 c13 hR13 => ?_)
        refine Ok.op rfl (OpOk.step (v := .string ⟨⟨(bytesOf ((yown_b2_0l31.set (Int.toNat (IntKind.wrap .i64 (x13l31 - 1))) (e8.toNat : Int)).drop (Int.toNat (IntKind.wrap .i64 (x13l31 - 1)))))⟩⟩) (Yields.strOfRo (by kernel_rfl) rfl hR13 Tryd.underlying83 Tryd.underlying9 Tryd.underlying5) rfl rfl ?_)
        refine Ok.batch 1 [(10, .slice none ([] : List (Int)).length 0), (11, .string ⟨⟨(bytesOf ((yown_b2_0l31.set (Int.toNat (IntKind.wrap .i64 (x13l31 - 1))) (e8.toNat : Int)).drop (Int.toNat (IntKind.wrap .i64 (x13l31 - 1)))))⟩⟩)] (by kernel_rfl) ?_
        refine Ok.nil ?_
        refine Ok.thenN ?_
        refine Ok.ret ?_
        refine Ok.freeze (H' := []) 0 rfl hL1 rfl fun g14 hx14 hRf14 => ?_
        replace hG8 := hG8.mono hx14.1
        exact Ok.resH (vs := [.slice none ([] : List (Int)).length 0, .string ⟨⟨(bytesOf ((yown_b2_0l31.set (Int.toNat (IntKind.wrap .i64 (x13l31 - 1))) (e8.toNat : Int)).drop (Int.toNat (IntKind.wrap .i64 (x13l31 - 1)))))⟩⟩]) (.inl rfl) rfl (.cons (.tmp rfl) (.cons (.tmp rfl) .nil)) ((hxl31.trans hx12).trans hx14) ⟨([] : List (Int)), (bytesOf ((yown_b2_0l31.set (Int.toNat (IntKind.wrap .i64 (x13l31 - 1))) (e8.toNat : Int)).drop (Int.toNat (IntKind.wrap .i64 (x13l31 - 1))))), none, 0, rfl, hRf14, rfl, hF⟩
def DGT : List UInt8 := [48, 49, 50, 51, 52, 53, 54, 55, 56, 57, 97, 98, 99, 100, 101, 102, 103, 104, 105, 106, 107, 108, 109, 110, 111, 112, 113, 114, 115, 116, 117, 118, 119, 120, 121, 122]
def hxd (n : Int) : UInt8 := DGT.getD (Int.toNat n) 0
def hexR : Nat → Int → List UInt8 → List UInt8
  | 0, _, acc => acc
  | i + 1, u, acc => if u ≥ 16 then hexR i (u / 16) (hxd (u % 16) :: acc) else hxd u :: acc
def fmtS (u : Int) : List UInt8 := hexR 65 u []
def fmtP (u : Int) : Prop := 0 ≤ u ∧ u ≤ 18446744073709551615
def fbtS (_ : List Int) (u : Int) : List Int × List UInt8 := ([], fmtS u)
def fbtP (_ : List Int) (u : Int) : Prop := fmtP u
theorem and15 {y : Int} (h : 0 ≤ y ∧ y ≤ 18446744073709551615) : bitAnd .u64 y 15 = y % 16 := by
  obtain ⟨a, rfl⟩ := Int.eq_ofNat_of_zero_le h.1
  unfold bitAnd
  rw [show IntKind.bits .u64 = 64 from rfl, BitVec.ofInt_natCast, show (15 : Int) = ((15 : Nat) : Int) from rfl, BitVec.ofInt_natCast, BitVec.toNat_and, BitVec.toNat_ofNat, BitVec.toNat_ofNat, Nat.mod_eq_of_lt (show a < 2 ^ 64 by omega), Nat.mod_eq_of_lt (show 15 < 2 ^ 64 by omega),
    show (15 : Nat) = 2 ^ 4 - 1 from rfl, Nat.and_two_pow_sub_one_eq_mod]
  show (((a % 2 ^ 4 : Nat) : Int)) % 18446744073709551616 = (a : Int) % 16
  omega
theorem tz_4 : IntKind.wrap .u64 tzM = 4 := by decide +kernel
theorem shr4 {y : Int} (h : 0 ≤ y) : shrI .u64 y 4 = y / 16 := by
  show y.fdiv (2 ^ 4) = _
  rw [show (2 : Int) ^ 4 = 16 from rfl, Int.fdiv_eq_ediv_of_nonneg _ (by omega)]
theorem rep_set (i : Nat) (acc : List Int) (x : Int) : (List.replicate (i + 1) (0 : Int) ++ acc).set i x = List.replicate i 0 ++ x :: acc := by
  rw [List.replicate_succ', List.append_assoc, List.set_append_right _ _ (by simp), List.length_replicate, Nat.sub_self]; rfl
theorem fbt_F (d : List Int) (u : Int) (hp : fbtP d u) : fbtF d u (fun r r1 => (r, r1) = fbtS d u) := by
  unfold fbtP fmtP at hp
  have loop : ∀ (i : Nat) (v : Int) (acc : List UInt8), i ≤ 64 → 0 ≤ v → v ≤ 18446744073709551615 → v < 16 ^ (i + 1) → hexR (i + 1) v acc = fmtS u → fbtl31 (fun r r1 => (r, r1) = fbtS d u) (i + 1) v ((i + 1 : Nat) : Int) (List.replicate (i + 1) 0 ++ intsOf acc) := by
    intro i
    induction i with
    | zero =>
      intro v acc h h0 h1 hl he
      have hl : v < 16 := hl
      rw [hexR, if_neg (by omega)] at he
      refine ⟨fun h => absurd (of_decide_eq_true h) (by omega), fun _ => ?_⟩
      have w1 : IntKind.wrap .i64 (((0 + 1 : Nat) : Int) - 1) = 0 := by decide
      rw [w1]
      refine ⟨h0, by show Int.toNat v < 36; omega, by omega, by simp, by omega, by rw [List.length_set]; omega, Int.le_refl _, ?_⟩
      show (([] : List Int), bytesOf (((List.replicate (0 + 1) (0 : Int) ++ intsOf acc).set 0 ((hxd v).toNat : Int)).drop 0)) = _
      unfold fbtS
      rw [rep_set, ← he]
      show (([] : List Int), bytesOf (((hxd v).toNat : Int) :: intsOf acc)) = _
      rw [show ((hxd v).toNat : Int) :: intsOf acc = intsOf (hxd v :: acc) from rfl, bytesOf_intsOf]
    | succ i ih =>
      intro v acc h h0 h1 hl he
      have w1 : IntKind.wrap .i64 (((i + 1 + 1 : Nat) : Int) - 1) = ((i + 1 : Nat) : Int) := by rw [w64 (by omega)]; omega
      rw [hexR] at he
      have hlen : (List.replicate (i + 1 + 1) (0 : Int) ++ intsOf acc).length = i + 2 + acc.length := by rw [List.length_append, List.length_replicate, intsOf_length]
      by_cases hv : v ≥ 16
      · rw [if_pos hv] at he
        refine ⟨fun _ => ?_, fun h => absurd hv (of_decide_eq_false h)⟩
        rw [w1, and15 ⟨h0, h1⟩, tz_4, shr4 h0]
        refine ⟨by omega, by show Int.toNat (v % 16) < 36; omega, by omega, by omega, by omega, ?_⟩
        show fbtl31 _ (i + 1) (v / 16) ((i + 1 : Nat) : Int) ((List.replicate (i + 1 + 1) (0 : Int) ++ intsOf acc).set (Int.toNat ((i + 1 : Nat) : Int)) ((hxd (v % 16)).toNat : Int))
        rw [Int.toNat_natCast, rep_set]
        refine ih (v / 16) (hxd (v % 16) :: acc) (by omega) (by omega) (by omega) ?_ he
        rw [Int.pow_succ] at hl
        omega
      · rw [if_neg hv] at he
        refine ⟨fun h => absurd (of_decide_eq_true h) hv, fun _ => ?_⟩
        rw [w1]
        refine ⟨h0, by show Int.toNat v < 36; omega, by omega, by omega, by omega, by rw [List.length_set]; omega, Int.le_refl _, ?_⟩
        show (([] : List Int), bytesOf (((List.replicate (i + 1 + 1) (0 : Int) ++ intsOf acc).set (Int.toNat ((i + 1 : Nat) : Int)) ((hxd v).toNat : Int)).drop (Int.toNat ((i + 1 : Nat) : Int)))) = _
        unfold fbtS
        rw [Int.toNat_natCast, rep_set, ← he, List.drop_append_of_le_length (by simp), List.drop_of_length_le (by simp), List.nil_append, show ((hxd v).toNat : Int) :: intsOf acc = intsOf (hxd v :: acc) from rfl, bytesOf_intsOf]
  refine ⟨65, loop 64 u [] (by omega) hp.1 hp.2 ?_ rfl⟩
  have : (18446744073709551616 : Int) ≤ 16 ^ (64 + 1) := by decide
  omega
set_option linter.unusedVariables false in
theorem fbt_c {g : Ghost} {axdst_0 : Option Addr} {cxdst_0 : Nat} (xdst : List (Int)) (xu : Int) (hRxdst_0 : Rep g (.slice (.int .u8)) [.slice axdst_0 xdst.length cxdst_0] xdst) (hG8 : GlobL g 8 (.int .u8) DBru)  (hp : fbtP xdst xu) : CallsH Tryd.prog 106 #[.slice axdst_0 xdst.length cxdst_0, .int .u64 xu, .int .i64 16, .bool false, .bool false] g [] (fun g' H' v => ∃ (ar0_0 : Option Addr) (cr0_0 : Nat), v = .tuple #[.slice ar0_0 ((fbtS xdst xu).1).length cr0_0, .string ⟨⟨((fbtS xdst xu).2)⟩⟩] ∧ Rep g' (.slice (.int .u8)) [.slice ar0_0 ((fbtS xdst xu).1).length cr0_0] ((fbtS xdst xu).1) ∧ H' = []) :=
  (fbt_ok xdst xu hRxdst_0 hG8 _ (fbt_F xdst xu hp)).mono (by rintro g' H' v _ ⟨r0, r1, ar0_0, cr0_0, rfl, hRr0_0, rfl, hK⟩; obtain ⟨rfl, rfl⟩ : r0 = (fbtS xdst xu).1 ∧ r1 = (fbtS xdst xu).2 := ⟨congrArg (fun z => z.1) hK, congrArg (fun z => z.2) hK⟩; exact ⟨ar0_0, cr0_0, rfl, hRr0_0, rfl⟩)
def ifuF (xi : Int) (K : (List UInt8) → Prop) : Prop :=
  fbtP ([]) xi ∧ K ((fbtS ([]) xi).2)
set_option maxHeartbeats 4000000 in
set_option maxRecDepth 100000 in
set_option linter.unusedVariables false in
theorem ifu_ok {g : Ghost} (xi : Int) (hG8 : GlobL g 8 (.int .u8) DBru) (K : (List UInt8) → Prop)
    (hF : ifuF xi K) : CallsH Tryd.prog 77 #[.int .u64 xi, .int .i64 16] g [] (fun g' H' v => ∃ (r0 : List UInt8), v = .string ⟨⟨r0⟩⟩ ∧ H' = [] ∧ K r0) := by
  refine CallsH.enter 32 [(0, .int .u64 xi), (1, .int .i64 16)] Tryd.func77 rfl (by kernel_rfl) (by kernel_rfl) (by kernel_rfl) fun w0 => ?_
  refine Ok.seq ?_
  refine Ok.region ?_
  refine Ok.batch 1 [(0, .int .u64 xi), (1, .int .i64 16)] (by kernel_rfl) ?_
  refine Ok.nil ?_
  refine Ok.thenN ?_
  refine Ok.seq ?_
  refine Ok.seq ?_
  refine Ok.region ?_
  refine Ok.batch 2 [(0, .int .u64 xi), (1, .int .i64 16), (10, .bool false)] (by kernel_rfl) ?_
  refine Ok.nil ?_
  refine Ok.thenN ?_
  refine Ok.cond (b := false) rfl (fun h => by cases h) (fun _ => ?_)
  refine Ok.skip ?_
  refine Ok.thenN ?_
  refine Ok.seq ?_
  refine Ok.region ?_
  refine Ok.batch 2 [(26, .int .u64 xi), (27, .int .i64 16)] (by kernel_rfl) ?_
  obtain ⟨hp1, hF⟩ := hF
  refine Ok.op rfl (OpOk.callH [] [] (enters (by kernel_rfl) (fun _ => by kernel_rfl)) rfl (fbt_c ([]) xi Rep.nil hG8 hp1) rfl fun g2 _ _ hx2 hV2 => ?_)
  obtain ⟨a2_0, c2_0, rfl, hR2_0, rfl⟩ := hV2
  replace hG8 := hG8.mono hx2.1
  refine Ok.batch 5 [(8, .string ⟨⟨(fbtS ([]) xi).2⟩⟩)] (by kernel_rfl) ?_
  refine Ok.nil ?_
  refine Ok.thenN ?_
  refine Ok.seq ?_
  refine Ok.region ?_
  refine Ok.batch 2 [(4, .string ⟨⟨(fbtS ([]) xi).2⟩⟩)] (by kernel_rfl) ?_
  refine Ok.nil ?_
  refine Ok.thenN ?_
  refine Ok.ret ?_
  exact Ok.resH (vs := [.string ⟨⟨(fbtS ([]) xi).2⟩⟩]) (.inl rfl) rfl (.cons (.tmp rfl) .nil) hx2 ⟨((fbtS ([]) xi).2), rfl, rfl, hF⟩
def ifuM (xi : Int) : List UInt8 := ((fbtS ([]) xi).2)
set_option linter.unusedSimpArgs false in
set_option linter.unusedVariables false in
theorem ifuF_A (xi : Int) (hp : fmtP xi) (P : List UInt8 → Prop) (h : P (ifuM xi)) : ifuF xi (fun k0 => P k0) := by
  unfold ifuM at h
  unfold ifuF
  refine ⟨?_, ?_⟩
  · first | exact hp | omega | assumption | exact trivial | (have h0 := List.length_pos_iff.mpr (by assumption); omega) | (simp; omega) | (simp at *; omega)
  exact h
theorem ifu_F (xi : Int) (hp : fmtP xi) : ifuF xi (fun k0 => k0 = ifuM xi) :=
  ifuF_A xi hp (fun z => z = ifuM xi) rfl
set_option linter.unusedVariables false in
theorem ifu_c {g : Ghost} (xi : Int) (hG8 : GlobL g 8 (.int .u8) DBru)  (hp : fmtP xi) : CallsG Tryd.prog 77 #[.int .u64 xi, .int .i64 16] g (.string ⟨⟨(ifuM xi)⟩⟩) :=
  (ifu_ok xi hG8 _ (ifu_F xi hp)).gives (by rintro g' H' v _ ⟨r0, rfl, rfl, hK⟩; subst hK; rfl)
def fuF (xi : Int) (K : (List UInt8) → Prop) : Prop :=
  fmtP xi ∧ K (ifuM xi)
set_option maxHeartbeats 4000000 in
set_option maxRecDepth 100000 in
set_option linter.unusedVariables false in
theorem fu_ok {g : Ghost} (xi : Int) (hG8 : GlobL g 8 (.int .u8) DBru) (K : (List UInt8) → Prop)
    (hF : fuF xi K) : CallsH Tryd.prog 53 #[.int .u64 xi, .int .i64 16] g [] (fun g' H' v => ∃ (r0 : List UInt8), v = .string ⟨⟨r0⟩⟩ ∧ H' = [] ∧ K r0) := by
  refine CallsH.enter 8 [(0, .int .u64 xi), (1, .int .i64 16)] Tryd.func53 rfl (by kernel_rfl) (by kernel_rfl) (by kernel_rfl) fun w0 => ?_
  refine Ok.seq ?_
  refine Ok.region ?_
  refine Ok.batch 1 [(0, .int .u64 xi), (1, .int .i64 16)] (by kernel_rfl) ?_
  refine Ok.nil ?_
  refine Ok.thenN ?_
  refine Ok.seq ?_
  refine Ok.region ?_
  refine Ok.batch 2 [(5, .int .u64 xi), (6, .int .i64 16)] (by kernel_rfl) ?_
  obtain ⟨hp1, hF⟩ := hF
  refine Ok.op rfl (OpOk.callG (v := .string ⟨⟨(ifuM xi)⟩⟩) (enters (by kernel_rfl) (fun _ => by kernel_rfl)) (fun W hW => ifu_c xi (hG8.mono hW.sees) hp1) rfl ?_)
  refine Ok.batch 1 [(4, .string ⟨⟨(ifuM xi)⟩⟩)] (by kernel_rfl) ?_
  refine Ok.nil ?_
  refine Ok.thenN ?_
  refine Ok.ret ?_
  exact Ok.resH (vs := [.string ⟨⟨(ifuM xi)⟩⟩]) (.inl rfl) rfl (.cons (.tmp rfl) .nil) (Gext.refl w0 g) ⟨(ifuM xi), rfl, rfl, hF⟩
def fuM (xi : Int) : List UInt8 := (ifuM xi)
set_option linter.unusedSimpArgs false in
set_option linter.unusedVariables false in
theorem fuF_A (xi : Int) (hp : fmtP xi) (P : List UInt8 → Prop) (h : P (fuM xi)) : fuF xi (fun k0 => P k0) := by
  unfold fuM at h
  unfold fuF
  refine ⟨?_, ?_⟩
  · first | exact hp | omega | assumption | exact trivial | (have h0 := List.length_pos_iff.mpr (by assumption); omega) | (simp; omega) | (simp at *; omega)
  exact h
theorem fu_F (xi : Int) (hp : fmtP xi) : fuF xi (fun k0 => k0 = fuM xi) :=
  fuF_A xi hp (fun z => z = fuM xi) rfl
set_option linter.unusedVariables false in
theorem fu_c {g : Ghost} (xi : Int) (hG8 : GlobL g 8 (.int .u8) DBru)  (hp : fmtP xi) : CallsG Tryd.prog 53 #[.int .u64 xi, .int .i64 16] g (.string ⟨⟨(fuM xi)⟩⟩) :=
  (fu_ok xi hG8 _ (fu_F xi hp)).gives (by rintro g' H' v _ ⟨r0, rfl, rfl, hK⟩; subst hK; rfl)
def ctlF (xs : List UInt8) (K : (List UInt8) → Prop) : Prop :=
  (((xs == ([102, 102] : List UInt8))) = true → K ([] : List UInt8)) ∧ (((xs == ([102, 102] : List UInt8))) = false → K xs)
set_option maxHeartbeats 4000000 in
set_option maxRecDepth 100000 in
set_option linter.unusedVariables false in
theorem ctl_ok {g : Ghost} (xs : List UInt8) (K : (List UInt8) → Prop)
    (hF : ctlF xs K) : CallsH Tryd.prog 54 #[.string ⟨⟨xs⟩⟩] g [] (fun g' H' v => ∃ (r0 : List UInt8), v = .string ⟨⟨r0⟩⟩ ∧ H' = [] ∧ K r0) := by
  refine CallsH.enter 6 [(0, .string ⟨⟨xs⟩⟩)] Tryd.func54 rfl (by kernel_rfl) (by kernel_rfl) (by kernel_rfl) fun w0 => ?_
  refine Ok.seq ?_
  refine Ok.region ?_
  refine Ok.batch 1 [(0, .string ⟨⟨xs⟩⟩)] (by kernel_rfl) ?_
  refine Ok.nil ?_
  refine Ok.thenN ?_
  refine Ok.seq ?_
  refine Ok.seq ?_
  refine Ok.region ?_
  refine Ok.batch 1 [(0, .string ⟨⟨xs⟩⟩), (3, .string ⟨⟨xs⟩⟩)] (by kernel_rfl) ?_
  refine Ok.op rfl (OpOk.step (v := .bool (xs == ([102, 102] : List UInt8))) (Yields.strCmp (f := .eql) (a := xs) (b := ([102, 102] : List UInt8)) (by kernel_rfl) (by kernel_rfl) rfl) rfl rfl ?_)
  refine Ok.nil ?_
  refine Ok.thenN ?_
  refine Ok.cond (b := (xs == ([102, 102] : List UInt8))) rfl (fun hc1 => ?_) (fun hc1 => ?_)
  · replace hF := hF.1 hc1
    refine Ok.seq ?_
    refine Ok.region ?_
    refine Ok.batch 1 [(2, .string ⟨⟨([] : List UInt8)⟩⟩)] (by kernel_rfl) ?_
    refine Ok.nil ?_
    refine Ok.thenN ?_
    refine Ok.ret ?_
    refine Ok.thenR ?_
    exact Ok.resH (vs := [.string ⟨⟨([] : List UInt8)⟩⟩]) (.inl rfl) rfl (.cons (.tmp rfl) .nil) (Gext.refl w0 g) ⟨([] : List UInt8), rfl, rfl, hF⟩
  · replace hF := hF.2 hc1
    refine Ok.skip ?_
    refine Ok.thenN ?_
    refine Ok.seq ?_
    refine Ok.region ?_
    refine Ok.batch 2 [(2, .string ⟨⟨xs⟩⟩)] (by kernel_rfl) ?_
    refine Ok.nil ?_
    refine Ok.thenN ?_
    refine Ok.ret ?_
    exact Ok.resH (vs := [.string ⟨⟨xs⟩⟩]) (.inl rfl) rfl (.cons (.tmp rfl) .nil) (Gext.refl w0 g) ⟨xs, rfl, rfl, hF⟩
def ctlM (xs : List UInt8) : List UInt8 := (if (xs == ([102, 102] : List UInt8)) = true then ([] : List UInt8) else xs)
set_option linter.unusedSimpArgs false in
set_option linter.unusedVariables false in
theorem ctlF_A (xs : List UInt8) (P : List UInt8 → Prop) (h : P (ctlM xs)) : ctlF xs (fun k0 => P k0) := by
  unfold ctlM at h
  unfold ctlF
  refine ⟨fun hc0 => ?_, fun hc0 => ?_⟩
  · rw [if_t hc0] at h
    have hd0 := hc0; try simp only [Bool.and_eq_true, Bool.or_eq_true, Bool.and_eq_false_iff, Bool.or_eq_false_iff, Bool.not_eq_true', Bool.not_eq_false', decide_eq_true_eq, decide_eq_false_iff_not, beq_iff_eq, beq_eq_false_iff_ne, ne_eq] at hd0
    exact h
  · rw [if_f hc0] at h
    have hd0 := hc0; try simp only [Bool.and_eq_true, Bool.or_eq_true, Bool.and_eq_false_iff, Bool.or_eq_false_iff, Bool.not_eq_true', Bool.not_eq_false', decide_eq_true_eq, decide_eq_false_iff_not, beq_iff_eq, beq_eq_false_iff_ne, ne_eq] at hd0
    exact h
theorem ctl_F (xs : List UInt8) : ctlF xs (fun k0 => k0 = ctlM xs) :=
  ctlF_A xs (fun z => z = ctlM xs) rfl
set_option linter.unusedVariables false in
theorem ctl_c {g : Ghost} (xs : List UInt8)  : CallsG Tryd.prog 54 #[.string ⟨⟨xs⟩⟩] g (.string ⟨⟨(ctlM xs)⟩⟩) :=
  (ctl_ok xs _ (ctl_F xs)).gives (by rintro g' H' v _ ⟨r0, rfl, rfl, hK⟩; subst hK; rfl)
def two (b : Int) : List UInt8 := [hxd (b / 16), hxd (b % 16)]
def ctxS (c : Int) : List UInt8 := [35] ++ two (byt c 3) ++ two (byt c 2) ++ two (byt c 1) ++ (if byt c 0 < 255 then two (byt c 0) else [])
theorem hexR_s {i : Nat} {u : Int} {acc : List UInt8} (h : u ≥ 16) : hexR (i + 1) u acc = hexR i (u / 16) (hxd (u % 16) :: acc) := by rw [hexR, if_pos h]
theorem fmt_eq (c : Int) : fmtS (IntKind.wrap .u32 c + 4294967296) = [49] ++ two (byt c 3) ++ two (byt c 2) ++ two (byt c 1) ++ two (byt c 0) := by
  obtain ⟨h0, h1⟩ := u32_in c
  unfold byt
  generalize IntKind.wrap .u32 c = x at *
  unfold fmtS two
  rw [hexR_s (by omega), hexR_s (by omega), hexR_s (by omega), hexR_s (by omega), hexR_s (by omega), hexR_s (by omega), hexR_s (by omega), hexR_s (by omega), hexR, if_neg (by omega)]
  have e0 : (256 : Int) ^ 0 = 1 := rfl
  have e1 : (256 : Int) ^ 1 = 256 := rfl
  have e2 : (256 : Int) ^ 2 = 65536 := rfl
  have e3 : (256 : Int) ^ 3 = 16777216 := rfl
  rw [e0, e1, e2, e3]
  have k8 : (x + 4294967296) / 16 / 16 / 16 / 16 / 16 / 16 / 16 / 16 = 1 := by omega
  have k7 : (x + 4294967296) / 16 / 16 / 16 / 16 / 16 / 16 / 16 % 16 = x / 16777216 % 256 / 16 := by omega
  have k6 : (x + 4294967296) / 16 / 16 / 16 / 16 / 16 / 16 % 16 = x / 16777216 % 256 % 16 := by omega
  have k5 : (x + 4294967296) / 16 / 16 / 16 / 16 / 16 % 16 = x / 65536 % 256 / 16 := by omega
  have k4 : (x + 4294967296) / 16 / 16 / 16 / 16 % 16 = x / 65536 % 256 % 16 := by omega
  have k3 : (x + 4294967296) / 16 / 16 / 16 % 16 = x / 256 % 256 / 16 := by omega
  have k2 : (x + 4294967296) / 16 / 16 % 16 = x / 256 % 256 % 16 := by omega
  have k1 : (x + 4294967296) / 16 % 16 = x / 1 % 256 / 16 := by omega
  have k0 : (x + 4294967296) % 16 = x / 1 % 256 % 16 := by omega
  rw [k8, k7, k6, k5, k4, k3, k2, k1, k0]
  rfl
theorem ff_eq {b : Int} (h : 0 ≤ b ∧ b ≤ 255) : (two b == [102, 102]) = !decide (b < 255) := by
  obtain ⟨n, rfl⟩ := Int.eq_ofNat_of_zero_le h.1
  have key : ∀ n : Nat, n < 256 → (two (n : Int) == [102, 102]) = !decide ((n : Int) < 255) := by decide +kernel
  exact key n (by omega)
theorem ctl_eq (c : Int) : ctlM (two (byt c 0)) = if byt c 0 < 255 then two (byt c 0) else [] := by
  unfold ctlM
  rw [show ([102, 102] : List UInt8) = [102, 102] from rfl, ff_eq (byt_in c 0)]
  by_cases h : byt c 0 < 255
  · rw [decide_eq_true h, if_pos h]; rfl
  · rw [decide_eq_false h, if_neg h]; rfl
theorem max3 {n : Nat} (h : n ≤ 100) : n ≤ maxLen := by unfold maxLen; omega
def ctxF (xc : Int) (K : (List UInt8) → Prop) : Prop :=
  fmtP (IntKind.wrap .u64 ((IntKind.wrap .u64 (IntKind.wrap .u32 xc)) + 4294967296)) ∧ (0 : Int) ≤ 1 ∧ (1 : Int) ≤ ((fuM (IntKind.wrap .u64 ((IntKind.wrap .u64 (IntKind.wrap .u32 xc)) + 4294967296))).length : Int) ∧ ((fuM (IntKind.wrap .u64 ((IntKind.wrap .u64 (IntKind.wrap .u32 xc)) + 4294967296))).length : Int) ≤ ((fuM (IntKind.wrap .u64 ((IntKind.wrap .u64 (IntKind.wrap .u32 xc)) + 4294967296))).length : Int) ∧ (0 : Int) ≤ 0 ∧ (0 : Int) ≤ 6 ∧ 6 ≤ (((fuM (IntKind.wrap .u64 ((IntKind.wrap .u64 (IntKind.wrap .u32 xc)) + 4294967296))).drop (Int.toNat 1)).length : Int) ∧ ([35] : List UInt8).length + (((fuM (IntKind.wrap .u64 ((IntKind.wrap .u64 (IntKind.wrap .u32 xc)) + 4294967296))).drop (Int.toNat 1)).take (Int.toNat 6)).length ≤ maxLen ∧ (0 : Int) ≤ 6 ∧ (6 : Int) ≤ (((fuM (IntKind.wrap .u64 ((IntKind.wrap .u64 (IntKind.wrap .u32 xc)) + 4294967296))).drop (Int.toNat 1)).length : Int) ∧ (((fuM (IntKind.wrap .u64 ((IntKind.wrap .u64 (IntKind.wrap .u32 xc)) + 4294967296))).drop (Int.toNat 1)).length : Int) ≤ (((fuM (IntKind.wrap .u64 ((IntKind.wrap .u64 (IntKind.wrap .u32 xc)) + 4294967296))).drop (Int.toNat 1)).length : Int) ∧ (([35] : List UInt8) ++ (((fuM (IntKind.wrap .u64 ((IntKind.wrap .u64 (IntKind.wrap .u32 xc)) + 4294967296))).drop (Int.toNat 1)).take (Int.toNat 6))).length + (ctlM (((fuM (IntKind.wrap .u64 ((IntKind.wrap .u64 (IntKind.wrap .u32 xc)) + 4294967296))).drop (Int.toNat 1)).drop (Int.toNat 6))).length ≤ maxLen ∧ K ((([35] : List UInt8) ++ (((fuM (IntKind.wrap .u64 ((IntKind.wrap .u64 (IntKind.wrap .u32 xc)) + 4294967296))).drop (Int.toNat 1)).take (Int.toNat 6))) ++ (ctlM (((fuM (IntKind.wrap .u64 ((IntKind.wrap .u64 (IntKind.wrap .u32 xc)) + 4294967296))).drop (Int.toNat 1)).drop (Int.toNat 6))))
set_option maxHeartbeats 4000000 in
set_option maxRecDepth 100000 in
set_option linter.unusedVariables false in
theorem ctx_ok {g : Ghost} (xc : Int) (hG8 : GlobL g 8 (.int .u8) DBru) (K : (List UInt8) → Prop)
    (hF : ctxF xc K) : CallsH Tryd.prog 24 #[.int .i64 xc] g [] (fun g' H' v => ∃ (r0 : List UInt8), v = .string ⟨⟨r0⟩⟩ ∧ H' = [] ∧ K r0) := by
  refine CallsH.enter 17 [(0, .int .i64 xc)] Tryd.func24 rfl (by kernel_rfl) (by kernel_rfl) (by kernel_rfl) fun w0 => ?_
  refine Ok.seq ?_
  refine Ok.region ?_
  refine Ok.batch 1 [(0, .int .i64 xc)] (by kernel_rfl) ?_
  refine Ok.nil ?_
  refine Ok.thenN ?_
  refine Ok.seq ?_
  refine Ok.region ?_
  refine Ok.batch 4 [(7, .int .u64 (IntKind.wrap .u64 ((IntKind.wrap .u64 (IntKind.wrap .u32 xc)) + 4294967296)))] (by kernel_rfl) ?_
  obtain ⟨hp1, hF⟩ := hF
  refine Ok.op rfl (OpOk.callG (v := .string ⟨⟨(fuM (IntKind.wrap .u64 ((IntKind.wrap .u64 (IntKind.wrap .u32 xc)) + 4294967296)))⟩⟩) (enters (by kernel_rfl) (fun _ => by kernel_rfl)) (fun W hW => fu_c (IntKind.wrap .u64 ((IntKind.wrap .u64 (IntKind.wrap .u32 xc)) + 4294967296)) (hG8.mono hW.sees) hp1) rfl ?_)
  obtain ⟨h02, h12, h22, hF⟩ := hF
  refine Ok.op rfl (OpOk.step (v := .string ⟨⟨(fuM (IntKind.wrap .u64 ((IntKind.wrap .u64 (IntKind.wrap .u32 xc)) + 4294967296))).drop (Int.toNat 1)⟩⟩) (Yields.sliceStr (s := (fuM (IntKind.wrap .u64 ((IntKind.wrap .u64 (IntKind.wrap .u32 xc)) + 4294967296)))) (l := 1) (h := ((fuM (IntKind.wrap .u64 ((IntKind.wrap .u64 (IntKind.wrap .u32 xc)) + 4294967296))).length : Int)) (by kernel_rfl) Tryd.underlying9 (.inl ⟨_, _, rfl, rfl⟩) (.inr ⟨rfl, rfl⟩) h02 h12 h22 ((fuM (IntKind.wrap .u64 ((IntKind.wrap .u64 (IntKind.wrap .u32 xc)) + 4294967296))).drop (Int.toNat 1)) (by rw [show (((fuM (IntKind.wrap .u64 ((IntKind.wrap .u64 (IntKind.wrap .u32 xc)) + 4294967296))).length : Int)).toNat = (fuM (IntKind.wrap .u64 ((IntKind.wrap .u64 (IntKind.wrap .u32 xc)) + 4294967296))).length from Int.toNat_natCast _, List.take_length])) rfl rfl ?_)
  refine Ok.batch 1 [(3, .string ⟨⟨(fuM (IntKind.wrap .u64 ((IntKind.wrap .u64 (IntKind.wrap .u32 xc)) + 4294967296))).drop (Int.toNat 1)⟩⟩)] (by kernel_rfl) ?_
  refine Ok.nil ?_
  refine Ok.thenN ?_
  refine Ok.seq ?_
  refine Ok.quiet' (by kernel_rfl) (by kernel_rfl) ?_
  refine OkQ.batch 1 [(3, .string ⟨⟨(fuM (IntKind.wrap .u64 ((IntKind.wrap .u64 (IntKind.wrap .u32 xc)) + 4294967296))).drop (Int.toNat 1)⟩⟩), (10, .string ⟨⟨(fuM (IntKind.wrap .u64 ((IntKind.wrap .u64 (IntKind.wrap .u32 xc)) + 4294967296))).drop (Int.toNat 1)⟩⟩)] (by kernel_rfl) ?_
  obtain ⟨h03, h13, h23, hF⟩ := hF
  refine OkQ.op rfl (OpQ.step (v := .string ⟨⟨((fuM (IntKind.wrap .u64 ((IntKind.wrap .u64 (IntKind.wrap .u32 xc)) + 4294967296))).drop (Int.toNat 1)).take (Int.toNat 6)⟩⟩) (Yields.sliceStr (s := ((fuM (IntKind.wrap .u64 ((IntKind.wrap .u64 (IntKind.wrap .u32 xc)) + 4294967296))).drop (Int.toNat 1))) (l := 0) (h := 6) (by kernel_rfl) Tryd.underlying9 (.inr ⟨rfl, rfl⟩) (.inl ⟨_, _, rfl, rfl⟩) h03 h13 h23 (((fuM (IntKind.wrap .u64 ((IntKind.wrap .u64 (IntKind.wrap .u32 xc)) + 4294967296))).drop (Int.toNat 1)).take (Int.toNat 6)) (by simp)) rfl rfl ?_)
  obtain ⟨hv, hF⟩ := hF
  refine OkQ.op rfl (OpQ.step (v := .string ⟨⟨([35] : List UInt8) ++ (((fuM (IntKind.wrap .u64 ((IntKind.wrap .u64 (IntKind.wrap .u32 xc)) + 4294967296))).drop (Int.toNat 1)).take (Int.toNat 6))⟩⟩) (Yields.strAdd rfl rfl hv) rfl rfl ?_)
  refine OkQ.batch 1 [(12, .string ⟨⟨([35] : List UInt8) ++ (((fuM (IntKind.wrap .u64 ((IntKind.wrap .u64 (IntKind.wrap .u32 xc)) + 4294967296))).drop (Int.toNat 1)).take (Int.toNat 6))⟩⟩), (13, .string ⟨⟨(fuM (IntKind.wrap .u64 ((IntKind.wrap .u64 (IntKind.wrap .u32 xc)) + 4294967296))).drop (Int.toNat 1)⟩⟩)] (by kernel_rfl) ?_
  obtain ⟨h04, h14, h24, hF⟩ := hF
  refine OkQ.op rfl (OpQ.step (v := .string ⟨⟨((fuM (IntKind.wrap .u64 ((IntKind.wrap .u64 (IntKind.wrap .u32 xc)) + 4294967296))).drop (Int.toNat 1)).drop (Int.toNat 6)⟩⟩) (Yields.sliceStr (s := ((fuM (IntKind.wrap .u64 ((IntKind.wrap .u64 (IntKind.wrap .u32 xc)) + 4294967296))).drop (Int.toNat 1))) (l := 6) (h := (((fuM (IntKind.wrap .u64 ((IntKind.wrap .u64 (IntKind.wrap .u32 xc)) + 4294967296))).drop (Int.toNat 1)).length : Int)) (by kernel_rfl) Tryd.underlying9 (.inl ⟨_, _, rfl, rfl⟩) (.inr ⟨rfl, rfl⟩) h04 h14 h24 (((fuM (IntKind.wrap .u64 ((IntKind.wrap .u64 (IntKind.wrap .u32 xc)) + 4294967296))).drop (Int.toNat 1)).drop (Int.toNat 6)) (by rw [show ((((fuM (IntKind.wrap .u64 ((IntKind.wrap .u64 (IntKind.wrap .u32 xc)) + 4294967296))).drop (Int.toNat 1)).length : Int)).toNat = ((fuM (IntKind.wrap .u64 ((IntKind.wrap .u64 (IntKind.wrap .u32 xc)) + 4294967296))).drop (Int.toNat 1)).length from Int.toNat_natCast _, List.take_length])) rfl rfl ?_)
  refine OkQ.op rfl (OpQ.callG (v := .string ⟨⟨(ctlM (((fuM (IntKind.wrap .u64 ((IntKind.wrap .u64 (IntKind.wrap .u32 xc)) + 4294967296))).drop (Int.toNat 1)).drop (Int.toNat 6)))⟩⟩) (enters (by kernel_rfl) (fun _ => by kernel_rfl)) (fun W hW => ctl_c (((fuM (IntKind.wrap .u64 ((IntKind.wrap .u64 (IntKind.wrap .u32 xc)) + 4294967296))).drop (Int.toNat 1)).drop (Int.toNat 6))) rfl ?_)
  obtain ⟨hv, hF⟩ := hF
  refine OkQ.op rfl (OpQ.step (v := .string ⟨⟨(([35] : List UInt8) ++ (((fuM (IntKind.wrap .u64 ((IntKind.wrap .u64 (IntKind.wrap .u32 xc)) + 4294967296))).drop (Int.toNat 1)).take (Int.toNat 6))) ++ (ctlM (((fuM (IntKind.wrap .u64 ((IntKind.wrap .u64 (IntKind.wrap .u32 xc)) + 4294967296))).drop (Int.toNat 1)).drop (Int.toNat 6)))⟩⟩) (Yields.strAdd rfl rfl hv) rfl rfl ?_)
  refine OkQ.batch 1 [(2, .string ⟨⟨(([35] : List UInt8) ++ (((fuM (IntKind.wrap .u64 ((IntKind.wrap .u64 (IntKind.wrap .u32 xc)) + 4294967296))).drop (Int.toNat 1)).take (Int.toNat 6))) ++ (ctlM (((fuM (IntKind.wrap .u64 ((IntKind.wrap .u64 (IntKind.wrap .u32 xc)) + 4294967296))).drop (Int.toNat 1)).drop (Int.toNat 6)))⟩⟩)] (by kernel_rfl) ?_
  refine OkQ.nil ?_
  refine Ok.thenN ?_
  refine Ok.ret ?_
  exact Ok.resH (vs := [.string ⟨⟨(([35] : List UInt8) ++ (((fuM (IntKind.wrap .u64 ((IntKind.wrap .u64 (IntKind.wrap .u32 xc)) + 4294967296))).drop (Int.toNat 1)).take (Int.toNat 6))) ++ (ctlM (((fuM (IntKind.wrap .u64 ((IntKind.wrap .u64 (IntKind.wrap .u32 xc)) + 4294967296))).drop (Int.toNat 1)).drop (Int.toNat 6)))⟩⟩]) (.inl rfl) rfl (.cons (.tmp rfl) .nil) (Gext.refl w0 g) ⟨((([35] : List UInt8) ++ (((fuM (IntKind.wrap .u64 ((IntKind.wrap .u64 (IntKind.wrap .u32 xc)) + 4294967296))).drop (Int.toNat 1)).take (Int.toNat 6))) ++ (ctlM (((fuM (IntKind.wrap .u64 ((IntKind.wrap .u64 (IntKind.wrap .u32 xc)) + 4294967296))).drop (Int.toNat 1)).drop (Int.toNat 6)))), rfl, rfl, hF⟩
theorem ctx_F (c : Int) : ctxF c (fun r => r = ctxS c) := by
  obtain ⟨h0, h1⟩ := u32_in c
  unfold ctxF
  have e : ∀ u : Int, fuM u = fmtS u := fun _ => rfl
  rw [u64w (x := IntKind.wrap .u32 c) (by omega), u64w (x := IntKind.wrap .u32 c + 4294967296) (by omega), e, fmt_eq c]
  refine ⟨by unfold fmtP; omega, by decide, by simp [two], Int.le_refl _, by decide, by decide, by simp [two], max3 (by simp [two]), by decide, by simp [two], Int.le_refl _, max3 ?_, ?_⟩
  · have : (ctlM (two (byt c 0))).length ≤ 2 := by rw [ctl_eq]; split <;> simp [two]
    have e2 : (([49] ++ two (byt c 3) ++ two (byt c 2) ++ two (byt c 1) ++ two (byt c 0)).drop (Int.toNat 1)).drop (Int.toNat 6) = two (byt c 0) := rfl
    have e3 : ([35] ++ (([49] ++ two (byt c 3) ++ two (byt c 2) ++ two (byt c 1) ++ two (byt c 0)).drop (Int.toNat 1)).take (Int.toNat 6) : List UInt8).length = 7 := rfl
    rw [e2, e3]
    omega
  · have e2 : (([49] ++ two (byt c 3) ++ two (byt c 2) ++ two (byt c 1) ++ two (byt c 0)).drop (Int.toNat 1)).drop (Int.toNat 6) = two (byt c 0) := rfl
    rw [e2, ctl_eq]; rfl
set_option linter.unusedVariables false in
theorem ctx_c {g : Ghost} (xc : Int) (hG8 : GlobL g 8 (.int .u8) DBru)  : CallsG Tryd.prog 24 #[.int .i64 xc] g (.string ⟨⟨(ctxS xc)⟩⟩) :=
  (ctx_ok xc hG8 _ (ctx_F xc)).gives (by rintro g' H' v _ ⟨r0, rfl, rfl, hK⟩; subst hK; rfl)
def rctj16 (xc : Int) (x3l9 : List UInt8) (x4l9 : Int) (C9 : (List UInt8) → Int → Prop) : Prop :=
  C9 (if ((decide (x4l9 > 0)) || (decide ((rbytM xc x4l9) < 255))) = true then (x3l9 ++ ((([48, 49, 50, 51, 52, 53, 54, 55, 56, 57, 97, 98, 99, 100, 101, 102] : List UInt8).take (Int.toNat (IntKind.wrap .i64 ((IntKind.wrap .i64 (Int.tdiv (rbytM xc x4l9) 16)) + 1)))).drop (Int.toNat (IntKind.wrap .i64 (Int.tdiv (rbytM xc x4l9) 16))))) ++ ((([48, 49, 50, 51, 52, 53, 54, 55, 56, 57, 97, 98, 99, 100, 101, 102] : List UInt8).take (Int.toNat (IntKind.wrap .i64 ((Int.tmod (rbytM xc x4l9) 16) + 1)))).drop (Int.toNat (Int.tmod (rbytM xc x4l9) 16))) else x3l9) (IntKind.wrap .i64 (x4l9 - 1))
def rctl9b (xc : Int) (K : (List UInt8) → Prop) (x3l9 : List UInt8) (x4l9 : Int) (C9 : (List UInt8) → Int → Prop) : Prop :=
  ((decide (x4l9 ≥ 0)) = true → ((((decide (x4l9 > 0)) || (decide ((rbytM xc x4l9) < 255)))) = true → (0 : Int) ≤ (IntKind.wrap .i64 (Int.tdiv (rbytM xc x4l9) 16)) ∧ ((IntKind.wrap .i64 (Int.tdiv (rbytM xc x4l9) 16)) : Int) ≤ (IntKind.wrap .i64 ((IntKind.wrap .i64 (Int.tdiv (rbytM xc x4l9) 16)) + 1)) ∧ (IntKind.wrap .i64 ((IntKind.wrap .i64 (Int.tdiv (rbytM xc x4l9) 16)) + 1)) ≤ (([48, 49, 50, 51, 52, 53, 54, 55, 56, 57, 97, 98, 99, 100, 101, 102] : List UInt8).length : Int) ∧ x3l9.length + ((([48, 49, 50, 51, 52, 53, 54, 55, 56, 57, 97, 98, 99, 100, 101, 102] : List UInt8).take (Int.toNat (IntKind.wrap .i64 ((IntKind.wrap .i64 (Int.tdiv (rbytM xc x4l9) 16)) + 1)))).drop (Int.toNat (IntKind.wrap .i64 (Int.tdiv (rbytM xc x4l9) 16)))).length ≤ maxLen ∧ (0 : Int) ≤ (Int.tmod (rbytM xc x4l9) 16) ∧ ((Int.tmod (rbytM xc x4l9) 16) : Int) ≤ (IntKind.wrap .i64 ((Int.tmod (rbytM xc x4l9) 16) + 1)) ∧ (IntKind.wrap .i64 ((Int.tmod (rbytM xc x4l9) 16) + 1)) ≤ (([48, 49, 50, 51, 52, 53, 54, 55, 56, 57, 97, 98, 99, 100, 101, 102] : List UInt8).length : Int) ∧ (x3l9 ++ ((([48, 49, 50, 51, 52, 53, 54, 55, 56, 57, 97, 98, 99, 100, 101, 102] : List UInt8).take (Int.toNat (IntKind.wrap .i64 ((IntKind.wrap .i64 (Int.tdiv (rbytM xc x4l9) 16)) + 1)))).drop (Int.toNat (IntKind.wrap .i64 (Int.tdiv (rbytM xc x4l9) 16))))).length + ((([48, 49, 50, 51, 52, 53, 54, 55, 56, 57, 97, 98, 99, 100, 101, 102] : List UInt8).take (Int.toNat (IntKind.wrap .i64 ((Int.tmod (rbytM xc x4l9) 16) + 1)))).drop (Int.toNat (Int.tmod (rbytM xc x4l9) 16))).length ≤ maxLen ∧ rctj16 xc x3l9 x4l9 C9) ∧ ((((decide (x4l9 > 0)) || (decide ((rbytM xc x4l9) < 255)))) = false → rctj16 xc x3l9 x4l9 C9)) ∧ ((decide (x4l9 ≥ 0)) = false → K x3l9)
def rctl9 (xc : Int) (K : (List UInt8) → Prop) : Nat → (List UInt8) → Int → Prop
  | 0, _, _ => False
  | k + 1, x3l9, x4l9 => rctl9b xc K x3l9 x4l9 (rctl9 xc K k)
def rctF (xc : Int) (K : (List UInt8) → Prop) : Prop :=
  ∃ k, rctl9 xc K k ([35] : List UInt8) 3
set_option maxHeartbeats 4000000 in
set_option maxRecDepth 100000 in
set_option linter.unusedVariables false in
theorem rct_ok {g : Ghost} (xc : Int) (K : (List UInt8) → Prop)
    (hF : rctF xc K) : CallsH Tryd.prog 25 #[.int .i64 xc] g [] (fun g' H' v => ∃ (r0 : List UInt8), v = .string ⟨⟨r0⟩⟩ ∧ H' = [] ∧ K r0) := by
  refine CallsH.enter 35 [(0, .int .i64 xc)] Tryd.func25 rfl (by kernel_rfl) (by kernel_rfl) (by kernel_rfl) fun w0 => ?_
  refine Ok.seq ?_
  refine Ok.region ?_
  refine Ok.batch 1 [(0, .int .i64 xc)] (by kernel_rfl) ?_
  refine Ok.nil ?_
  refine Ok.thenN ?_
  refine Ok.seq ?_
  refine Ok.region ?_
  refine Ok.batch 1 [(0, .int .i64 xc), (3, .string ⟨⟨([35] : List UInt8)⟩⟩)] (by kernel_rfl) ?_
  refine Ok.nil ?_
  refine Ok.thenN ?_
  refine Ok.seq ?_
  refine Ok.seq ?_
  refine Ok.region ?_
  refine Ok.batch 1 [(0, .int .i64 xc), (3, .string ⟨⟨([35] : List UInt8)⟩⟩), (4, .int .i64 3)] (by kernel_rfl) ?_
  refine Ok.nil ?_
  refine Ok.thenN ?_
  refine Ok.block ?_
  obtain ⟨k, hF⟩ := hF
  refine Ok.loop (fun k a W => ∃ (x3l9 : List UInt8) (x4l9 : Int), StA 35 [(0, .int .i64 xc), (3, .string ⟨⟨x3l9⟩⟩), (4, .int .i64 x4l9)] a ∧ StW w0 [] g W ∧ rctl9 xc K k x3l9 x4l9) k ?_ ?_
  ·
    exact fun a W hA hW => ⟨([35] : List UInt8), 3, hA.sub (by kernel_rfl), hW, hF⟩
  ·
    clear hF
    rintro k9 a W ⟨x3l9, x4l9, hA, hW, hF⟩
    cases k9 with
    | zero => exact (hF : False).elim
    | succ k9 =>
      refine (?_ : Ok _ _ _ _ _ _) a W hA hW
      clear hA hW
      refine Ok.seq ?_
      refine Ok.seq ?_
      refine Ok.region ?_
      refine Ok.batch 2 [(0, .int .i64 xc), (3, .string ⟨⟨x3l9⟩⟩), (4, .int .i64 x4l9), (7, .bool (decide (x4l9 ≥ 0)))] (by kernel_rfl) ?_
      refine Ok.nil ?_
      refine Ok.thenN ?_
      refine Ok.cond (b := decide (x4l9 ≥ 0)) rfl (fun hc1 => ?_) (fun hc1 => ?_)
      · replace hF := hF.1 hc1
        refine Ok.skip ?_
        refine Ok.thenN ?_
        refine Ok.cut (fun a W => StA 35 [(0, .int .i64 xc), (3, .string ⟨⟨(if ((decide (x4l9 > 0)) || (decide ((rbytM xc x4l9) < 255))) = true then (x3l9 ++ ((([48, 49, 50, 51, 52, 53, 54, 55, 56, 57, 97, 98, 99, 100, 101, 102] : List UInt8).take (Int.toNat (IntKind.wrap .i64 ((IntKind.wrap .i64 (Int.tdiv (rbytM xc x4l9) 16)) + 1)))).drop (Int.toNat (IntKind.wrap .i64 (Int.tdiv (rbytM xc x4l9) 16))))) ++ ((([48, 49, 50, 51, 52, 53, 54, 55, 56, 57, 97, 98, 99, 100, 101, 102] : List UInt8).take (Int.toNat (IntKind.wrap .i64 ((Int.tmod (rbytM xc x4l9) 16) + 1)))).drop (Int.toNat (Int.tmod (rbytM xc x4l9) 16))) else x3l9)⟩⟩), (4, .int .i64 x4l9)] a ∧ StW w0 [] g W ∧ rctj16 xc x3l9 x4l9 (rctl9 xc K k9)) ?_ ?_
        ·
          refine Ok.block ?_
          refine Ok.seq ?_
          refine Ok.region ?_
          refine Ok.batch 2 [(0, .int .i64 xc), (3, .string ⟨⟨x3l9⟩⟩), (4, .int .i64 x4l9), (10, .int .i64 xc), (11, .int .i64 x4l9)] (by kernel_rfl) ?_
          refine Ok.op rfl (OpOk.callG (v := .int .i64 (rbytM xc x4l9)) (enters (by kernel_rfl) (fun _ => by kernel_rfl)) (fun W hW => rbyt_c xc x4l9) rfl ?_)
          refine Ok.batch 1 [(0, .int .i64 xc), (3, .string ⟨⟨x3l9⟩⟩), (4, .int .i64 x4l9), (5, .int .i64 (rbytM xc x4l9))] (by kernel_rfl) ?_
          refine Ok.nil ?_
          refine Ok.thenN ?_
          refine Ok.seq ?_
          refine Ok.region ?_
          refine Ok.batch 3 [(0, .int .i64 xc), (3, .string ⟨⟨x3l9⟩⟩), (4, .int .i64 x4l9), (5, .int .i64 (rbytM xc x4l9)), (15, .bool (decide (x4l9 > 0)))] (by kernel_rfl) ?_
          refine Ok.midway 3 [(0, .int .i64 xc), (3, .string ⟨⟨x3l9⟩⟩), (4, .int .i64 x4l9), (5, .int .i64 (rbytM xc x4l9)), (18, .bool ((decide (x4l9 > 0)) || (decide ((rbytM xc x4l9) < 255))))] (fun hR2 => ?_) ?_
          · refine Ok.boolAt 15 (decide (x4l9 > 0)) rfl (fun hc3 => ?_) (fun hc3 => ?_)
            · skip
              refine Ok.batch 3 [(0, .int .i64 xc), (3, .string ⟨⟨x3l9⟩⟩), (4, .int .i64 x4l9), (5, .int .i64 (rbytM xc x4l9)), (18, .bool true)] (by kernel_rfl) ?_
              refine Ok.reval 18 rfl (show (.bool true : Value) = .bool ((decide (x4l9 > 0)) || (decide ((rbytM xc x4l9) < 255))) from congrArg Value.bool (mor_t hc3)) ?_
              refine Ok.batch 0 [(0, .int .i64 xc), (3, .string ⟨⟨x3l9⟩⟩), (4, .int .i64 x4l9), (5, .int .i64 (rbytM xc x4l9)), (18, .bool ((decide (x4l9 > 0)) || (decide ((rbytM xc x4l9) < 255))))] (by kernel_rfl) ?_
              exact hR2
            · skip
              refine Ok.batch 3 [(0, .int .i64 xc), (3, .string ⟨⟨x3l9⟩⟩), (4, .int .i64 x4l9), (5, .int .i64 (rbytM xc x4l9)), (18, .bool (decide ((rbytM xc x4l9) < 255)))] (by kernel_rfl) ?_
              refine Ok.reval 18 rfl (show (.bool (decide ((rbytM xc x4l9) < 255)) : Value) = .bool ((decide (x4l9 > 0)) || (decide ((rbytM xc x4l9) < 255))) from congrArg Value.bool (mor_f hc3)) ?_
              refine Ok.batch 0 [(0, .int .i64 xc), (3, .string ⟨⟨x3l9⟩⟩), (4, .int .i64 x4l9), (5, .int .i64 (rbytM xc x4l9)), (18, .bool ((decide (x4l9 > 0)) || (decide ((rbytM xc x4l9) < 255))))] (by kernel_rfl) ?_
              exact hR2
          refine Ok.nil ?_
          refine Ok.thenN ?_
          refine Ok.cond (b := ((decide (x4l9 > 0)) || (decide ((rbytM xc x4l9) < 255)))) rfl (fun hc4 => ?_) (fun hc4 => ?_)
          · replace hF := hF.1 hc4
            refine Ok.quiet' (by kernel_rfl) (by kernel_rfl) ?_
            refine OkQ.batch 6 [(0, .int .i64 xc), (4, .int .i64 x4l9), (5, .int .i64 (rbytM xc x4l9)), (19, .string ⟨⟨x3l9⟩⟩), (21, .int .i64 (IntKind.wrap .i64 (Int.tdiv (rbytM xc x4l9) 16))), (24, .int .i64 (IntKind.wrap .i64 ((IntKind.wrap .i64 (Int.tdiv (rbytM xc x4l9) 16)) + 1)))] (by kernel_rfl) ?_
            obtain ⟨h05, h15, h25, hF⟩ := hF
            refine OkQ.op rfl (OpQ.step (v := .string ⟨⟨(([48, 49, 50, 51, 52, 53, 54, 55, 56, 57, 97, 98, 99, 100, 101, 102] : List UInt8).take (Int.toNat (IntKind.wrap .i64 ((IntKind.wrap .i64 (Int.tdiv (rbytM xc x4l9) 16)) + 1)))).drop (Int.toNat (IntKind.wrap .i64 (Int.tdiv (rbytM xc x4l9) 16)))⟩⟩) (Yields.sliceStr (s := ([48, 49, 50, 51, 52, 53, 54, 55, 56, 57, 97, 98, 99, 100, 101, 102] : List UInt8)) (l := (IntKind.wrap .i64 (Int.tdiv (rbytM xc x4l9) 16))) (h := (IntKind.wrap .i64 ((IntKind.wrap .i64 (Int.tdiv (rbytM xc x4l9) 16)) + 1))) (by kernel_rfl) Tryd.underlying9 (.inl ⟨_, _, rfl, rfl⟩) (.inl ⟨_, _, rfl, rfl⟩) h05 h15 h25 ((([48, 49, 50, 51, 52, 53, 54, 55, 56, 57, 97, 98, 99, 100, 101, 102] : List UInt8).take (Int.toNat (IntKind.wrap .i64 ((IntKind.wrap .i64 (Int.tdiv (rbytM xc x4l9) 16)) + 1)))).drop (Int.toNat (IntKind.wrap .i64 (Int.tdiv (rbytM xc x4l9) 16)))) rfl) rfl rfl ?_)
            obtain ⟨hv, hF⟩ := hF
            refine OkQ.op rfl (OpQ.step (v := .string ⟨⟨x3l9 ++ ((([48, 49, 50, 51, 52, 53, 54, 55, 56, 57, 97, 98, 99, 100, 101, 102] : List UInt8).take (Int.toNat (IntKind.wrap .i64 ((IntKind.wrap .i64 (Int.tdiv (rbytM xc x4l9) 16)) + 1)))).drop (Int.toNat (IntKind.wrap .i64 (Int.tdiv (rbytM xc x4l9) 16))))⟩⟩) (Yields.strAdd rfl rfl hv) rfl rfl ?_)
            refine OkQ.batch 5 [(0, .int .i64 xc), (4, .int .i64 x4l9), (26, .string ⟨⟨x3l9 ++ ((([48, 49, 50, 51, 52, 53, 54, 55, 56, 57, 97, 98, 99, 100, 101, 102] : List UInt8).take (Int.toNat (IntKind.wrap .i64 ((IntKind.wrap .i64 (Int.tdiv (rbytM xc x4l9) 16)) + 1)))).drop (Int.toNat (IntKind.wrap .i64 (Int.tdiv (rbytM xc x4l9) 16))))⟩⟩), (28, .int .i64 (Int.tmod (rbytM xc x4l9) 16)), (31, .int .i64 (IntKind.wrap .i64 ((Int.tmod (rbytM xc x4l9) 16) + 1)))] (by kernel_rfl) ?_
            obtain ⟨h06, h16, h26, hF⟩ := hF
            refine OkQ.op rfl (OpQ.step (v := .string ⟨⟨(([48, 49, 50, 51, 52, 53, 54, 55, 56, 57, 97, 98, 99, 100, 101, 102] : List UInt8).take (Int.toNat (IntKind.wrap .i64 ((Int.tmod (rbytM xc x4l9) 16) + 1)))).drop (Int.toNat (Int.tmod (rbytM xc x4l9) 16))⟩⟩) (Yields.sliceStr (s := ([48, 49, 50, 51, 52, 53, 54, 55, 56, 57, 97, 98, 99, 100, 101, 102] : List UInt8)) (l := (Int.tmod (rbytM xc x4l9) 16)) (h := (IntKind.wrap .i64 ((Int.tmod (rbytM xc x4l9) 16) + 1))) (by kernel_rfl) Tryd.underlying9 (.inl ⟨_, _, rfl, rfl⟩) (.inl ⟨_, _, rfl, rfl⟩) h06 h16 h26 ((([48, 49, 50, 51, 52, 53, 54, 55, 56, 57, 97, 98, 99, 100, 101, 102] : List UInt8).take (Int.toNat (IntKind.wrap .i64 ((Int.tmod (rbytM xc x4l9) 16) + 1)))).drop (Int.toNat (Int.tmod (rbytM xc x4l9) 16))) rfl) rfl rfl ?_)
            obtain ⟨hv, hF⟩ := hF
            refine OkQ.op rfl (OpQ.step (v := .string ⟨⟨(x3l9 ++ ((([48, 49, 50, 51, 52, 53, 54, 55, 56, 57, 97, 98, 99, 100, 101, 102] : List UInt8).take (Int.toNat (IntKind.wrap .i64 ((IntKind.wrap .i64 (Int.tdiv (rbytM xc x4l9) 16)) + 1)))).drop (Int.toNat (IntKind.wrap .i64 (Int.tdiv (rbytM xc x4l9) 16))))) ++ ((([48, 49, 50, 51, 52, 53, 54, 55, 56, 57, 97, 98, 99, 100, 101, 102] : List UInt8).take (Int.toNat (IntKind.wrap .i64 ((Int.tmod (rbytM xc x4l9) 16) + 1)))).drop (Int.toNat (Int.tmod (rbytM xc x4l9) 16)))⟩⟩) (Yields.strAdd rfl rfl hv) rfl rfl ?_)
            refine OkQ.batch 1 [(0, .int .i64 xc), (3, .string ⟨⟨(x3l9 ++ ((([48, 49, 50, 51, 52, 53, 54, 55, 56, 57, 97, 98, 99, 100, 101, 102] : List UInt8).take (Int.toNat (IntKind.wrap .i64 ((IntKind.wrap .i64 (Int.tdiv (rbytM xc x4l9) 16)) + 1)))).drop (Int.toNat (IntKind.wrap .i64 (Int.tdiv (rbytM xc x4l9) 16))))) ++ ((([48, 49, 50, 51, 52, 53, 54, 55, 56, 57, 97, 98, 99, 100, 101, 102] : List UInt8).take (Int.toNat (IntKind.wrap .i64 ((Int.tmod (rbytM xc x4l9) 16) + 1)))).drop (Int.toNat (Int.tmod (rbytM xc x4l9) 16)))⟩⟩), (4, .int .i64 x4l9)] (by kernel_rfl) ?_
            refine OkQ.nil ?_
            refine Ok.blockN ?_
            refine Ok.thenN ?_
            refine Ok.reval 3 rfl (show (.string ⟨⟨(x3l9 ++ ((([48, 49, 50, 51, 52, 53, 54, 55, 56, 57, 97, 98, 99, 100, 101, 102] : List UInt8).take (Int.toNat (IntKind.wrap .i64 ((IntKind.wrap .i64 (Int.tdiv (rbytM xc x4l9) 16)) + 1)))).drop (Int.toNat (IntKind.wrap .i64 (Int.tdiv (rbytM xc x4l9) 16))))) ++ ((([48, 49, 50, 51, 52, 53, 54, 55, 56, 57, 97, 98, 99, 100, 101, 102] : List UInt8).take (Int.toNat (IntKind.wrap .i64 ((Int.tmod (rbytM xc x4l9) 16) + 1)))).drop (Int.toNat (Int.tmod (rbytM xc x4l9) 16)))⟩⟩ : Value) = .string ⟨⟨(if ((decide (x4l9 > 0)) || (decide ((rbytM xc x4l9) < 255))) = true then (x3l9 ++ ((([48, 49, 50, 51, 52, 53, 54, 55, 56, 57, 97, 98, 99, 100, 101, 102] : List UInt8).take (Int.toNat (IntKind.wrap .i64 ((IntKind.wrap .i64 (Int.tdiv (rbytM xc x4l9) 16)) + 1)))).drop (Int.toNat (IntKind.wrap .i64 (Int.tdiv (rbytM xc x4l9) 16))))) ++ ((([48, 49, 50, 51, 52, 53, 54, 55, 56, 57, 97, 98, 99, 100, 101, 102] : List UInt8).take (Int.toNat (IntKind.wrap .i64 ((Int.tmod (rbytM xc x4l9) 16) + 1)))).drop (Int.toNat (Int.tmod (rbytM xc x4l9) 16))) else x3l9)⟩⟩ from congrArg ((fun s : List UInt8 => Value.string ⟨⟨s⟩⟩)) ((if_t hc4).symm)) ?_
            exact fun a W hA hW => ⟨hA.sub (by kernel_rfl), hW, hF⟩
          · replace hF := hF.2 hc4
            refine Ok.skip ?_
            refine Ok.blockN ?_
            refine Ok.thenN ?_
            refine Ok.reval 3 rfl (show (.string ⟨⟨x3l9⟩⟩ : Value) = .string ⟨⟨(if ((decide (x4l9 > 0)) || (decide ((rbytM xc x4l9) < 255))) = true then (x3l9 ++ ((([48, 49, 50, 51, 52, 53, 54, 55, 56, 57, 97, 98, 99, 100, 101, 102] : List UInt8).take (Int.toNat (IntKind.wrap .i64 ((IntKind.wrap .i64 (Int.tdiv (rbytM xc x4l9) 16)) + 1)))).drop (Int.toNat (IntKind.wrap .i64 (Int.tdiv (rbytM xc x4l9) 16))))) ++ ((([48, 49, 50, 51, 52, 53, 54, 55, 56, 57, 97, 98, 99, 100, 101, 102] : List UInt8).take (Int.toNat (IntKind.wrap .i64 ((Int.tmod (rbytM xc x4l9) 16) + 1)))).drop (Int.toNat (Int.tmod (rbytM xc x4l9) 16))) else x3l9)⟩⟩ from congrArg ((fun s : List UInt8 => Value.string ⟨⟨s⟩⟩)) ((if_f hc4).symm)) ?_
            exact fun a W hA hW => ⟨hA.sub (by kernel_rfl), hW, hF⟩
        ·
          clear hF
          rintro a W ⟨hA, hW, hF⟩
          refine (?_ : Ok _ _ _ _ _ _) a W hA hW
          clear hA hW
          refine Ok.region ?_
          refine Ok.batch 3 [(0, .int .i64 xc), (3, .string ⟨⟨(if ((decide (x4l9 > 0)) || (decide ((rbytM xc x4l9) < 255))) = true then (x3l9 ++ ((([48, 49, 50, 51, 52, 53, 54, 55, 56, 57, 97, 98, 99, 100, 101, 102] : List UInt8).take (Int.toNat (IntKind.wrap .i64 ((IntKind.wrap .i64 (Int.tdiv (rbytM xc x4l9) 16)) + 1)))).drop (Int.toNat (IntKind.wrap .i64 (Int.tdiv (rbytM xc x4l9) 16))))) ++ ((([48, 49, 50, 51, 52, 53, 54, 55, 56, 57, 97, 98, 99, 100, 101, 102] : List UInt8).take (Int.toNat (IntKind.wrap .i64 ((Int.tmod (rbytM xc x4l9) 16) + 1)))).drop (Int.toNat (Int.tmod (rbytM xc x4l9) 16))) else x3l9)⟩⟩), (4, .int .i64 (IntKind.wrap .i64 (x4l9 - 1)))] (by kernel_rfl) ?_
          refine Ok.nil ?_
          refine Ok.thenN ?_
          exact fun a W hA hW => ⟨k9, Nat.lt_succ_self _, (if ((decide (x4l9 > 0)) || (decide ((rbytM xc x4l9) < 255))) = true then (x3l9 ++ ((([48, 49, 50, 51, 52, 53, 54, 55, 56, 57, 97, 98, 99, 100, 101, 102] : List UInt8).take (Int.toNat (IntKind.wrap .i64 ((IntKind.wrap .i64 (Int.tdiv (rbytM xc x4l9) 16)) + 1)))).drop (Int.toNat (IntKind.wrap .i64 (Int.tdiv (rbytM xc x4l9) 16))))) ++ ((([48, 49, 50, 51, 52, 53, 54, 55, 56, 57, 97, 98, 99, 100, 101, 102] : List UInt8).take (Int.toNat (IntKind.wrap .i64 ((Int.tmod (rbytM xc x4l9) 16) + 1)))).drop (Int.toNat (Int.tmod (rbytM xc x4l9) 16))) else x3l9), IntKind.wrap .i64 (x4l9 - 1), hA.sub (by kernel_rfl), hW, hF⟩
      · replace hF := hF.2 hc1
        refine Ok.exit ?_
        refine Ok.thenE ?_
        refine Ok.thenE ?_
        refine Ok.blockHit ?_
        refine Ok.thenN ?_
        refine Ok.seq ?_
        refine Ok.region ?_
        refine Ok.batch 2 [(2, .string ⟨⟨x3l9⟩⟩)] (by kernel_rfl) ?_
        refine Ok.nil ?_
        refine Ok.thenN ?_
        refine Ok.ret ?_
        exact Ok.resH (vs := [.string ⟨⟨x3l9⟩⟩]) (.inl rfl) rfl (.cons (.tmp rfl) .nil) (Gext.refl w0 g) ⟨x3l9, rfl, rfl, hF⟩
theorem dig_at {q : Int} (h : 0 ≤ q ∧ q < 16) : (([48, 49, 50, 51, 52, 53, 54, 55, 56, 57, 97, 98, 99, 100, 101, 102] : List UInt8).take (Int.toNat (IntKind.wrap .i64 (q + 1)))).drop (Int.toNat q) = [hxd q] := by
  obtain ⟨n, rfl⟩ := Int.eq_ofNat_of_zero_le h.1
  have key : ∀ n : Nat, n < 16 → (([48, 49, 50, 51, 52, 53, 54, 55, 56, 57, 97, 98, 99, 100, 101, 102] : List UInt8).take (Int.toNat (IntKind.wrap .i64 ((n : Int) + 1)))).drop (Int.toNat (n : Int)) = [hxd (n : Int)] := by decide +kernel
  exact key n (by omega)
theorem rct_F (c : Int) : rctF c (fun r => r = ctxS c) := by
  have step : ∀ (k : Nat) (t : List UInt8) (i : Nat) (y : Int), i ≤ 3 → t.length ≤ 50 → IntKind.wrap .i64 ((i : Int) - 1) = y →
      rctl9 c (fun r => r = ctxS c) k (if (decide ((i : Int) > 0) || decide (byt c i < 255)) = true then t ++ two (byt c i) else t) y → rctl9 c (fun r => r = ctxS c) (k + 1) t (i : Int) := by
    intro k t i y hi ht hy hk
    have hb := byt_in c i
    show rctl9b c _ t (i : Int) _
    unfold rctl9b rctj16
    rw [(part_eq c i hi).2, Int.tdiv_eq_ediv_of_nonneg hb.1, Int.tmod_eq_emod_of_nonneg hb.1, w64 (x := byt c i / 16) (by omega), dig_at (q := byt c i / 16) (by omega), dig_at (q := byt c i % 16) (by omega), w64 (x := byt c i / 16 + 1) (by omega), w64 (x := byt c i % 16 + 1) (by omega), hy, List.append_assoc, show [hxd (byt c i / 16)] ++ [hxd (byt c i % 16)] = two (byt c i) from rfl]
    refine ⟨fun _ => ⟨fun _ => ⟨by omega, by omega, by simp only [List.length_cons, List.length_nil]; omega, max3 (by simp only [List.length_cons, List.length_nil]; omega), by omega, by omega, by simp only [List.length_cons, List.length_nil]; omega, max3 (by simp only [List.length_append, List.length_cons, List.length_nil]; omega), hk⟩, fun _ => hk⟩, fun h => absurd (of_decide_eq_false h) (by omega)⟩
  refine ⟨5, ?_⟩
  refine step 4 [35] 3 2 (by omega) (by decide) (by decide) ?_
  refine step 3 _ 2 1 (by omega) (by simp [two]) (by decide) ?_
  refine step 2 _ 1 0 (by omega) (by simp [two]) (by decide) ?_
  refine step 1 _ 0 (-1) (by omega) (by simp [two]) (by decide) ?_
  refine ⟨fun h => (by cases h), fun _ => ?_⟩
  unfold ctxS
  by_cases h : byt c 0 < 255
  · rw [if_pos h, decide_eq_true h]; rfl
  · rw [if_neg h, decide_eq_false h, List.append_nil]; rfl
set_option linter.unusedVariables false in
theorem rct_c {g : Ghost} (xc : Int)  : CallsG Tryd.prog 25 #[.int .i64 xc] g (.string ⟨⟨(ctxS xc)⟩⟩) :=
  (rct_ok xc _ (rct_F xc)).gives (by rintro g' H' v _ ⟨r0, rfl, rfl, hK⟩; subst hK; rfl)
end Go.Proofs.YteocjdpjpkjlaaaDoor.Co
