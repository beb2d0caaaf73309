/- Colors: one above another one, and faded. -/
import Derived.Test.YteocjdpjpkjlaaaDoorCof
namespace Go.Proofs.YteocjdpjpkjlaaaDoor.Co
open Go Go.Eng Go.RowKit Go.Shelf Go.Proofs Bld Sp Ti
set_option linter.unusedVariables false
def rbytF (xc : Int) (xi : Int) (K : Int → Prop) : Prop :=
  (0 : Int) ≤ (IntKind.wrap .u64 (IntKind.wrap .i64 (8 * xi))) ∧ K (Int.tmod (IntKind.wrap .i64 (shrI .u32 (IntKind.wrap .u32 xc) (IntKind.wrap .u64 (IntKind.wrap .i64 (8 * xi))))) 256)
set_option maxHeartbeats 4000000 in
set_option maxRecDepth 100000 in
set_option linter.unusedVariables false in
theorem rbyt_ok {g : Ghost} (xc : Int) (xi : Int) (K : Int → Prop)
    (hF : rbytF xc xi K) : CallsH Tryd.prog 20 #[.int .i64 xc, .int .i64 xi] g [] (fun g' H' v => ∃ (r0 : Int), v = .int .i64 r0 ∧ H' = [] ∧ K r0) := by
  refine CallsH.enter 13 [(0, .int .i64 xc), (1, .int .i64 xi)] Tryd.func20 rfl (by kernel_rfl) (by kernel_rfl) (by kernel_rfl) fun w0 => ?_
  refine Ok.seq ?_
  refine Ok.region ?_
  refine Ok.batch 1 [(0, .int .i64 xc), (1, .int .i64 xi)] (by kernel_rfl) ?_
  refine Ok.nil ?_
  refine Ok.thenN ?_
  refine Ok.seq ?_
  refine Ok.region ?_
  refine Ok.batch 5 [(6, .int .u32 (IntKind.wrap .u32 xc)), (9, .int .u64 (IntKind.wrap .u64 (IntKind.wrap .i64 (8 * xi))))] (by kernel_rfl) ?_
  obtain ⟨hv, hF⟩ := hF
  refine Ok.op rfl (OpOk.step (v := .int .u32 (shrI .u32 (IntKind.wrap .u32 xc) (IntKind.wrap .u64 (IntKind.wrap .i64 (8 * xi))))) (Yields.shr rfl rfl hv) rfl rfl ?_)
  refine Ok.batch 3 [(4, .int .i64 (Int.tmod (IntKind.wrap .i64 (shrI .u32 (IntKind.wrap .u32 xc) (IntKind.wrap .u64 (IntKind.wrap .i64 (8 * xi))))) 256))] (by kernel_rfl) ?_
  refine Ok.nil ?_
  refine Ok.thenN ?_
  refine Ok.ret ?_
  exact Ok.resH (vs := [.int .i64 (Int.tmod (IntKind.wrap .i64 (shrI .u32 (IntKind.wrap .u32 xc) (IntKind.wrap .u64 (IntKind.wrap .i64 (8 * xi))))) 256)]) (.inl rfl) rfl (.cons (.tmp rfl) .nil) (Gext.refl w0 g) ⟨(Int.tmod (IntKind.wrap .i64 (shrI .u32 (IntKind.wrap .u32 xc) (IntKind.wrap .u64 (IntKind.wrap .i64 (8 * xi))))) 256), rfl, rfl, hF⟩
def rbytM (xc : Int) (xi : Int) : Int := (Int.tmod (IntKind.wrap .i64 (shrI .u32 (IntKind.wrap .u32 xc) (IntKind.wrap .u64 (IntKind.wrap .i64 (8 * xi))))) 256)
set_option linter.unusedSimpArgs false in
set_option linter.unusedVariables false in
theorem rbytF_A (xc : Int) (xi : Int) (P : Int → Prop) (h : P (rbytM xc xi)) : rbytF xc xi (fun k0 => P k0) := by
  unfold rbytM at h
  unfold rbytF
  refine ⟨?_, ?_⟩
  · first | (exact Int.emod_nonneg _ (by decide)) | omega | assumption | exact trivial | (have h0 := List.length_pos_iff.mpr (by assumption); omega) | (simp; omega) | (simp at *; omega)
  exact h
theorem rbyt_F (xc : Int) (xi : Int) : rbytF xc xi (fun k0 => k0 = rbytM xc xi) :=
  rbytF_A xc xi (fun z => z = rbytM xc xi) rfl
set_option linter.unusedVariables false in
theorem rbyt_c {g : Ghost} (xc : Int) (xi : Int)  : CallsG Tryd.prog 20 #[.int .i64 xc, .int .i64 xi] g (.int .i64 (rbytM xc xi)) :=
  (rbyt_ok xc xi _ (rbyt_F xc xi)).gives (by rintro g' H' v _ ⟨r0, rfl, rfl, hK⟩; subst hK; rfl)
def atP (c i : Int) : Prop := 0 ≤ i ∧ i ≤ 3
def cprtF (xc : Int) (xat : Int) (K : Int → Prop) : Prop :=
  (0 : Int) ≤ (IntKind.wrap .i64 (8 * xat)) ∧ K (IntKind.wrap .i64 (bitAnd .u32 (shrI .u32 (IntKind.wrap .u32 xc) (IntKind.wrap .i64 (8 * xat))) 255))
set_option maxHeartbeats 4000000 in
set_option maxRecDepth 100000 in
set_option linter.unusedVariables false in
theorem cprt_ok {g : Ghost} (xc : Int) (xat : Int) (K : Int → Prop)
    (hF : cprtF xc xat K) : CallsH Tryd.prog 52 #[.int .i64 xc, .int .i64 xat] g [] (fun g' H' v => ∃ (r0 : Int), v = .int .i64 r0 ∧ H' = [] ∧ K r0) := by
  refine CallsH.enter 12 [(0, .int .i64 xc), (1, .int .i64 xat)] Tryd.func52 rfl (by kernel_rfl) (by kernel_rfl) (by kernel_rfl) fun w0 => ?_
  refine Ok.seq ?_
  refine Ok.region ?_
  refine Ok.batch 1 [(0, .int .i64 xc), (1, .int .i64 xat)] (by kernel_rfl) ?_
  refine Ok.nil ?_
  refine Ok.thenN ?_
  refine Ok.seq ?_
  refine Ok.region ?_
  refine Ok.batch 4 [(6, .int .u32 (IntKind.wrap .u32 xc)), (8, .int .i64 (IntKind.wrap .i64 (8 * xat)))] (by kernel_rfl) ?_
  obtain ⟨hv, hF⟩ := hF
  refine Ok.op rfl (OpOk.step (v := .int .u32 (shrI .u32 (IntKind.wrap .u32 xc) (IntKind.wrap .i64 (8 * xat)))) (Yields.shr rfl rfl hv) rfl rfl ?_)
  refine Ok.batch 3 [(4, .int .i64 (IntKind.wrap .i64 (bitAnd .u32 (shrI .u32 (IntKind.wrap .u32 xc) (IntKind.wrap .i64 (8 * xat))) 255)))] (by kernel_rfl) ?_
  refine Ok.nil ?_
  refine Ok.thenN ?_
  refine Ok.ret ?_
  exact Ok.resH (vs := [.int .i64 (IntKind.wrap .i64 (bitAnd .u32 (shrI .u32 (IntKind.wrap .u32 xc) (IntKind.wrap .i64 (8 * xat))) 255))]) (.inl rfl) rfl (.cons (.tmp rfl) .nil) (Gext.refl w0 g) ⟨(IntKind.wrap .i64 (bitAnd .u32 (shrI .u32 (IntKind.wrap .u32 xc) (IntKind.wrap .i64 (8 * xat))) 255)), rfl, rfl, hF⟩
def cprtM (xc : Int) (xat : Int) : Int := (IntKind.wrap .i64 (bitAnd .u32 (shrI .u32 (IntKind.wrap .u32 xc) (IntKind.wrap .i64 (8 * xat))) 255))
set_option linter.unusedSimpArgs false in
set_option linter.unusedVariables false in
theorem cprtF_A (xc : Int) (xat : Int) (hp : atP xc xat) (P : Int → Prop) (h : P (cprtM xc xat)) : cprtF xc xat (fun k0 => P k0) := by
  unfold cprtM at h
  unfold cprtF
  refine ⟨?_, ?_⟩
  · first | (unfold atP at hp; rw [w64 (by omega)]; omega) | (exact Int.emod_nonneg _ (by decide)) | omega | assumption | exact trivial | (have h0 := List.length_pos_iff.mpr (by assumption); omega) | (simp; omega) | (simp at *; omega)
  exact h
theorem cprt_F (xc : Int) (xat : Int) (hp : atP xc xat) : cprtF xc xat (fun k0 => k0 = cprtM xc xat) :=
  cprtF_A xc xat hp (fun z => z = cprtM xc xat) rfl
set_option linter.unusedVariables false in
theorem cprt_c {g : Ghost} (xc : Int) (xat : Int)  (hp : atP xc xat) : CallsG Tryd.prog 52 #[.int .i64 xc, .int .i64 xat] g (.int .i64 (cprtM xc xat)) :=
  (cprt_ok xc xat _ (cprt_F xc xat hp)).gives (by rintro g' H' v _ ⟨r0, rfl, rfl, hK⟩; subst hK; rfl)
def cfadF (xc : Int) (xn : Int) (K : Int → Prop) : Prop :=
  atP xc 0 ∧ K (bitOr .i64 (IntKind.wrap .i64 (bitAndNot .u32 (IntKind.wrap .u32 xc) 255)) (IntKind.wrap .i64 (Int.tdiv (IntKind.wrap .i64 ((cprtM xc 0) * (if 1000 < (if xn < 0 then 0 else xn) then 1000 else (if xn < 0 then 0 else xn)))) 1000)))
set_option maxHeartbeats 4000000 in
set_option maxRecDepth 100000 in
set_option linter.unusedVariables false in
theorem cfad_ok {g : Ghost} (xc : Int) (xn : Int) (K : Int → Prop)
    (hF : cfadF xc xn K) : CallsH Tryd.prog 21 #[.int .i64 xc, .int .i64 xn] g [] (fun g' H' v => ∃ (r0 : Int), v = .int .i64 r0 ∧ H' = [] ∧ K r0) := by
  refine CallsH.enter 18 [(0, .int .i64 xc), (1, .int .i64 xn)] Tryd.func21 rfl (by kernel_rfl) (by kernel_rfl) (by kernel_rfl) fun w0 => ?_
  refine Ok.seq ?_
  refine Ok.region ?_
  refine Ok.batch 1 [(0, .int .i64 xc), (1, .int .i64 xn)] (by kernel_rfl) ?_
  refine Ok.nil ?_
  refine Ok.thenN ?_
  refine Ok.seq ?_
  refine Ok.region ?_
  refine Ok.batch 4 [(0, .int .i64 xc), (1, .int .i64 (if 1000 < (if xn < 0 then 0 else xn) then 1000 else (if xn < 0 then 0 else xn)))] (by kernel_rfl) ?_
  refine Ok.nil ?_
  refine Ok.thenN ?_
  refine Ok.seq ?_
  refine Ok.region ?_
  refine Ok.batch 5 [(1, .int .i64 (if 1000 < (if xn < 0 then 0 else xn) then 1000 else (if xn < 0 then 0 else xn))), (11, .int .i64 (IntKind.wrap .i64 (bitAndNot .u32 (IntKind.wrap .u32 xc) 255))), (12, .int .i64 xc)] (by kernel_rfl) ?_
  obtain ⟨hp1, hF⟩ := hF
  refine Ok.op rfl (OpOk.callG (v := .int .i64 (cprtM xc 0)) (enters (by kernel_rfl) (fun _ => by kernel_rfl)) (fun W hW => cprt_c xc 0 hp1) rfl ?_)
  refine Ok.batch 5 [(4, .int .i64 (bitOr .i64 (IntKind.wrap .i64 (bitAndNot .u32 (IntKind.wrap .u32 xc) 255)) (IntKind.wrap .i64 (Int.tdiv (IntKind.wrap .i64 ((cprtM xc 0) * (if 1000 < (if xn < 0 then 0 else xn) then 1000 else (if xn < 0 then 0 else xn)))) 1000))))] (by kernel_rfl) ?_
  refine Ok.nil ?_
  refine Ok.thenN ?_
  refine Ok.ret ?_
  exact Ok.resH (vs := [.int .i64 (bitOr .i64 (IntKind.wrap .i64 (bitAndNot .u32 (IntKind.wrap .u32 xc) 255)) (IntKind.wrap .i64 (Int.tdiv (IntKind.wrap .i64 ((cprtM xc 0) * (if 1000 < (if xn < 0 then 0 else xn) then 1000 else (if xn < 0 then 0 else xn)))) 1000)))]) (.inl rfl) rfl (.cons (.tmp rfl) .nil) (Gext.refl w0 g) ⟨(bitOr .i64 (IntKind.wrap .i64 (bitAndNot .u32 (IntKind.wrap .u32 xc) 255)) (IntKind.wrap .i64 (Int.tdiv (IntKind.wrap .i64 ((cprtM xc 0) * (if 1000 < (if xn < 0 then 0 else xn) then 1000 else (if xn < 0 then 0 else xn)))) 1000))), rfl, rfl, hF⟩
def cfadM (xc : Int) (xn : Int) : Int := (bitOr .i64 (IntKind.wrap .i64 (bitAndNot .u32 (IntKind.wrap .u32 xc) 255)) (IntKind.wrap .i64 (Int.tdiv (IntKind.wrap .i64 ((cprtM xc 0) * (if 1000 < (if xn < 0 then 0 else xn) then 1000 else (if xn < 0 then 0 else xn)))) 1000)))
set_option linter.unusedSimpArgs false in
set_option linter.unusedVariables false in
theorem cfadF_A (xc : Int) (xn : Int) (P : Int → Prop) (h : P (cfadM xc xn)) : cfadF xc xn (fun k0 => P k0) := by
  unfold cfadM at h
  unfold cfadF
  refine ⟨?_, ?_⟩
  · first | (unfold atP; omega) | (unfold atP at hp; rw [w64 (by omega)]; omega) | (exact Int.emod_nonneg _ (by decide)) | omega | assumption | exact trivial | (have h0 := List.length_pos_iff.mpr (by assumption); omega) | (simp; omega) | (simp at *; omega)
  exact h
theorem cfad_F (xc : Int) (xn : Int) : cfadF xc xn (fun k0 => k0 = cfadM xc xn) :=
  cfadF_A xc xn (fun z => z = cfadM xc xn) rfl
set_option linter.unusedVariables false in
theorem cfad_c {g : Ghost} (xc : Int) (xn : Int)  : CallsG Tryd.prog 21 #[.int .i64 xc, .int .i64 xn] g (.int .i64 (cfadM xc xn)) :=
  (cfad_ok xc xn _ (cfad_F xc xn)).gives (by rintro g' H' v _ ⟨r0, rfl, rfl, hK⟩; subst hK; rfl)
theorem and255 {y : Int} (h : 0 ≤ y ∧ y < 4294967296) : bitAnd .u32 y 255 = y % 256 := by
  obtain ⟨a, rfl⟩ := Int.eq_ofNat_of_zero_le h.1
  unfold bitAnd
  rw [show IntKind.bits .u32 = 32 from rfl, BitVec.ofInt_natCast, show (255 : Int) = ((255 : Nat) : Int) from rfl, BitVec.ofInt_natCast, BitVec.toNat_and, BitVec.toNat_ofNat, BitVec.toNat_ofNat, Nat.mod_eq_of_lt (show a < 2 ^ 32 by omega), Nat.mod_eq_of_lt (show 255 < 2 ^ 32 by omega),
    show (255 : Nat) = 2 ^ 8 - 1 from rfl, Nat.and_two_pow_sub_one_eq_mod]
  show (((a % 2 ^ 8 : Nat) : Int)) % 4294967296 = (a : Int) % 256
  omega
theorem andNot255 {y : Int} (h : 0 ≤ y ∧ y < 4294967296) : bitAndNot .u32 y 255 = y / 256 * 256 := by
  obtain ⟨a, rfl⟩ := Int.eq_ofNat_of_zero_le h.1
  unfold bitAndNot
  rw [show IntKind.bits .u32 = 32 from rfl, BitVec.ofInt_natCast, show (255 : Int) = ((255 : Nat) : Int) from rfl, BitVec.ofInt_natCast, BitVec.toNat_and, BitVec.toNat_ofNat, Nat.mod_eq_of_lt (show a < 2 ^ 32 by omega),
    show (~~~(BitVec.ofNat 32 255)).toNat = (2 ^ 24 - 1) <<< 8 from by decide]
  have e : a &&& (2 ^ 24 - 1) <<< 8 = ((a >>> 8) &&& (2 ^ 24 - 1)) <<< 8 := by
    apply Nat.eq_of_testBit_eq
    intro i
    rw [Nat.testBit_and, Nat.testBit_shiftLeft, Nat.testBit_shiftLeft, Nat.testBit_and, Nat.testBit_shiftRight]
    by_cases h8 : i ≥ 8
    · rw [decide_eq_true h8, show 8 + (i - 8) = i by omega]; simp
    · rw [decide_eq_false h8]; simp
  rw [e, Nat.and_two_pow_sub_one_eq_mod, Nat.shiftLeft_eq, Nat.shiftRight_eq_div_pow]
  show (((a / 2 ^ 8 % 2 ^ 24 * 2 ^ 8 : Nat) : Int)) % 4294967296 = (a : Int) / 256 * 256
  omega
theorem u32_in (c : Int) : 0 ≤ IntKind.wrap .u32 c ∧ IntKind.wrap .u32 c < 4294967296 := by
  show 0 ≤ c % 4294967296 ∧ c % 4294967296 < 4294967296
  omega
def byt (c : Int) (i : Nat) : Int := IntKind.wrap .u32 c / 256 ^ i % 256
theorem byt_in (c : Int) (i : Nat) : 0 ≤ byt c i ∧ byt c i ≤ 255 := by unfold byt; omega
theorem part_eq (c : Int) (i : Nat) (h : i ≤ 3) : cprtM c (i : Int) = byt c i ∧ rbytM c (i : Int) = byt c i := by
  have hu := u32_in c
  have key : ∀ (i : Nat) (p : Int), 0 < p → (2 : Int) ^ (min (Int.toNat (IntKind.wrap .i64 (8 * (i : Int)))) 32) = p → (2 : Int) ^ (min (Int.toNat (IntKind.wrap .u64 (IntKind.wrap .i64 (8 * (i : Int))))) 32) = p → (256 : Int) ^ i = p → cprtM c (i : Int) = byt c i ∧ rbytM c (i : Int) = byt c i := by
    intro i p hp h1 h2 h3
    have hle : IntKind.wrap .u32 c / p ≤ IntKind.wrap .u32 c := Int.ediv_le_self _ hu.1
    have h0 : 0 ≤ IntKind.wrap .u32 c / p := Int.ediv_nonneg hu.1 (by omega)
    have e1 : shrI .u32 (IntKind.wrap .u32 c) (IntKind.wrap .i64 (8 * (i : Int))) = IntKind.wrap .u32 c / p := by
      show (IntKind.wrap .u32 c).fdiv (2 ^ (min (Int.toNat (IntKind.wrap .i64 (8 * (i : Int)))) 32)) = _
      rw [h1, Int.fdiv_eq_ediv_of_nonneg _ (by omega)]
    have e2 : shrI .u32 (IntKind.wrap .u32 c) (IntKind.wrap .u64 (IntKind.wrap .i64 (8 * (i : Int)))) = IntKind.wrap .u32 c / p := by
      show (IntKind.wrap .u32 c).fdiv (2 ^ (min (Int.toNat (IntKind.wrap .u64 (IntKind.wrap .i64 (8 * (i : Int))))) 32)) = _
      rw [h2, Int.fdiv_eq_ediv_of_nonneg _ (by omega)]
    unfold cprtM rbytM byt
    rw [e1, e2, h3, and255 (by omega), w64 (by omega), w64 (by omega), Int.tmod_eq_emod_of_nonneg h0]
    exact ⟨rfl, rfl⟩
  have hi : i = 0 ∨ i = 1 ∨ i = 2 ∨ i = 3 := by omega
  rcases hi with rfl | rfl | rfl | rfl
  · exact key 0 1 (by decide) (by decide) (by decide) (by decide)
  · exact key 1 256 (by decide) (by decide) (by decide) (by decide)
  · exact key 2 65536 (by decide) (by decide) (by decide) (by decide)
  · exact key 3 16777216 (by decide) (by decide) (by decide) (by decide)
def alS (t u : Int) : Int := byt t 0 + byt u 0 - byt t 0 * byt u 0 / 255
def quS (t u : Int) (i : Nat) : Int := (byt t i * byt t 0 * 255 + byt u i * byt u 0 * (255 - byt t 0)) / (alS t u * 255)
def mi (q : Int) : Int := if q < 255 then q else 255
def ovS (t u : Int) : Int := if (alS t u == 0) = true then 0 else 256 * (256 * (256 * (256 * 0 + mi (quS t u 3)) + mi (quS t u 2)) + mi (quS t u 1)) + alS t u
theorem mulb {a b x y : Int} (ha : 0 ≤ a ∧ a ≤ x) (hb : 0 ≤ b ∧ b ≤ y) : 0 ≤ a * b ∧ a * b ≤ x * y := ⟨Int.mul_nonneg ha.1 hb.1, Int.le_trans (Int.mul_le_mul_of_nonneg_right ha.2 hb.1) (Int.mul_le_mul_of_nonneg_left hb.2 (by omega))⟩
theorem al_in (t u : Int) : 0 ≤ alS t u ∧ alS t u ≤ 255 := by
  have ha := byt_in t 0
  have hb := byt_in u 0
  have h1 := mulb ha hb
  have h2 : byt t 0 * byt u 0 ≤ byt t 0 * 255 := Int.mul_le_mul_of_nonneg_left hb.2 ha.1
  have h3 : 0 ≤ (255 - byt t 0) * (255 - byt u 0) := Int.mul_nonneg (by omega) (by omega)
  have h4 : (255 - byt t 0) * (255 - byt u 0) = 65025 - 255 * byt t 0 - 255 * byt u 0 + byt t 0 * byt u 0 := by
    rw [Int.sub_mul, Int.mul_sub, Int.mul_sub, Int.mul_comm (byt t 0) 255]; omega
  unfold alS
  omega
theorem qu_in {t u : Int} (i : Nat) (h : alS t u ≠ 0) : 0 ≤ quS t u i := by
  have h0 := al_in t u
  unfold quS
  exact Int.ediv_nonneg (Int.add_nonneg (Int.mul_nonneg (Int.mul_nonneg (byt_in ..).1 (byt_in ..).1) (by omega)) (Int.mul_nonneg (Int.mul_nonneg (byt_in ..).1 (byt_in ..).1) (by have := byt_in t 0; omega))) (by omega)
theorem qu_ok (t u : Int) (i : Nat) (h : alS t u ≠ 0) : IntKind.wrap .i64 (Int.tdiv (IntKind.wrap .i64 ((IntKind.wrap .i64 ((IntKind.wrap .i64 (byt t i * byt t 0)) * 255)) + (IntKind.wrap .i64 ((IntKind.wrap .i64 (byt u i * byt u 0)) * (IntKind.wrap .i64 (255 - byt t 0)))))) (IntKind.wrap .i64 (alS t u * 255))) = quS t u i := by
  have h0 := al_in t u
  have a0 := byt_in t 0
  have b0 := byt_in u 0
  have h1 := mulb (byt_in t i) a0
  have h2 := mulb (byt_in u i) b0
  have h3 := mulb h2 (show 0 ≤ 255 - byt t 0 ∧ 255 - byt t 0 ≤ 255 by omega)
  have hd : 0 ≤ (byt t i * byt t 0 * 255 + byt u i * byt u 0 * (255 - byt t 0)) / (alS t u * 255) := Int.ediv_nonneg (by omega) (by omega)
  have hd2 : (byt t i * byt t 0 * 255 + byt u i * byt u 0 * (255 - byt t 0)) / (alS t u * 255) ≤ byt t i * byt t 0 * 255 + byt u i * byt u 0 * (255 - byt t 0) := Int.ediv_le_self _ (by omega)
  rw [w64 (x := byt t i * byt t 0) (by omega), w64 (x := byt u i * byt u 0) (by omega), w64 (x := 255 - byt t 0) (by omega), w64 (x := byt t i * byt t 0 * 255) (by omega), w64 (x := byt u i * byt u 0 * (255 - byt t 0)) (by omega), w64 (x := alS t u * 255) (by omega), w64 (x := _ + _) (by omega), Int.tdiv_eq_ediv_of_nonneg (by omega), w64 (by omega)]
  rfl
theorem al_ok (t u : Int) : IntKind.wrap .i64 ((IntKind.wrap .i64 (byt t 0 + byt u 0)) - (IntKind.wrap .i64 (Int.tdiv (IntKind.wrap .i64 (byt t 0 * byt u 0)) 255))) = alS t u := by
  have h0 := al_in t u
  have a0 := byt_in t 0
  have b0 := byt_in u 0
  have h1 := mulb a0 b0
  rw [w64 (x := byt t 0 + byt u 0) (by omega), w64 (x := byt t 0 * byt u 0) (by omega), Int.tdiv_eq_ediv_of_nonneg (by omega), w64 (x := byt t 0 * byt u 0 / 255) (by omega), w64 (by unfold alS at h0; omega)]
  rfl
theorem mi_in {q : Int} (h : 0 ≤ q) : 0 ≤ mi q ∧ mi q ≤ 255 := by unfold mi; split <;> omega
theorem mi_alt (q : Int) : (if 255 < q then 255 else q) = mi q := by unfold mi; split <;> split <;> omega
def covl21b (xtop : Int) (xunder : Int) (K : Int → Prop) (x8l21 : Int) (x27l21 : Int) (C21 : Int → Int → Prop) : Prop :=
  ((decide (x27l21 < 3)) = true → (0 : Int) ≤ x27l21 ∧ Int.toNat x27l21 < ([3, 2, 1] : List (Int)).length ∧ atP xtop (([3, 2, 1] : List (Int)).getD (Int.toNat x27l21) default) ∧ atP xunder (([3, 2, 1] : List (Int)).getD (Int.toNat x27l21) default) ∧ (IntKind.wrap .i64 ((IntKind.wrap .i64 ((IntKind.wrap .i64 ((cprtM xtop 0) + (cprtM xunder 0))) - (IntKind.wrap .i64 (Int.tdiv (IntKind.wrap .i64 ((cprtM xtop 0) * (cprtM xunder 0))) 255)))) * 255)) ≠ 0 ∧ C21 (bitOr .i64 (IntKind.wrap .i64 (x8l21 * 2 ^ 8)) (if 255 < (IntKind.wrap .i64 (Int.tdiv (IntKind.wrap .i64 ((IntKind.wrap .i64 ((IntKind.wrap .i64 ((cprtM xtop (([3, 2, 1] : List (Int)).getD (Int.toNat x27l21) default)) * (cprtM xtop 0))) * 255)) + (IntKind.wrap .i64 ((IntKind.wrap .i64 ((cprtM xunder (([3, 2, 1] : List (Int)).getD (Int.toNat x27l21) default)) * (cprtM xunder 0))) * (IntKind.wrap .i64 (255 - (cprtM xtop 0))))))) (IntKind.wrap .i64 ((IntKind.wrap .i64 ((IntKind.wrap .i64 ((cprtM xtop 0) + (cprtM xunder 0))) - (IntKind.wrap .i64 (Int.tdiv (IntKind.wrap .i64 ((cprtM xtop 0) * (cprtM xunder 0))) 255)))) * 255)))) then 255 else (IntKind.wrap .i64 (Int.tdiv (IntKind.wrap .i64 ((IntKind.wrap .i64 ((IntKind.wrap .i64 ((cprtM xtop (([3, 2, 1] : List (Int)).getD (Int.toNat x27l21) default)) * (cprtM xtop 0))) * 255)) + (IntKind.wrap .i64 ((IntKind.wrap .i64 ((cprtM xunder (([3, 2, 1] : List (Int)).getD (Int.toNat x27l21) default)) * (cprtM xunder 0))) * (IntKind.wrap .i64 (255 - (cprtM xtop 0))))))) (IntKind.wrap .i64 ((IntKind.wrap .i64 ((IntKind.wrap .i64 ((cprtM xtop 0) + (cprtM xunder 0))) - (IntKind.wrap .i64 (Int.tdiv (IntKind.wrap .i64 ((cprtM xtop 0) * (cprtM xunder 0))) 255)))) * 255)))))) (IntKind.wrap .i64 (x27l21 + 1))) ∧ ((decide (x27l21 < 3)) = false → K (bitOr .i64 (IntKind.wrap .i64 (x8l21 * 2 ^ 8)) (IntKind.wrap .i64 ((IntKind.wrap .i64 ((cprtM xtop 0) + (cprtM xunder 0))) - (IntKind.wrap .i64 (Int.tdiv (IntKind.wrap .i64 ((cprtM xtop 0) * (cprtM xunder 0))) 255))))))
def covl21 (xtop : Int) (xunder : Int) (K : Int → Prop) : Nat → Int → Int → Prop
  | 0, _, _ => False
  | k + 1, x8l21, x27l21 => covl21b xtop xunder K x8l21 x27l21 (covl21 xtop xunder K k)
def covF (xtop : Int) (xunder : Int) (K : Int → Prop) : Prop :=
  atP xtop 0 ∧ atP xunder 0 ∧ ((((IntKind.wrap .i64 ((IntKind.wrap .i64 ((cprtM xtop 0) + (cprtM xunder 0))) - (IntKind.wrap .i64 (Int.tdiv (IntKind.wrap .i64 ((cprtM xtop 0) * (cprtM xunder 0))) 255)))) == 0)) = true → K 0) ∧ ((((IntKind.wrap .i64 ((IntKind.wrap .i64 ((cprtM xtop 0) + (cprtM xunder 0))) - (IntKind.wrap .i64 (Int.tdiv (IntKind.wrap .i64 ((cprtM xtop 0) * (cprtM xunder 0))) 255)))) == 0)) = false → ∃ k, covl21 xtop xunder K k 0 0)
set_option maxHeartbeats 4000000 in
set_option maxRecDepth 100000 in
set_option linter.unusedVariables false in
theorem cov_ok {g : Ghost} (xtop : Int) (xunder : Int) (K : Int → Prop)
    (hF : covF xtop xunder K) : CallsH Tryd.prog 22 #[.int .i64 xtop, .int .i64 xunder] g [] (fun g' H' v => ∃ (r0 : Int), v = .int .i64 r0 ∧ H' = [] ∧ K r0) := by
  refine CallsH.enter 58 [(0, .int .i64 xtop), (1, .int .i64 xunder)] Tryd.func22 rfl (by kernel_rfl) (by kernel_rfl) (by kernel_rfl) fun w0 => ?_
  refine Ok.seq ?_
  refine Ok.region ?_
  refine Ok.batch 1 [(0, .int .i64 xtop), (1, .int .i64 xunder)] (by kernel_rfl) ?_
  refine Ok.nil ?_
  refine Ok.thenN ?_
  refine Ok.seq ?_
  refine Ok.region ?_
  refine Ok.batch 1 [(0, .int .i64 xtop), (1, .int .i64 xunder), (12, .int .i64 xtop)] (by kernel_rfl) ?_
  obtain ⟨hp1, hF⟩ := hF
  refine Ok.op rfl (OpOk.callG (v := .int .i64 (cprtM xtop 0)) (enters (by kernel_rfl) (fun _ => by kernel_rfl)) (fun W hW => cprt_c xtop 0 hp1) rfl ?_)
  refine Ok.batch 1 [(0, .int .i64 xtop), (1, .int .i64 xunder), (13, .int .i64 (cprtM xtop 0)), (14, .int .i64 xunder)] (by kernel_rfl) ?_
  obtain ⟨hp2, hF⟩ := hF
  refine Ok.op rfl (OpOk.callG (v := .int .i64 (cprtM xunder 0)) (enters (by kernel_rfl) (fun _ => by kernel_rfl)) (fun W hW => cprt_c xunder 0 hp2) rfl ?_)
  refine Ok.batch 2 [(0, .int .i64 xtop), (1, .int .i64 xunder), (5, .int .i64 (cprtM xtop 0)), (6, .int .i64 (cprtM xunder 0))] (by kernel_rfl) ?_
  refine Ok.nil ?_
  refine Ok.thenN ?_
  refine Ok.seq ?_
  refine Ok.region ?_
  refine Ok.batch 9 [(0, .int .i64 xtop), (1, .int .i64 xunder), (5, .int .i64 (cprtM xtop 0)), (6, .int .i64 (cprtM xunder 0)), (7, .int .i64 (IntKind.wrap .i64 ((IntKind.wrap .i64 ((cprtM xtop 0) + (cprtM xunder 0))) - (IntKind.wrap .i64 (Int.tdiv (IntKind.wrap .i64 ((cprtM xtop 0) * (cprtM xunder 0))) 255)))))] (by kernel_rfl) ?_
  refine Ok.nil ?_
  refine Ok.thenN ?_
  refine Ok.seq ?_
  refine Ok.seq ?_
  refine Ok.region ?_
  refine Ok.batch 2 [(0, .int .i64 xtop), (1, .int .i64 xunder), (5, .int .i64 (cprtM xtop 0)), (6, .int .i64 (cprtM xunder 0)), (7, .int .i64 (IntKind.wrap .i64 ((IntKind.wrap .i64 ((cprtM xtop 0) + (cprtM xunder 0))) - (IntKind.wrap .i64 (Int.tdiv (IntKind.wrap .i64 ((cprtM xtop 0) * (cprtM xunder 0))) 255))))), (25, .bool ((IntKind.wrap .i64 ((IntKind.wrap .i64 ((cprtM xtop 0) + (cprtM xunder 0))) - (IntKind.wrap .i64 (Int.tdiv (IntKind.wrap .i64 ((cprtM xtop 0) * (cprtM xunder 0))) 255)))) == 0))] (by kernel_rfl) ?_
  refine Ok.nil ?_
  refine Ok.thenN ?_
  refine Ok.cond (b := ((IntKind.wrap .i64 ((IntKind.wrap .i64 ((cprtM xtop 0) + (cprtM xunder 0))) - (IntKind.wrap .i64 (Int.tdiv (IntKind.wrap .i64 ((cprtM xtop 0) * (cprtM xunder 0))) 255)))) == 0)) rfl (fun hc3 => ?_) (fun hc3 => ?_)
  · replace hF := hF.1 hc3
    refine Ok.seq ?_
    refine Ok.region ?_
    refine Ok.batch 1 [(4, .int .i64 0)] (by kernel_rfl) ?_
    refine Ok.nil ?_
    refine Ok.thenN ?_
    refine Ok.ret ?_
    refine Ok.thenR ?_
    exact Ok.resH (vs := [.int .i64 0]) (.inl rfl) rfl (.cons (.tmp rfl) .nil) (Gext.refl w0 g) ⟨0, rfl, rfl, hF⟩
  · replace hF := hF.2 hc3
    refine Ok.skip ?_
    refine Ok.thenN ?_
    refine Ok.seq ?_
    refine Ok.region ?_
    refine Ok.batch 1 [(0, .int .i64 xtop), (1, .int .i64 xunder), (5, .int .i64 (cprtM xtop 0)), (6, .int .i64 (cprtM xunder 0)), (7, .int .i64 (IntKind.wrap .i64 ((IntKind.wrap .i64 ((cprtM xtop 0) + (cprtM xunder 0))) - (IntKind.wrap .i64 (Int.tdiv (IntKind.wrap .i64 ((cprtM xtop 0) * (cprtM xunder 0))) 255))))), (8, .int .i64 0)] (by kernel_rfl) ?_
    refine Ok.nil ?_
    refine Ok.thenN ?_
    refine Ok.seq ?_
    refine Ok.seq ?_
    refine Ok.region ?_
    refine Ok.batch 2 [(0, .int .i64 xtop), (1, .int .i64 xunder), (5, .int .i64 (cprtM xtop 0)), (6, .int .i64 (cprtM xunder 0)), (7, .int .i64 (IntKind.wrap .i64 ((IntKind.wrap .i64 ((cprtM xtop 0) + (cprtM xunder 0))) - (IntKind.wrap .i64 (Int.tdiv (IntKind.wrap .i64 ((cprtM xtop 0) * (cprtM xunder 0))) 255))))), (8, .int .i64 0), (26, .agg #[.int .i64 3, .int .i64 2, .int .i64 1]), (27, .int .i64 0)] (by kernel_rfl) ?_
    refine Ok.nil ?_
    refine Ok.thenN ?_
    refine Ok.block ?_
    obtain ⟨k, hF⟩ := hF
    refine Ok.loop (fun k a W => ∃ (x8l21 : Int) (x27l21 : Int), StA 58 [(0, .int .i64 xtop), (1, .int .i64 xunder), (5, .int .i64 (cprtM xtop 0)), (6, .int .i64 (cprtM xunder 0)), (7, .int .i64 (IntKind.wrap .i64 ((IntKind.wrap .i64 ((cprtM xtop 0) + (cprtM xunder 0))) - (IntKind.wrap .i64 (Int.tdiv (IntKind.wrap .i64 ((cprtM xtop 0) * (cprtM xunder 0))) 255))))), (8, .int .i64 x8l21), (26, .agg #[.int .i64 3, .int .i64 2, .int .i64 1]), (27, .int .i64 x27l21)] a ∧ StW w0 [] g W ∧ covl21 xtop xunder K k x8l21 x27l21) k ?_ ?_
    ·
      exact fun a W hA hW => ⟨0, 0, hA.sub (by kernel_rfl), hW, hF⟩
    ·
      clear hF
      rintro k21 a W ⟨x8l21, x27l21, hA, hW, hF⟩
      cases k21 with
      | zero => exact (hF : False).elim
      | succ k21 =>
        refine (?_ : Ok _ _ _ _ _ _) a W hA hW
        clear hA hW
        refine Ok.seq ?_
        refine Ok.region ?_
        refine Ok.batch 1 [(0, .int .i64 xtop), (1, .int .i64 xunder), (5, .int .i64 (cprtM xtop 0)), (6, .int .i64 (cprtM xunder 0)), (7, .int .i64 (IntKind.wrap .i64 ((IntKind.wrap .i64 ((cprtM xtop 0) + (cprtM xunder 0))) - (IntKind.wrap .i64 (Int.tdiv (IntKind.wrap .i64 ((cprtM xtop 0) * (cprtM xunder 0))) 255))))), (8, .int .i64 x8l21), (26, .agg #[.int .i64 3, .int .i64 2, .int .i64 1]), (27, .int .i64 x27l21), (28, .bool (decide (x27l21 < 3)))] (by kernel_rfl) ?_
        refine Ok.nil ?_
        refine Ok.thenN ?_
        refine Ok.seq ?_
        refine Ok.cond (b := decide (x27l21 < 3)) rfl (fun hc4 => ?_) (fun hc4 => ?_)
        · replace hF := hF.1 hc4
          refine Ok.skip ?_
          refine Ok.thenN ?_
          refine Ok.seq ?_
          refine Ok.block ?_
          refine Ok.seq ?_
          refine Ok.region ?_
          obtain ⟨h05, h15, hF⟩ := hF
          have he5 := get_of (l := ([3, 2, 1] : List (Int))) (default : Int) h15
          generalize hg5 : (([3, 2, 1] : List (Int)).getD (Int.toNat x27l21) default) = e5 at he5 hF ⊢
          have he6' : (#[.int .i64 3, .int .i64 2, .int .i64 1] : Array Value)[Int.toNat x27l21]? = some (.int .i64 e5) := by have := congrArg (Option.map (Value.int .i64)) he5; rw [← List.getElem?_map] at this; simpa using this
          have hl6 : x27l21 < (3 : Int) := by have := (List.getElem?_eq_some_iff.1 he5).1; have : ([3, 2, 1] : List (Int)).length = 3 := rfl; omega
          refine Ok.op rfl (OpOk.step (v := .int .i64 e5) (Yields.indexAgg (i := x27l21) rfl rfl Tryd.underlying74 Tryd.underlying3 rfl (by kernel_rfl) h05 hl6 he6') rfl rfl ?_)
          refine Ok.batch 1 [(0, .int .i64 xtop), (1, .int .i64 xunder), (5, .int .i64 (cprtM xtop 0)), (6, .int .i64 (cprtM xunder 0)), (7, .int .i64 (IntKind.wrap .i64 ((IntKind.wrap .i64 ((cprtM xtop 0) + (cprtM xunder 0))) - (IntKind.wrap .i64 (Int.tdiv (IntKind.wrap .i64 ((cprtM xtop 0) * (cprtM xunder 0))) 255))))), (8, .int .i64 x8l21), (10, .int .i64 e5), (26, .agg #[.int .i64 3, .int .i64 2, .int .i64 1]), (27, .int .i64 x27l21)] (by kernel_rfl) ?_
          refine Ok.nil ?_
          refine Ok.thenN ?_
          refine Ok.seq ?_
          refine Ok.region ?_
          refine Ok.batch 2 [(0, .int .i64 xtop), (1, .int .i64 xunder), (5, .int .i64 (cprtM xtop 0)), (6, .int .i64 (cprtM xunder 0)), (7, .int .i64 (IntKind.wrap .i64 ((IntKind.wrap .i64 ((cprtM xtop 0) + (cprtM xunder 0))) - (IntKind.wrap .i64 (Int.tdiv (IntKind.wrap .i64 ((cprtM xtop 0) * (cprtM xunder 0))) 255))))), (8, .int .i64 x8l21), (10, .int .i64 e5), (26, .agg #[.int .i64 3, .int .i64 2, .int .i64 1]), (27, .int .i64 x27l21), (30, .int .i64 xtop), (31, .int .i64 e5)] (by kernel_rfl) ?_
          obtain ⟨hp7, hF⟩ := hF
          refine Ok.op rfl (OpOk.callG (v := .int .i64 (cprtM xtop e5)) (enters (by kernel_rfl) (fun _ => by kernel_rfl)) (fun W hW => cprt_c xtop e5 hp7) rfl ?_)
          refine Ok.batch 5 [(0, .int .i64 xtop), (1, .int .i64 xunder), (5, .int .i64 (cprtM xtop 0)), (6, .int .i64 (cprtM xunder 0)), (7, .int .i64 (IntKind.wrap .i64 ((IntKind.wrap .i64 ((cprtM xtop 0) + (cprtM xunder 0))) - (IntKind.wrap .i64 (Int.tdiv (IntKind.wrap .i64 ((cprtM xtop 0) * (cprtM xunder 0))) 255))))), (8, .int .i64 x8l21), (26, .agg #[.int .i64 3, .int .i64 2, .int .i64 1]), (27, .int .i64 x27l21), (35, .int .i64 (IntKind.wrap .i64 ((IntKind.wrap .i64 ((cprtM xtop e5) * (cprtM xtop 0))) * 255))), (36, .int .i64 xunder), (37, .int .i64 e5)] (by kernel_rfl) ?_
          obtain ⟨hp8, hF⟩ := hF
          refine Ok.op rfl (OpOk.callG (v := .int .i64 (cprtM xunder e5)) (enters (by kernel_rfl) (fun _ => by kernel_rfl)) (fun W hW => cprt_c xunder e5 hp8) rfl ?_)
          refine Ok.batch 8 [(0, .int .i64 xtop), (1, .int .i64 xunder), (5, .int .i64 (cprtM xtop 0)), (6, .int .i64 (cprtM xunder 0)), (7, .int .i64 (IntKind.wrap .i64 ((IntKind.wrap .i64 ((cprtM xtop 0) + (cprtM xunder 0))) - (IntKind.wrap .i64 (Int.tdiv (IntKind.wrap .i64 ((cprtM xtop 0) * (cprtM xunder 0))) 255))))), (8, .int .i64 x8l21), (26, .agg #[.int .i64 3, .int .i64 2, .int .i64 1]), (27, .int .i64 x27l21), (44, .int .i64 (IntKind.wrap .i64 ((IntKind.wrap .i64 ((IntKind.wrap .i64 ((cprtM xtop e5) * (cprtM xtop 0))) * 255)) + (IntKind.wrap .i64 ((IntKind.wrap .i64 ((cprtM xunder e5) * (cprtM xunder 0))) * (IntKind.wrap .i64 (255 - (cprtM xtop 0)))))))), (46, .int .i64 (IntKind.wrap .i64 ((IntKind.wrap .i64 ((IntKind.wrap .i64 ((cprtM xtop 0) + (cprtM xunder 0))) - (IntKind.wrap .i64 (Int.tdiv (IntKind.wrap .i64 ((cprtM xtop 0) * (cprtM xunder 0))) 255)))) * 255)))] (by kernel_rfl) ?_
          obtain ⟨hv, hF⟩ := hF
          refine Ok.op rfl (OpOk.step (v := .int .i64 (IntKind.wrap .i64 (Int.tdiv (IntKind.wrap .i64 ((IntKind.wrap .i64 ((IntKind.wrap .i64 ((cprtM xtop e5) * (cprtM xtop 0))) * 255)) + (IntKind.wrap .i64 ((IntKind.wrap .i64 ((cprtM xunder e5) * (cprtM xunder 0))) * (IntKind.wrap .i64 (255 - (cprtM xtop 0))))))) (IntKind.wrap .i64 ((IntKind.wrap .i64 ((IntKind.wrap .i64 ((cprtM xtop 0) + (cprtM xunder 0))) - (IntKind.wrap .i64 (Int.tdiv (IntKind.wrap .i64 ((cprtM xtop 0) * (cprtM xunder 0))) 255)))) * 255))))) (Yields.quo rfl rfl hv) rfl rfl ?_)
          refine Ok.batch 1 [(0, .int .i64 xtop), (1, .int .i64 xunder), (5, .int .i64 (cprtM xtop 0)), (6, .int .i64 (cprtM xunder 0)), (7, .int .i64 (IntKind.wrap .i64 ((IntKind.wrap .i64 ((cprtM xtop 0) + (cprtM xunder 0))) - (IntKind.wrap .i64 (Int.tdiv (IntKind.wrap .i64 ((cprtM xtop 0) * (cprtM xunder 0))) 255))))), (8, .int .i64 x8l21), (11, .int .i64 (IntKind.wrap .i64 (Int.tdiv (IntKind.wrap .i64 ((IntKind.wrap .i64 ((IntKind.wrap .i64 ((cprtM xtop e5) * (cprtM xtop 0))) * 255)) + (IntKind.wrap .i64 ((IntKind.wrap .i64 ((cprtM xunder e5) * (cprtM xunder 0))) * (IntKind.wrap .i64 (255 - (cprtM xtop 0))))))) (IntKind.wrap .i64 ((IntKind.wrap .i64 ((IntKind.wrap .i64 ((cprtM xtop 0) + (cprtM xunder 0))) - (IntKind.wrap .i64 (Int.tdiv (IntKind.wrap .i64 ((cprtM xtop 0) * (cprtM xunder 0))) 255)))) * 255))))), (26, .agg #[.int .i64 3, .int .i64 2, .int .i64 1]), (27, .int .i64 x27l21)] (by kernel_rfl) ?_
          refine Ok.nil ?_
          refine Ok.thenN ?_
          refine Ok.region ?_
          refine Ok.batch 6 [(0, .int .i64 xtop), (1, .int .i64 xunder), (5, .int .i64 (cprtM xtop 0)), (6, .int .i64 (cprtM xunder 0)), (7, .int .i64 (IntKind.wrap .i64 ((IntKind.wrap .i64 ((cprtM xtop 0) + (cprtM xunder 0))) - (IntKind.wrap .i64 (Int.tdiv (IntKind.wrap .i64 ((cprtM xtop 0) * (cprtM xunder 0))) 255))))), (8, .int .i64 (bitOr .i64 (IntKind.wrap .i64 (x8l21 * 2 ^ 8)) (if 255 < (IntKind.wrap .i64 (Int.tdiv (IntKind.wrap .i64 ((IntKind.wrap .i64 ((IntKind.wrap .i64 ((cprtM xtop e5) * (cprtM xtop 0))) * 255)) + (IntKind.wrap .i64 ((IntKind.wrap .i64 ((cprtM xunder e5) * (cprtM xunder 0))) * (IntKind.wrap .i64 (255 - (cprtM xtop 0))))))) (IntKind.wrap .i64 ((IntKind.wrap .i64 ((IntKind.wrap .i64 ((cprtM xtop 0) + (cprtM xunder 0))) - (IntKind.wrap .i64 (Int.tdiv (IntKind.wrap .i64 ((cprtM xtop 0) * (cprtM xunder 0))) 255)))) * 255)))) then 255 else (IntKind.wrap .i64 (Int.tdiv (IntKind.wrap .i64 ((IntKind.wrap .i64 ((IntKind.wrap .i64 ((cprtM xtop e5) * (cprtM xtop 0))) * 255)) + (IntKind.wrap .i64 ((IntKind.wrap .i64 ((cprtM xunder e5) * (cprtM xunder 0))) * (IntKind.wrap .i64 (255 - (cprtM xtop 0))))))) (IntKind.wrap .i64 ((IntKind.wrap .i64 ((IntKind.wrap .i64 ((cprtM xtop 0) + (cprtM xunder 0))) - (IntKind.wrap .i64 (Int.tdiv (IntKind.wrap .i64 ((cprtM xtop 0) * (cprtM xunder 0))) 255)))) * 255))))))), (26, .agg #[.int .i64 3, .int .i64 2, .int .i64 1]), (27, .int .i64 x27l21)] (by kernel_rfl) ?_
          refine Ok.nil ?_
          refine Ok.blockN ?_
          refine Ok.thenN ?_
          refine Ok.region ?_
          refine Ok.batch 2 [(0, .int .i64 xtop), (1, .int .i64 xunder), (5, .int .i64 (cprtM xtop 0)), (6, .int .i64 (cprtM xunder 0)), (7, .int .i64 (IntKind.wrap .i64 ((IntKind.wrap .i64 ((cprtM xtop 0) + (cprtM xunder 0))) - (IntKind.wrap .i64 (Int.tdiv (IntKind.wrap .i64 ((cprtM xtop 0) * (cprtM xunder 0))) 255))))), (8, .int .i64 (bitOr .i64 (IntKind.wrap .i64 (x8l21 * 2 ^ 8)) (if 255 < (IntKind.wrap .i64 (Int.tdiv (IntKind.wrap .i64 ((IntKind.wrap .i64 ((IntKind.wrap .i64 ((cprtM xtop e5) * (cprtM xtop 0))) * 255)) + (IntKind.wrap .i64 ((IntKind.wrap .i64 ((cprtM xunder e5) * (cprtM xunder 0))) * (IntKind.wrap .i64 (255 - (cprtM xtop 0))))))) (IntKind.wrap .i64 ((IntKind.wrap .i64 ((IntKind.wrap .i64 ((cprtM xtop 0) + (cprtM xunder 0))) - (IntKind.wrap .i64 (Int.tdiv (IntKind.wrap .i64 ((cprtM xtop 0) * (cprtM xunder 0))) 255)))) * 255)))) then 255 else (IntKind.wrap .i64 (Int.tdiv (IntKind.wrap .i64 ((IntKind.wrap .i64 ((IntKind.wrap .i64 ((cprtM xtop e5) * (cprtM xtop 0))) * 255)) + (IntKind.wrap .i64 ((IntKind.wrap .i64 ((cprtM xunder e5) * (cprtM xunder 0))) * (IntKind.wrap .i64 (255 - (cprtM xtop 0))))))) (IntKind.wrap .i64 ((IntKind.wrap .i64 ((IntKind.wrap .i64 ((cprtM xtop 0) + (cprtM xunder 0))) - (IntKind.wrap .i64 (Int.tdiv (IntKind.wrap .i64 ((cprtM xtop 0) * (cprtM xunder 0))) 255)))) * 255))))))), (26, .agg #[.int .i64 3, .int .i64 2, .int .i64 1]), (27, .int .i64 (IntKind.wrap .i64 (x27l21 + 1)))] (by kernel_rfl) ?_
          refine Ok.nil ?_
          refine Ok.thenN ?_
          subst hg5
          exact fun a W hA hW => ⟨k21, Nat.lt_succ_self _, bitOr .i64 (IntKind.wrap .i64 (x8l21 * 2 ^ 8)) (if 255 < (IntKind.wrap .i64 (Int.tdiv (IntKind.wrap .i64 ((IntKind.wrap .i64 ((IntKind.wrap .i64 ((cprtM xtop (([3, 2, 1] : List (Int)).getD (Int.toNat x27l21) default)) * (cprtM xtop 0))) * 255)) + (IntKind.wrap .i64 ((IntKind.wrap .i64 ((cprtM xunder (([3, 2, 1] : List (Int)).getD (Int.toNat x27l21) default)) * (cprtM xunder 0))) * (IntKind.wrap .i64 (255 - (cprtM xtop 0))))))) (IntKind.wrap .i64 ((IntKind.wrap .i64 ((IntKind.wrap .i64 ((cprtM xtop 0) + (cprtM xunder 0))) - (IntKind.wrap .i64 (Int.tdiv (IntKind.wrap .i64 ((cprtM xtop 0) * (cprtM xunder 0))) 255)))) * 255)))) then 255 else (IntKind.wrap .i64 (Int.tdiv (IntKind.wrap .i64 ((IntKind.wrap .i64 ((IntKind.wrap .i64 ((cprtM xtop (([3, 2, 1] : List (Int)).getD (Int.toNat x27l21) default)) * (cprtM xtop 0))) * 255)) + (IntKind.wrap .i64 ((IntKind.wrap .i64 ((cprtM xunder (([3, 2, 1] : List (Int)).getD (Int.toNat x27l21) default)) * (cprtM xunder 0))) * (IntKind.wrap .i64 (255 - (cprtM xtop 0))))))) (IntKind.wrap .i64 ((IntKind.wrap .i64 ((IntKind.wrap .i64 ((cprtM xtop 0) + (cprtM xunder 0))) - (IntKind.wrap .i64 (Int.tdiv (IntKind.wrap .i64 ((cprtM xtop 0) * (cprtM xunder 0))) 255)))) * 255))))), IntKind.wrap .i64 (x27l21 + 1), hA.sub (by kernel_rfl), hW, hF⟩
        · replace hF := hF.2 hc4
          refine Ok.exit ?_
          refine Ok.thenE ?_
          refine Ok.thenE ?_
          refine Ok.blockHit ?_
          refine Ok.thenN ?_
          refine Ok.seq ?_
          refine Ok.region ?_
          refine Ok.batch 5 [(4, .int .i64 (bitOr .i64 (IntKind.wrap .i64 (x8l21 * 2 ^ 8)) (IntKind.wrap .i64 ((IntKind.wrap .i64 ((cprtM xtop 0) + (cprtM xunder 0))) - (IntKind.wrap .i64 (Int.tdiv (IntKind.wrap .i64 ((cprtM xtop 0) * (cprtM xunder 0))) 255))))))] (by kernel_rfl) ?_
          refine Ok.nil ?_
          refine Ok.thenN ?_
          refine Ok.ret ?_
          exact Ok.resH (vs := [.int .i64 (bitOr .i64 (IntKind.wrap .i64 (x8l21 * 2 ^ 8)) (IntKind.wrap .i64 ((IntKind.wrap .i64 ((cprtM xtop 0) + (cprtM xunder 0))) - (IntKind.wrap .i64 (Int.tdiv (IntKind.wrap .i64 ((cprtM xtop 0) * (cprtM xunder 0))) 255)))))]) (.inl rfl) rfl (.cons (.tmp rfl) .nil) (Gext.refl w0 g) ⟨(bitOr .i64 (IntKind.wrap .i64 (x8l21 * 2 ^ 8)) (IntKind.wrap .i64 ((IntKind.wrap .i64 ((cprtM xtop 0) + (cprtM xunder 0))) - (IntKind.wrap .i64 (Int.tdiv (IntKind.wrap .i64 ((cprtM xtop 0) * (cprtM xunder 0))) 255))))), rfl, rfl, hF⟩
theorem cp0 (c : Int) : cprtM c 0 = byt c 0 := (part_eq c 0 (by omega)).1
theorem cp1 (c : Int) : cprtM c 1 = byt c 1 := (part_eq c 1 (by omega)).1
theorem cp2 (c : Int) : cprtM c 2 = byt c 2 := (part_eq c 2 (by omega)).1
theorem cp3 (c : Int) : cprtM c 3 = byt c 3 := (part_eq c 3 (by omega)).1
theorem rb0 (c : Int) : rbytM c 0 = byt c 0 := (part_eq c 0 (by omega)).2
theorem rb1 (c : Int) : rbytM c 1 = byt c 1 := (part_eq c 1 (by omega)).2
theorem rb2 (c : Int) : rbytM c 2 = byt c 2 := (part_eq c 2 (by omega)).2
theorem rb3 (c : Int) : rbytM c 3 = byt c 3 := (part_eq c 3 (by omega)).2
theorem cov_F (t u : Int) : covF t u (fun r => r = ovS t u) := by
  unfold covF
  rw [cp0, cp0, al_ok]
  refine ⟨by unfold atP; omega, by unfold atP; omega, fun h => by unfold ovS; rw [if_t h], fun h => ⟨4, ?_⟩⟩
  have hne : alS t u ≠ 0 := by simpa using h
  have h0 := al_in t u
  have m3 := mi_in (qu_in 3 hne)
  have m2 := mi_in (qu_in 2 hne)
  have m1 := mi_in (qu_in 1 hne)
  have hd : IntKind.wrap .i64 (alS t u * 255) ≠ 0 := by rw [w64 (by omega)]; omega
  have step : ∀ (k : Nat) (n x y : Int) (i : Nat), i ≤ 3 → (decide (x < 3)) = true → 0 ≤ x → Int.toNat x < 3 → (([3, 2, 1] : List Int).getD (Int.toNat x) default) = (i : Int) → IntKind.wrap .i64 (x + 1) = y → 0 ≤ n → n ≤ 16777215 → 0 ≤ mi (quS t u i) ∧ mi (quS t u i) ≤ 255 →
      covl21 t u (fun r => r = ovS t u) k (256 * n + mi (quS t u i)) y → covl21 t u (fun r => r = ovS t u) (k + 1) n x := by
    intro k n x y i hi hx hx0 hx3 hg hy hn0 hn1 hm hk
    show covl21b t u _ n x _
    unfold covl21b
    rw [cp0, cp0, al_ok, hg, (part_eq t i hi).1, (part_eq u i hi).1, qu_ok t u i hne, mi_alt, or8 (by omega) hm, hy]
    exact ⟨fun _ => ⟨hx0, hx3, by unfold atP; omega, by unfold atP; omega, hd, hk⟩, fun h => (Bool.false_ne_true (h.symm.trans hx)).elim⟩
  refine step 3 0 0 1 3 (by omega) (by decide) (by omega) (by decide) rfl (by decide) (by omega) (by omega) m3 ?_
  refine step 2 _ 1 2 2 (by omega) (by decide) (by omega) (by decide) rfl (by decide) (by omega) (by omega) m2 ?_
  refine step 1 _ 2 3 1 (by omega) (by decide) (by omega) (by decide) rfl (by decide) (by omega) (by omega) m1 ?_
  refine ⟨fun h => (by cases h), fun _ => ?_⟩
  rw [cp0, cp0, al_ok, or8 (by omega) h0]
  unfold ovS
  rw [if_f h]
set_option linter.unusedVariables false in
theorem cov_c {g : Ghost} (xtop : Int) (xunder : Int)  : CallsG Tryd.prog 22 #[.int .i64 xtop, .int .i64 xunder] g (.int .i64 (ovS xtop xunder)) :=
  (cov_ok xtop xunder _ (cov_F xtop xunder)).gives (by rintro g' H' v _ ⟨r0, rfl, rfl, hK⟩; subst hK; rfl)
def rovl23b (xtop : Int) (xunder : Int) (K : Int → Prop) (x8l23 : Int) (x9l23 : Int) (C23 : Int → Int → Prop) : Prop :=
  ((decide (x9l23 > 0)) = true → (IntKind.wrap .i64 ((IntKind.wrap .i64 ((IntKind.wrap .i64 ((rbytM xtop 0) + (rbytM xunder 0))) - (IntKind.wrap .i64 (Int.tdiv (IntKind.wrap .i64 ((rbytM xtop 0) * (rbytM xunder 0))) 255)))) * 255)) ≠ 0 ∧ C23 (IntKind.wrap .i64 ((IntKind.wrap .i64 (256 * x8l23)) + (if (IntKind.wrap .i64 (Int.tdiv (IntKind.wrap .i64 ((IntKind.wrap .i64 ((IntKind.wrap .i64 ((rbytM xtop x9l23) * (rbytM xtop 0))) * 255)) + (IntKind.wrap .i64 ((IntKind.wrap .i64 ((rbytM xunder x9l23) * (rbytM xunder 0))) * (IntKind.wrap .i64 (255 - (rbytM xtop 0))))))) (IntKind.wrap .i64 ((IntKind.wrap .i64 ((IntKind.wrap .i64 ((rbytM xtop 0) + (rbytM xunder 0))) - (IntKind.wrap .i64 (Int.tdiv (IntKind.wrap .i64 ((rbytM xtop 0) * (rbytM xunder 0))) 255)))) * 255)))) < 255 then (IntKind.wrap .i64 (Int.tdiv (IntKind.wrap .i64 ((IntKind.wrap .i64 ((IntKind.wrap .i64 ((rbytM xtop x9l23) * (rbytM xtop 0))) * 255)) + (IntKind.wrap .i64 ((IntKind.wrap .i64 ((rbytM xunder x9l23) * (rbytM xunder 0))) * (IntKind.wrap .i64 (255 - (rbytM xtop 0))))))) (IntKind.wrap .i64 ((IntKind.wrap .i64 ((IntKind.wrap .i64 ((rbytM xtop 0) + (rbytM xunder 0))) - (IntKind.wrap .i64 (Int.tdiv (IntKind.wrap .i64 ((rbytM xtop 0) * (rbytM xunder 0))) 255)))) * 255)))) else 255))) (IntKind.wrap .i64 (x9l23 - 1))) ∧ ((decide (x9l23 > 0)) = false → K (IntKind.wrap .i64 ((IntKind.wrap .i64 (256 * x8l23)) + (IntKind.wrap .i64 ((IntKind.wrap .i64 ((rbytM xtop 0) + (rbytM xunder 0))) - (IntKind.wrap .i64 (Int.tdiv (IntKind.wrap .i64 ((rbytM xtop 0) * (rbytM xunder 0))) 255)))))))
def rovl23 (xtop : Int) (xunder : Int) (K : Int → Prop) : Nat → Int → Int → Prop
  | 0, _, _ => False
  | k + 1, x8l23, x9l23 => rovl23b xtop xunder K x8l23 x9l23 (rovl23 xtop xunder K k)
def rovF (xtop : Int) (xunder : Int) (K : Int → Prop) : Prop :=
  ((((IntKind.wrap .i64 ((IntKind.wrap .i64 ((rbytM xtop 0) + (rbytM xunder 0))) - (IntKind.wrap .i64 (Int.tdiv (IntKind.wrap .i64 ((rbytM xtop 0) * (rbytM xunder 0))) 255)))) == 0)) = true → K 0) ∧ ((((IntKind.wrap .i64 ((IntKind.wrap .i64 ((rbytM xtop 0) + (rbytM xunder 0))) - (IntKind.wrap .i64 (Int.tdiv (IntKind.wrap .i64 ((rbytM xtop 0) * (rbytM xunder 0))) 255)))) == 0)) = false → ∃ k, rovl23 xtop xunder K k 0 3)
set_option maxHeartbeats 4000000 in
set_option maxRecDepth 100000 in
set_option linter.unusedVariables false in
theorem rov_ok {g : Ghost} (xtop : Int) (xunder : Int) (K : Int → Prop)
    (hF : rovF xtop xunder K) : CallsH Tryd.prog 23 #[.int .i64 xtop, .int .i64 xunder] g [] (fun g' H' v => ∃ (r0 : Int), v = .int .i64 r0 ∧ H' = [] ∧ K r0) := by
  refine CallsH.enter 54 [(0, .int .i64 xtop), (1, .int .i64 xunder)] Tryd.func23 rfl (by kernel_rfl) (by kernel_rfl) (by kernel_rfl) fun w0 => ?_
  refine Ok.seq ?_
  refine Ok.region ?_
  refine Ok.batch 1 [(0, .int .i64 xtop), (1, .int .i64 xunder)] (by kernel_rfl) ?_
  refine Ok.nil ?_
  refine Ok.thenN ?_
  refine Ok.seq ?_
  refine Ok.region ?_
  refine Ok.batch 1 [(0, .int .i64 xtop), (1, .int .i64 xunder), (10, .int .i64 xtop)] (by kernel_rfl) ?_
  refine Ok.op rfl (OpOk.callG (v := .int .i64 (rbytM xtop 0)) (enters (by kernel_rfl) (fun _ => by kernel_rfl)) (fun W hW => rbyt_c xtop 0) rfl ?_)
  refine Ok.batch 1 [(0, .int .i64 xtop), (1, .int .i64 xunder), (5, .int .i64 (rbytM xtop 0))] (by kernel_rfl) ?_
  refine Ok.nil ?_
  refine Ok.thenN ?_
  refine Ok.seq ?_
  refine Ok.region ?_
  refine Ok.batch 1 [(0, .int .i64 xtop), (1, .int .i64 xunder), (5, .int .i64 (rbytM xtop 0)), (12, .int .i64 xunder)] (by kernel_rfl) ?_
  refine Ok.op rfl (OpOk.callG (v := .int .i64 (rbytM xunder 0)) (enters (by kernel_rfl) (fun _ => by kernel_rfl)) (fun W hW => rbyt_c xunder 0) rfl ?_)
  refine Ok.batch 1 [(0, .int .i64 xtop), (1, .int .i64 xunder), (5, .int .i64 (rbytM xtop 0)), (6, .int .i64 (rbytM xunder 0))] (by kernel_rfl) ?_
  refine Ok.nil ?_
  refine Ok.thenN ?_
  refine Ok.seq ?_
  refine Ok.region ?_
  refine Ok.batch 9 [(0, .int .i64 xtop), (1, .int .i64 xunder), (5, .int .i64 (rbytM xtop 0)), (6, .int .i64 (rbytM xunder 0)), (7, .int .i64 (IntKind.wrap .i64 ((IntKind.wrap .i64 ((rbytM xtop 0) + (rbytM xunder 0))) - (IntKind.wrap .i64 (Int.tdiv (IntKind.wrap .i64 ((rbytM xtop 0) * (rbytM xunder 0))) 255)))))] (by kernel_rfl) ?_
  refine Ok.nil ?_
  refine Ok.thenN ?_
  refine Ok.seq ?_
  refine Ok.seq ?_
  refine Ok.region ?_
  refine Ok.batch 2 [(0, .int .i64 xtop), (1, .int .i64 xunder), (5, .int .i64 (rbytM xtop 0)), (6, .int .i64 (rbytM xunder 0)), (7, .int .i64 (IntKind.wrap .i64 ((IntKind.wrap .i64 ((rbytM xtop 0) + (rbytM xunder 0))) - (IntKind.wrap .i64 (Int.tdiv (IntKind.wrap .i64 ((rbytM xtop 0) * (rbytM xunder 0))) 255))))), (23, .bool ((IntKind.wrap .i64 ((IntKind.wrap .i64 ((rbytM xtop 0) + (rbytM xunder 0))) - (IntKind.wrap .i64 (Int.tdiv (IntKind.wrap .i64 ((rbytM xtop 0) * (rbytM xunder 0))) 255)))) == 0))] (by kernel_rfl) ?_
  refine Ok.nil ?_
  refine Ok.thenN ?_
  refine Ok.cond (b := ((IntKind.wrap .i64 ((IntKind.wrap .i64 ((rbytM xtop 0) + (rbytM xunder 0))) - (IntKind.wrap .i64 (Int.tdiv (IntKind.wrap .i64 ((rbytM xtop 0) * (rbytM xunder 0))) 255)))) == 0)) rfl (fun hc1 => ?_) (fun hc1 => ?_)
  · replace hF := hF.1 hc1
    refine Ok.seq ?_
    refine Ok.region ?_
    refine Ok.batch 1 [(4, .int .i64 0)] (by kernel_rfl) ?_
    refine Ok.nil ?_
    refine Ok.thenN ?_
    refine Ok.ret ?_
    refine Ok.thenR ?_
    exact Ok.resH (vs := [.int .i64 0]) (.inl rfl) rfl (.cons (.tmp rfl) .nil) (Gext.refl w0 g) ⟨0, rfl, rfl, hF⟩
  · replace hF := hF.2 hc1
    refine Ok.skip ?_
    refine Ok.thenN ?_
    refine Ok.seq ?_
    refine Ok.region ?_
    refine Ok.batch 1 [(0, .int .i64 xtop), (1, .int .i64 xunder), (5, .int .i64 (rbytM xtop 0)), (6, .int .i64 (rbytM xunder 0)), (7, .int .i64 (IntKind.wrap .i64 ((IntKind.wrap .i64 ((rbytM xtop 0) + (rbytM xunder 0))) - (IntKind.wrap .i64 (Int.tdiv (IntKind.wrap .i64 ((rbytM xtop 0) * (rbytM xunder 0))) 255))))), (8, .int .i64 0)] (by kernel_rfl) ?_
    refine Ok.nil ?_
    refine Ok.thenN ?_
    refine Ok.seq ?_
    refine Ok.seq ?_
    refine Ok.region ?_
    refine Ok.batch 1 [(0, .int .i64 xtop), (1, .int .i64 xunder), (5, .int .i64 (rbytM xtop 0)), (6, .int .i64 (rbytM xunder 0)), (7, .int .i64 (IntKind.wrap .i64 ((IntKind.wrap .i64 ((rbytM xtop 0) + (rbytM xunder 0))) - (IntKind.wrap .i64 (Int.tdiv (IntKind.wrap .i64 ((rbytM xtop 0) * (rbytM xunder 0))) 255))))), (8, .int .i64 0), (9, .int .i64 3)] (by kernel_rfl) ?_
    refine Ok.nil ?_
    refine Ok.thenN ?_
    refine Ok.block ?_
    obtain ⟨k, hF⟩ := hF
    refine Ok.loop (fun k a W => ∃ (x8l23 : Int) (x9l23 : Int), StA 54 [(0, .int .i64 xtop), (1, .int .i64 xunder), (5, .int .i64 (rbytM xtop 0)), (6, .int .i64 (rbytM xunder 0)), (7, .int .i64 (IntKind.wrap .i64 ((IntKind.wrap .i64 ((rbytM xtop 0) + (rbytM xunder 0))) - (IntKind.wrap .i64 (Int.tdiv (IntKind.wrap .i64 ((rbytM xtop 0) * (rbytM xunder 0))) 255))))), (8, .int .i64 x8l23), (9, .int .i64 x9l23)] a ∧ StW w0 [] g W ∧ rovl23 xtop xunder K k x8l23 x9l23) k ?_ ?_
    ·
      exact fun a W hA hW => ⟨0, 3, hA.sub (by kernel_rfl), hW, hF⟩
    ·
      clear hF
      rintro k23 a W ⟨x8l23, x9l23, hA, hW, hF⟩
      cases k23 with
      | zero => exact (hF : False).elim
      | succ k23 =>
        refine (?_ : Ok _ _ _ _ _ _) a W hA hW
        clear hA hW
        refine Ok.seq ?_
        refine Ok.seq ?_
        refine Ok.region ?_
        refine Ok.batch 2 [(0, .int .i64 xtop), (1, .int .i64 xunder), (5, .int .i64 (rbytM xtop 0)), (6, .int .i64 (rbytM xunder 0)), (7, .int .i64 (IntKind.wrap .i64 ((IntKind.wrap .i64 ((rbytM xtop 0) + (rbytM xunder 0))) - (IntKind.wrap .i64 (Int.tdiv (IntKind.wrap .i64 ((rbytM xtop 0) * (rbytM xunder 0))) 255))))), (8, .int .i64 x8l23), (9, .int .i64 x9l23), (25, .bool (decide (x9l23 > 0)))] (by kernel_rfl) ?_
        refine Ok.nil ?_
        refine Ok.thenN ?_
        refine Ok.cond (b := decide (x9l23 > 0)) rfl (fun hc2 => ?_) (fun hc2 => ?_)
        · replace hF := hF.1 hc2
          refine Ok.skip ?_
          refine Ok.thenN ?_
          refine Ok.seq ?_
          refine Ok.block ?_
          refine Ok.region ?_
          refine Ok.batch 4 [(0, .int .i64 xtop), (1, .int .i64 xunder), (5, .int .i64 (rbytM xtop 0)), (6, .int .i64 (rbytM xunder 0)), (7, .int .i64 (IntKind.wrap .i64 ((IntKind.wrap .i64 ((rbytM xtop 0) + (rbytM xunder 0))) - (IntKind.wrap .i64 (Int.tdiv (IntKind.wrap .i64 ((rbytM xtop 0) * (rbytM xunder 0))) 255))))), (9, .int .i64 x9l23), (29, .int .i64 (IntKind.wrap .i64 (256 * x8l23))), (30, .int .i64 xtop), (31, .int .i64 x9l23)] (by kernel_rfl) ?_
          refine Ok.op rfl (OpOk.callG (v := .int .i64 (rbytM xtop x9l23)) (enters (by kernel_rfl) (fun _ => by kernel_rfl)) (fun W hW => rbyt_c xtop x9l23) rfl ?_)
          refine Ok.batch 5 [(0, .int .i64 xtop), (1, .int .i64 xunder), (5, .int .i64 (rbytM xtop 0)), (6, .int .i64 (rbytM xunder 0)), (7, .int .i64 (IntKind.wrap .i64 ((IntKind.wrap .i64 ((rbytM xtop 0) + (rbytM xunder 0))) - (IntKind.wrap .i64 (Int.tdiv (IntKind.wrap .i64 ((rbytM xtop 0) * (rbytM xunder 0))) 255))))), (9, .int .i64 x9l23), (29, .int .i64 (IntKind.wrap .i64 (256 * x8l23))), (35, .int .i64 (IntKind.wrap .i64 ((IntKind.wrap .i64 ((rbytM xtop x9l23) * (rbytM xtop 0))) * 255))), (36, .int .i64 xunder), (37, .int .i64 x9l23)] (by kernel_rfl) ?_
          refine Ok.op rfl (OpOk.callG (v := .int .i64 (rbytM xunder x9l23)) (enters (by kernel_rfl) (fun _ => by kernel_rfl)) (fun W hW => rbyt_c xunder x9l23) rfl ?_)
          refine Ok.batch 8 [(0, .int .i64 xtop), (1, .int .i64 xunder), (5, .int .i64 (rbytM xtop 0)), (6, .int .i64 (rbytM xunder 0)), (7, .int .i64 (IntKind.wrap .i64 ((IntKind.wrap .i64 ((rbytM xtop 0) + (rbytM xunder 0))) - (IntKind.wrap .i64 (Int.tdiv (IntKind.wrap .i64 ((rbytM xtop 0) * (rbytM xunder 0))) 255))))), (9, .int .i64 x9l23), (29, .int .i64 (IntKind.wrap .i64 (256 * x8l23))), (44, .int .i64 (IntKind.wrap .i64 ((IntKind.wrap .i64 ((IntKind.wrap .i64 ((rbytM xtop x9l23) * (rbytM xtop 0))) * 255)) + (IntKind.wrap .i64 ((IntKind.wrap .i64 ((rbytM xunder x9l23) * (rbytM xunder 0))) * (IntKind.wrap .i64 (255 - (rbytM xtop 0)))))))), (46, .int .i64 (IntKind.wrap .i64 ((IntKind.wrap .i64 ((IntKind.wrap .i64 ((rbytM xtop 0) + (rbytM xunder 0))) - (IntKind.wrap .i64 (Int.tdiv (IntKind.wrap .i64 ((rbytM xtop 0) * (rbytM xunder 0))) 255)))) * 255)))] (by kernel_rfl) ?_
          obtain ⟨hv, hF⟩ := hF
          refine Ok.op rfl (OpOk.step (v := .int .i64 (IntKind.wrap .i64 (Int.tdiv (IntKind.wrap .i64 ((IntKind.wrap .i64 ((IntKind.wrap .i64 ((rbytM xtop x9l23) * (rbytM xtop 0))) * 255)) + (IntKind.wrap .i64 ((IntKind.wrap .i64 ((rbytM xunder x9l23) * (rbytM xunder 0))) * (IntKind.wrap .i64 (255 - (rbytM xtop 0))))))) (IntKind.wrap .i64 ((IntKind.wrap .i64 ((IntKind.wrap .i64 ((rbytM xtop 0) + (rbytM xunder 0))) - (IntKind.wrap .i64 (Int.tdiv (IntKind.wrap .i64 ((rbytM xtop 0) * (rbytM xunder 0))) 255)))) * 255))))) (Yields.quo rfl rfl hv) rfl rfl ?_)
          refine Ok.batch 3 [(0, .int .i64 xtop), (1, .int .i64 xunder), (5, .int .i64 (rbytM xtop 0)), (6, .int .i64 (rbytM xunder 0)), (7, .int .i64 (IntKind.wrap .i64 ((IntKind.wrap .i64 ((rbytM xtop 0) + (rbytM xunder 0))) - (IntKind.wrap .i64 (Int.tdiv (IntKind.wrap .i64 ((rbytM xtop 0) * (rbytM xunder 0))) 255))))), (8, .int .i64 (IntKind.wrap .i64 ((IntKind.wrap .i64 (256 * x8l23)) + (if (IntKind.wrap .i64 (Int.tdiv (IntKind.wrap .i64 ((IntKind.wrap .i64 ((IntKind.wrap .i64 ((rbytM xtop x9l23) * (rbytM xtop 0))) * 255)) + (IntKind.wrap .i64 ((IntKind.wrap .i64 ((rbytM xunder x9l23) * (rbytM xunder 0))) * (IntKind.wrap .i64 (255 - (rbytM xtop 0))))))) (IntKind.wrap .i64 ((IntKind.wrap .i64 ((IntKind.wrap .i64 ((rbytM xtop 0) + (rbytM xunder 0))) - (IntKind.wrap .i64 (Int.tdiv (IntKind.wrap .i64 ((rbytM xtop 0) * (rbytM xunder 0))) 255)))) * 255)))) < 255 then (IntKind.wrap .i64 (Int.tdiv (IntKind.wrap .i64 ((IntKind.wrap .i64 ((IntKind.wrap .i64 ((rbytM xtop x9l23) * (rbytM xtop 0))) * 255)) + (IntKind.wrap .i64 ((IntKind.wrap .i64 ((rbytM xunder x9l23) * (rbytM xunder 0))) * (IntKind.wrap .i64 (255 - (rbytM xtop 0))))))) (IntKind.wrap .i64 ((IntKind.wrap .i64 ((IntKind.wrap .i64 ((rbytM xtop 0) + (rbytM xunder 0))) - (IntKind.wrap .i64 (Int.tdiv (IntKind.wrap .i64 ((rbytM xtop 0) * (rbytM xunder 0))) 255)))) * 255)))) else 255)))), (9, .int .i64 x9l23)] (by kernel_rfl) ?_
          refine Ok.nil ?_
          refine Ok.blockN ?_
          refine Ok.thenN ?_
          refine Ok.region ?_
          refine Ok.batch 3 [(0, .int .i64 xtop), (1, .int .i64 xunder), (5, .int .i64 (rbytM xtop 0)), (6, .int .i64 (rbytM xunder 0)), (7, .int .i64 (IntKind.wrap .i64 ((IntKind.wrap .i64 ((rbytM xtop 0) + (rbytM xunder 0))) - (IntKind.wrap .i64 (Int.tdiv (IntKind.wrap .i64 ((rbytM xtop 0) * (rbytM xunder 0))) 255))))), (8, .int .i64 (IntKind.wrap .i64 ((IntKind.wrap .i64 (256 * x8l23)) + (if (IntKind.wrap .i64 (Int.tdiv (IntKind.wrap .i64 ((IntKind.wrap .i64 ((IntKind.wrap .i64 ((rbytM xtop x9l23) * (rbytM xtop 0))) * 255)) + (IntKind.wrap .i64 ((IntKind.wrap .i64 ((rbytM xunder x9l23) * (rbytM xunder 0))) * (IntKind.wrap .i64 (255 - (rbytM xtop 0))))))) (IntKind.wrap .i64 ((IntKind.wrap .i64 ((IntKind.wrap .i64 ((rbytM xtop 0) + (rbytM xunder 0))) - (IntKind.wrap .i64 (Int.tdiv (IntKind.wrap .i64 ((rbytM xtop 0) * (rbytM xunder 0))) 255)))) * 255)))) < 255 then (IntKind.wrap .i64 (Int.tdiv (IntKind.wrap .i64 ((IntKind.wrap .i64 ((IntKind.wrap .i64 ((rbytM xtop x9l23) * (rbytM xtop 0))) * 255)) + (IntKind.wrap .i64 ((IntKind.wrap .i64 ((rbytM xunder x9l23) * (rbytM xunder 0))) * (IntKind.wrap .i64 (255 - (rbytM xtop 0))))))) (IntKind.wrap .i64 ((IntKind.wrap .i64 ((IntKind.wrap .i64 ((rbytM xtop 0) + (rbytM xunder 0))) - (IntKind.wrap .i64 (Int.tdiv (IntKind.wrap .i64 ((rbytM xtop 0) * (rbytM xunder 0))) 255)))) * 255)))) else 255)))), (9, .int .i64 (IntKind.wrap .i64 (x9l23 - 1)))] (by kernel_rfl) ?_
          refine Ok.nil ?_
          refine Ok.thenN ?_
          exact fun a W hA hW => ⟨k23, Nat.lt_succ_self _, IntKind.wrap .i64 ((IntKind.wrap .i64 (256 * x8l23)) + (if (IntKind.wrap .i64 (Int.tdiv (IntKind.wrap .i64 ((IntKind.wrap .i64 ((IntKind.wrap .i64 ((rbytM xtop x9l23) * (rbytM xtop 0))) * 255)) + (IntKind.wrap .i64 ((IntKind.wrap .i64 ((rbytM xunder x9l23) * (rbytM xunder 0))) * (IntKind.wrap .i64 (255 - (rbytM xtop 0))))))) (IntKind.wrap .i64 ((IntKind.wrap .i64 ((IntKind.wrap .i64 ((rbytM xtop 0) + (rbytM xunder 0))) - (IntKind.wrap .i64 (Int.tdiv (IntKind.wrap .i64 ((rbytM xtop 0) * (rbytM xunder 0))) 255)))) * 255)))) < 255 then (IntKind.wrap .i64 (Int.tdiv (IntKind.wrap .i64 ((IntKind.wrap .i64 ((IntKind.wrap .i64 ((rbytM xtop x9l23) * (rbytM xtop 0))) * 255)) + (IntKind.wrap .i64 ((IntKind.wrap .i64 ((rbytM xunder x9l23) * (rbytM xunder 0))) * (IntKind.wrap .i64 (255 - (rbytM xtop 0))))))) (IntKind.wrap .i64 ((IntKind.wrap .i64 ((IntKind.wrap .i64 ((rbytM xtop 0) + (rbytM xunder 0))) - (IntKind.wrap .i64 (Int.tdiv (IntKind.wrap .i64 ((rbytM xtop 0) * (rbytM xunder 0))) 255)))) * 255)))) else 255)), IntKind.wrap .i64 (x9l23 - 1), hA.sub (by kernel_rfl), hW, hF⟩
        · replace hF := hF.2 hc2
          refine Ok.exit ?_
          refine Ok.thenE ?_
          refine Ok.thenE ?_
          refine Ok.blockHit ?_
          refine Ok.thenN ?_
          refine Ok.seq ?_
          refine Ok.region ?_
          refine Ok.batch 5 [(4, .int .i64 (IntKind.wrap .i64 ((IntKind.wrap .i64 (256 * x8l23)) + (IntKind.wrap .i64 ((IntKind.wrap .i64 ((rbytM xtop 0) + (rbytM xunder 0))) - (IntKind.wrap .i64 (Int.tdiv (IntKind.wrap .i64 ((rbytM xtop 0) * (rbytM xunder 0))) 255)))))))] (by kernel_rfl) ?_
          refine Ok.nil ?_
          refine Ok.thenN ?_
          refine Ok.ret ?_
          exact Ok.resH (vs := [.int .i64 (IntKind.wrap .i64 ((IntKind.wrap .i64 (256 * x8l23)) + (IntKind.wrap .i64 ((IntKind.wrap .i64 ((rbytM xtop 0) + (rbytM xunder 0))) - (IntKind.wrap .i64 (Int.tdiv (IntKind.wrap .i64 ((rbytM xtop 0) * (rbytM xunder 0))) 255))))))]) (.inl rfl) rfl (.cons (.tmp rfl) .nil) (Gext.refl w0 g) ⟨(IntKind.wrap .i64 ((IntKind.wrap .i64 (256 * x8l23)) + (IntKind.wrap .i64 ((IntKind.wrap .i64 ((rbytM xtop 0) + (rbytM xunder 0))) - (IntKind.wrap .i64 (Int.tdiv (IntKind.wrap .i64 ((rbytM xtop 0) * (rbytM xunder 0))) 255)))))), rfl, rfl, hF⟩
theorem rov_F (t u : Int) : rovF t u (fun r => r = ovS t u) := by
  unfold rovF
  rw [rb0, rb0, al_ok]
  refine ⟨fun h => by unfold ovS; rw [if_t h], fun h => ⟨4, ?_⟩⟩
  have hne : alS t u ≠ 0 := by simpa using h
  have h0 := al_in t u
  have m3 := mi_in (qu_in 3 hne)
  have m2 := mi_in (qu_in 2 hne)
  have m1 := mi_in (qu_in 1 hne)
  have hd : IntKind.wrap .i64 (alS t u * 255) ≠ 0 := by rw [w64 (by omega)]; omega
  have step : ∀ (k : Nat) (n y : Int) (i : Nat), i ≤ 3 → (decide ((i : Int) > 0)) = true → IntKind.wrap .i64 ((i : Int) - 1) = y → 0 ≤ n → n ≤ 16777215 → 0 ≤ mi (quS t u i) ∧ mi (quS t u i) ≤ 255 →
      rovl23 t u (fun r => r = ovS t u) k (256 * n + mi (quS t u i)) y → rovl23 t u (fun r => r = ovS t u) (k + 1) n (i : Int) := by
    intro k n y i hi hx hy hn0 hn1 hm hk
    show rovl23b t u _ n (i : Int) _
    unfold rovl23b
    rw [rb0, rb0, al_ok, (part_eq t i hi).2, (part_eq u i hi).2, qu_ok t u i hne, show (if quS t u i < 255 then quS t u i else 255) = mi (quS t u i) from rfl, w64 (x := 256 * n) (by omega), w64 (x := 256 * n + _) (by omega), hy]
    exact ⟨fun _ => ⟨hd, hk⟩, fun h => (Bool.false_ne_true (h.symm.trans hx)).elim⟩
  refine step 3 0 2 3 (by omega) (by decide) (by decide) (by omega) (by omega) m3 ?_
  refine step 2 _ 1 2 (by omega) (by decide) (by decide) (by omega) (by omega) m2 ?_
  refine step 1 _ 0 1 (by omega) (by decide) (by decide) (by omega) (by omega) m1 ?_
  refine ⟨fun h => (by cases h), fun _ => ?_⟩
  rw [rb0, rb0, al_ok]
  unfold ovS
  rw [if_f h, w64 (x := 256 * (256 * (256 * (256 * 0 + mi (quS t u 3)) + mi (quS t u 2)) + mi (quS t u 1))) (by omega), w64 (by omega)]
set_option linter.unusedVariables false in
theorem rov_c {g : Ghost} (xtop : Int) (xunder : Int)  : CallsG Tryd.prog 23 #[.int .i64 xtop, .int .i64 xunder] g (.int .i64 (ovS xtop xunder)) :=
  (rov_ok xtop xunder _ (rov_F xtop xunder)).gives (by rintro g' H' v _ ⟨r0, rfl, rfl, hK⟩; subst hK; rfl)
def lcoj5 (xa : Int) (xb : Int) (K : Bool → Prop) : Prop :=
  K (redM && ((ovS xa xb) == (ovS xa xb)))
def lcoF (xa : Int) (xb : Int) (K : Bool → Prop) : Prop :=
  ((redM) = true → lcoj5 xa xb K) ∧ ((redM) = false → lcoj5 xa xb K)
set_option maxHeartbeats 4000000 in
set_option maxRecDepth 100000 in
set_option linter.unusedVariables false in
theorem lco_ok {g : Ghost} (xa : Int) (xb : Int) (hG1 : SomeInt g 1) (hG2 : GlobL g 2 (.int .u64) DPow) (hG3 : SomeIf g 3) (hG4 : SomeIf g 4) (K : Bool → Prop)
    (hF : lcoF xa xb K) : CallsH Tryd.prog 8 #[.int .i64 xa, .int .i64 xb] g [] (fun g' H' v => ∃ (r0 : Bool), v = .bool r0 ∧ H' = [] ∧ K r0) := by
  refine CallsH.enter 17 [(0, .int .i64 xa), (1, .int .i64 xb)] Tryd.func8 rfl (by kernel_rfl) (by kernel_rfl) (by kernel_rfl) fun w0 => ?_
  refine Ok.seq ?_
  refine Ok.region ?_
  refine Ok.batch 1 [(0, .int .i64 xa), (1, .int .i64 xb)] (by kernel_rfl) ?_
  refine Ok.nil ?_
  refine Ok.thenN ?_
  refine Ok.seq ?_
  refine Ok.region ?_
  refine Ok.op rfl (OpOk.callG (v := .bool redM) (enters (by kernel_rfl) (fun _ => by kernel_rfl)) (fun W hW => red_c  (hG1.mono hW.sees) (hG2.mono hW.sees) (hG3.mono hW.sees) (hG4.mono hW.sees)) rfl ?_)
  refine Ok.batch 1 [(0, .int .i64 xa), (1, .int .i64 xb), (5, .bool redM)] (by kernel_rfl) ?_
  refine Ok.nil ?_
  refine Ok.thenN ?_
  refine Ok.cut (fun a W => StA 17 [(4, .bool (redM && ((ovS xa xb) == (ovS xa xb))))] a ∧ StW w0 [] g W ∧ lcoj5 xa xb K) ?_ ?_
  ·
    refine Ok.region ?_
    refine Ok.batch 2 [(0, .int .i64 xa), (1, .int .i64 xb), (8, .bool redM)] (by kernel_rfl) ?_
    refine Ok.boolAt 8 (redM) rfl (fun hc1 => ?_) (fun hc1 => ?_)
    · replace hF := hF.1 hc1
      refine Ok.batch 2 [(0, .int .i64 xa), (1, .int .i64 xb), (8, .bool true), (9, .int .i64 xa), (10, .int .i64 xb)] (by kernel_rfl) ?_
      refine Ok.opYes (j := 1) (d := 8) (want := true) (b := true) rfl (by kernel_rfl) (by kernel_rfl) rfl (OpOk.callG (v := .int .i64 (ovS xa xb)) (enters (by kernel_rfl) (fun _ => by kernel_rfl)) (fun W hW => cov_c xa xb) rfl ?_)
      refine Ok.batch 2 [(8, .bool true), (11, .int .i64 (ovS xa xb)), (12, .int .i64 xa), (13, .int .i64 xb)] (by kernel_rfl) ?_
      refine Ok.opYes (j := 1) (d := 8) (want := true) (b := true) rfl (by kernel_rfl) (by kernel_rfl) rfl (OpOk.callG (v := .int .i64 (ovS xa xb)) (enters (by kernel_rfl) (fun _ => by kernel_rfl)) (fun W hW => rov_c xa xb) rfl ?_)
      refine Ok.batch 3 [(4, .bool ((ovS xa xb) == (ovS xa xb)))] (by kernel_rfl) ?_
      refine Ok.nil ?_
      refine Ok.thenN ?_
      refine Ok.reval 4 rfl (show (.bool ((ovS xa xb) == (ovS xa xb)) : Value) = .bool (redM && ((ovS xa xb) == (ovS xa xb))) from congrArg (Value.bool) (mand_t hc1)) ?_
      exact fun a W hA hW => ⟨hA.sub (by kernel_rfl), hW, hF⟩
    · replace hF := hF.2 hc1
      refine Ok.batch 9 [(4, .bool false)] (by kernel_rfl) ?_
      refine Ok.nil ?_
      refine Ok.thenN ?_
      refine Ok.reval 4 rfl (show (.bool false : Value) = .bool (redM && ((ovS xa xb) == (ovS xa xb))) from congrArg (Value.bool) (mand_f hc1)) ?_
      exact fun a W hA hW => ⟨hA.sub (by kernel_rfl), hW, hF⟩
  ·
    clear hF
    rintro a W ⟨hA, hW, hF⟩
    refine (?_ : Ok _ _ _ _ _ _) a W hA hW
    clear hA hW
    refine Ok.ret ?_
    exact Ok.resH (vs := [.bool (redM && ((ovS xa xb) == (ovS xa xb)))]) (.inl rfl) rfl (.cons (.tmp rfl) .nil) (Gext.refl w0 g) ⟨(redM && ((ovS xa xb) == (ovS xa xb))), rfl, rfl, hF⟩
theorem lco_F (t u : Int) : lcoF t u (fun r => r = true) := by
  have key : lcoj5 t u (fun r => r = true) := by
    unfold lcoj5
    rw [red_true]
    simp
  exact ⟨fun _ => key, fun _ => key⟩
set_option linter.unusedVariables false in
theorem lco_c {g : Ghost} (xa : Int) (xb : Int) (hG1 : SomeInt g 1) (hG2 : GlobL g 2 (.int .u64) DPow) (hG3 : SomeIf g 3) (hG4 : SomeIf g 4)  : CallsG Tryd.prog 8 #[.int .i64 xa, .int .i64 xb] g (.bool ((fun _ _=> true) xa xb)) :=
  (lco_ok xa xb hG1 hG2 hG3 hG4 _ (lco_F xa xb)).gives (by rintro g' H' v _ ⟨r0, rfl, rfl, hK⟩; subst hK; rfl)
def lcfj9 (xc : Int) (xn : Int) (K : Bool → Prop) : Prop :=
  K (redM && ((cfadM xc xn) == (IntKind.wrap .i64 ((IntKind.wrap .i64 ((IntKind.wrap .i64 (Int.tdiv (IntKind.wrap .i64 (IntKind.wrap .u32 xc)) 256)) * 256)) + (IntKind.wrap .i64 (Int.tdiv (IntKind.wrap .i64 ((rbytM xc 0) * (if 0 < (if 1000 < xn then 1000 else xn) then (if 1000 < xn then 1000 else xn) else 0))) 1000))))))
def lcfF (xc : Int) (xn : Int) (K : Bool → Prop) : Prop :=
  ((redM) = true → lcfj9 xc xn K) ∧ ((redM) = false → lcfj9 xc xn K)
set_option maxHeartbeats 4000000 in
set_option maxRecDepth 100000 in
set_option linter.unusedVariables false in
theorem lcf_ok {g : Ghost} (xc : Int) (xn : Int) (hG1 : SomeInt g 1) (hG2 : GlobL g 2 (.int .u64) DPow) (hG3 : SomeIf g 3) (hG4 : SomeIf g 4) (K : Bool → Prop)
    (hF : lcfF xc xn K) : CallsH Tryd.prog 7 #[.int .i64 xc, .int .i64 xn] g [] (fun g' H' v => ∃ (r0 : Bool), v = .bool r0 ∧ H' = [] ∧ K r0) := by
  refine CallsH.enter 31 [(0, .int .i64 xc), (1, .int .i64 xn)] Tryd.func7 rfl (by kernel_rfl) (by kernel_rfl) (by kernel_rfl) fun w0 => ?_
  refine Ok.seq ?_
  refine Ok.region ?_
  refine Ok.batch 1 [(0, .int .i64 xc), (1, .int .i64 xn)] (by kernel_rfl) ?_
  refine Ok.nil ?_
  refine Ok.thenN ?_
  refine Ok.seq ?_
  refine Ok.region ?_
  refine Ok.op rfl (OpOk.callG (v := .bool redM) (enters (by kernel_rfl) (fun _ => by kernel_rfl)) (fun W hW => red_c  (hG1.mono hW.sees) (hG2.mono hW.sees) (hG3.mono hW.sees) (hG4.mono hW.sees)) rfl ?_)
  refine Ok.batch 1 [(0, .int .i64 xc), (1, .int .i64 xn), (5, .bool redM)] (by kernel_rfl) ?_
  refine Ok.nil ?_
  refine Ok.thenN ?_
  refine Ok.seq ?_
  refine Ok.region ?_
  refine Ok.batch 4 [(0, .int .i64 xc), (1, .int .i64 xn), (5, .bool redM), (6, .int .i64 (if 0 < (if 1000 < xn then 1000 else xn) then (if 1000 < xn then 1000 else xn) else 0))] (by kernel_rfl) ?_
  refine Ok.nil ?_
  refine Ok.thenN ?_
  refine Ok.seq ?_
  refine Ok.region ?_
  refine Ok.batch 6 [(0, .int .i64 xc), (1, .int .i64 xn), (5, .bool redM), (6, .int .i64 (if 0 < (if 1000 < xn then 1000 else xn) then (if 1000 < xn then 1000 else xn) else 0)), (16, .int .i64 (IntKind.wrap .i64 ((IntKind.wrap .i64 (Int.tdiv (IntKind.wrap .i64 (IntKind.wrap .u32 xc)) 256)) * 256))), (17, .int .i64 xc)] (by kernel_rfl) ?_
  refine Ok.op rfl (OpOk.callG (v := .int .i64 (rbytM xc 0)) (enters (by kernel_rfl) (fun _ => by kernel_rfl)) (fun W hW => rbyt_c xc 0) rfl ?_)
  refine Ok.batch 5 [(0, .int .i64 xc), (1, .int .i64 xn), (5, .bool redM), (7, .int .i64 (IntKind.wrap .i64 ((IntKind.wrap .i64 ((IntKind.wrap .i64 (Int.tdiv (IntKind.wrap .i64 (IntKind.wrap .u32 xc)) 256)) * 256)) + (IntKind.wrap .i64 (Int.tdiv (IntKind.wrap .i64 ((rbytM xc 0) * (if 0 < (if 1000 < xn then 1000 else xn) then (if 1000 < xn then 1000 else xn) else 0))) 1000)))))] (by kernel_rfl) ?_
  refine Ok.nil ?_
  refine Ok.thenN ?_
  refine Ok.cut (fun a W => ∃ gj9 : Ghost, Gext w0 g gj9 ∧ StA 31 [(4, .bool (redM && ((cfadM xc xn) == (IntKind.wrap .i64 ((IntKind.wrap .i64 ((IntKind.wrap .i64 (Int.tdiv (IntKind.wrap .i64 (IntKind.wrap .u32 xc)) 256)) * 256)) + (IntKind.wrap .i64 (Int.tdiv (IntKind.wrap .i64 ((rbytM xc 0) * (if 0 < (if 1000 < xn then 1000 else xn) then (if 1000 < xn then 1000 else xn) else 0))) 1000)))))))] a ∧ StW w0 [] gj9 W ∧ lcfj9 xc xn K) ?_ ?_
  ·
    refine Ok.region ?_
    refine Ok.batch 2 [(0, .int .i64 xc), (1, .int .i64 xn), (7, .int .i64 (IntKind.wrap .i64 ((IntKind.wrap .i64 ((IntKind.wrap .i64 (Int.tdiv (IntKind.wrap .i64 (IntKind.wrap .u32 xc)) 256)) * 256)) + (IntKind.wrap .i64 (Int.tdiv (IntKind.wrap .i64 ((rbytM xc 0) * (if 0 < (if 1000 < xn then 1000 else xn) then (if 1000 < xn then 1000 else xn) else 0))) 1000))))), (24, .bool redM)] (by kernel_rfl) ?_
    refine Ok.boolAt 24 (redM) rfl (fun hc1 => ?_) (fun hc1 => ?_)
    · replace hF := hF.1 hc1
      refine Ok.batch 2 [(7, .int .i64 (IntKind.wrap .i64 ((IntKind.wrap .i64 ((IntKind.wrap .i64 (Int.tdiv (IntKind.wrap .i64 (IntKind.wrap .u32 xc)) 256)) * 256)) + (IntKind.wrap .i64 (Int.tdiv (IntKind.wrap .i64 ((rbytM xc 0) * (if 0 < (if 1000 < xn then 1000 else xn) then (if 1000 < xn then 1000 else xn) else 0))) 1000))))), (24, .bool true), (25, .int .i64 xc), (26, .int .i64 xn)] (by kernel_rfl) ?_
      refine Ok.opYes (j := 1) (d := 24) (want := true) (b := true) rfl (by kernel_rfl) (by kernel_rfl) rfl (OpOk.callG (v := .int .i64 (cfadM xc xn)) (enters (by kernel_rfl) (fun _ => by kernel_rfl)) (fun W hW => cfad_c xc xn) rfl ?_)
      refine Ok.batch 4 [(4, .bool ((cfadM xc xn) == (IntKind.wrap .i64 ((IntKind.wrap .i64 ((IntKind.wrap .i64 (Int.tdiv (IntKind.wrap .i64 (IntKind.wrap .u32 xc)) 256)) * 256)) + (IntKind.wrap .i64 (Int.tdiv (IntKind.wrap .i64 ((rbytM xc 0) * (if 0 < (if 1000 < xn then 1000 else xn) then (if 1000 < xn then 1000 else xn) else 0))) 1000))))))] (by kernel_rfl) ?_
      refine Ok.nil ?_
      refine Ok.thenN ?_
      refine Ok.reval 4 rfl (show (.bool ((cfadM xc xn) == (IntKind.wrap .i64 ((IntKind.wrap .i64 ((IntKind.wrap .i64 (Int.tdiv (IntKind.wrap .i64 (IntKind.wrap .u32 xc)) 256)) * 256)) + (IntKind.wrap .i64 (Int.tdiv (IntKind.wrap .i64 ((rbytM xc 0) * (if 0 < (if 1000 < xn then 1000 else xn) then (if 1000 < xn then 1000 else xn) else 0))) 1000))))) : Value) = .bool (redM && ((cfadM xc xn) == (IntKind.wrap .i64 ((IntKind.wrap .i64 ((IntKind.wrap .i64 (Int.tdiv (IntKind.wrap .i64 (IntKind.wrap .u32 xc)) 256)) * 256)) + (IntKind.wrap .i64 (Int.tdiv (IntKind.wrap .i64 ((rbytM xc 0) * (if 0 < (if 1000 < xn then 1000 else xn) then (if 1000 < xn then 1000 else xn) else 0))) 1000)))))) from congrArg (Value.bool) (mand_t hc1)) ?_
      exact fun a W hA hW => ⟨g, (Gext.refl w0 g), hA.sub (by kernel_rfl), hW, hF⟩
    · replace hF := hF.2 hc1
      refine Ok.batch 7 [(4, .bool false)] (by kernel_rfl) ?_
      refine Ok.nil ?_
      refine Ok.thenN ?_
      refine Ok.reval 4 rfl (show (.bool false : Value) = .bool (redM && ((cfadM xc xn) == (IntKind.wrap .i64 ((IntKind.wrap .i64 ((IntKind.wrap .i64 (Int.tdiv (IntKind.wrap .i64 (IntKind.wrap .u32 xc)) 256)) * 256)) + (IntKind.wrap .i64 (Int.tdiv (IntKind.wrap .i64 ((rbytM xc 0) * (if 0 < (if 1000 < xn then 1000 else xn) then (if 1000 < xn then 1000 else xn) else 0))) 1000)))))) from congrArg (Value.bool) (mand_f hc1)) ?_
      exact fun a W hA hW => ⟨g, (Gext.refl w0 g), hA.sub (by kernel_rfl), hW, hF⟩
  ·
    clear hF
    rintro a W ⟨gj9, hxj9, hA, hW, hF⟩
    refine (?_ : Ok _ _ _ _ _ _) a W hA hW
    clear hA hW
    replace hG1 := hG1.mono hxj9.1
    replace hG2 := hG2.mono hxj9.1
    replace hG3 := hG3.mono hxj9.1
    replace hG4 := hG4.mono hxj9.1
    refine Ok.ret ?_
    exact Ok.resH (vs := [.bool (redM && ((cfadM xc xn) == (IntKind.wrap .i64 ((IntKind.wrap .i64 ((IntKind.wrap .i64 (Int.tdiv (IntKind.wrap .i64 (IntKind.wrap .u32 xc)) 256)) * 256)) + (IntKind.wrap .i64 (Int.tdiv (IntKind.wrap .i64 ((rbytM xc 0) * (if 0 < (if 1000 < xn then 1000 else xn) then (if 1000 < xn then 1000 else xn) else 0))) 1000))))))]) (.inl rfl) rfl (.cons (.tmp rfl) .nil) hxj9 ⟨(redM && ((cfadM xc xn) == (IntKind.wrap .i64 ((IntKind.wrap .i64 ((IntKind.wrap .i64 (Int.tdiv (IntKind.wrap .i64 (IntKind.wrap .u32 xc)) 256)) * 256)) + (IntKind.wrap .i64 (Int.tdiv (IntKind.wrap .i64 ((rbytM xc 0) * (if 0 < (if 1000 < xn then 1000 else xn) then (if 1000 < xn then 1000 else xn) else 0))) 1000)))))), rfl, rfl, hF⟩
theorem lcf_F (c n : Int) : lcfF c n (fun r => r = true) := by
  have key : lcfj9 c n (fun r => r = true) := by
    unfold lcfj9 cfadM
    obtain ⟨k, hk, hk0, hk1⟩ : ∃ k : Int, k = (if 1000 < (if n < 0 then 0 else n) then 1000 else (if n < 0 then 0 else n)) ∧ 0 ≤ k ∧ k ≤ 1000 := ⟨_, rfl, by split <;> split <;> omega, by split <;> split <;> omega⟩
    have hk2 : (if 0 < (if 1000 < n then 1000 else n) then (if 1000 < n then 1000 else n) else 0) = k := by
      rw [hk]; repeat' split
      all_goals omega
    rw [← hk, hk2, red_true, cp0, rb0, andNot255 (u32_in c)]
    have hu := u32_in c
    have hb := byt_in c 0
    have hm := mulb hb (show 0 ≤ k ∧ k ≤ 1000 from ⟨hk0, hk1⟩)
    rw [w64 (x := byt c 0 * k) (by omega), Int.tdiv_eq_ediv_of_nonneg (by omega), w64 (x := byt c 0 * k / 1000) (by omega), w64 (x := IntKind.wrap .u32 c) (by omega), Int.tdiv_eq_ediv_of_nonneg (by omega), w64 (x := IntKind.wrap .u32 c / 256) (by omega), w64 (x := IntKind.wrap .u32 c / 256 * 256) (by omega), w64 (x := _ + _) (by omega)]
    have h := or8 (c := IntKind.wrap .u32 c / 256) (v := byt c 0 * k / 1000) (by omega) (by omega)
    rw [show (2 : Int) ^ 8 = 256 from rfl, w64 (x := IntKind.wrap .u32 c / 256 * 256) (by omega)] at h
    rw [h, Int.mul_comm]; simp
  exact ⟨fun _ => key, fun _ => key⟩
set_option linter.unusedVariables false in
theorem lcf_c {g : Ghost} (xc : Int) (xn : Int) (hG1 : SomeInt g 1) (hG2 : GlobL g 2 (.int .u64) DPow) (hG3 : SomeIf g 3) (hG4 : SomeIf g 4)  : CallsG Tryd.prog 7 #[.int .i64 xc, .int .i64 xn] g (.bool ((fun _ _=> true) xc xn)) :=
  (lcf_ok xc xn hG1 hG2 hG3 hG4 _ (lcf_F xc xn)).gives (by rintro g' H' v _ ⟨r0, rfl, rfl, hK⟩; subst hK; rfl)
end Go.Proofs.YteocjdpjpkjlaaaDoor.Co
