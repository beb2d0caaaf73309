/- Package anim's mix of two values and the reference's: one answer. -/
import Derived.Test.YtejkloinamgpaaaAnC
namespace Go.Proofs.Ytejkloinamgpaaa.An
open Go.Eng
open IntWalk (i64_in)
/-! ### parts of a way -/
def partZ (a b t : Int) : Int := a + (b - a) * t / 1000
theorem smul_bd {x t m : Int} (h1 : -m ≤ x) (h2 : x ≤ m) (h3 : 0 ≤ t) (h4 : t ≤ 1000) (hm : 0 ≤ m) : -(m * 1000) ≤ x * t ∧ x * t ≤ m * 1000 := by
  have g1 := Int.mul_le_mul_of_nonneg_right h1 h3
  have g2 := Int.mul_le_mul_of_nonneg_right h2 h3
  have g3 := Int.mul_le_mul_of_nonneg_left h4 hm
  have g4 : -m * t = -(m * t) := Int.neg_mul ..
  omega
theorem tdiv_neg1000 (n : Int) (h : n < 0) : Int.tdiv n 1000 = -((-n) / 1000) ∧ Int.tmod n 1000 = -((-n) % 1000) := by
  obtain ⟨m, rfl⟩ : ∃ m, n = -m := ⟨-n, by omega⟩
  rw [Int.neg_tdiv, Int.neg_tmod, Int.tdiv_eq_ediv_of_nonneg (by omega), Int.tmod_eq_emod_of_nonneg (by omega), Int.neg_neg]
  exact ⟨rfl, rfl⟩
def wayP (a b t : Int) : Prop := (-16777216 ≤ a ∧ a ≤ 16777216) ∧ (-16777216 ≤ b ∧ b ≤ 16777216) ∧ 0 ≤ t ∧ t ≤ 1000
def partj7 (pa : Int) (K : Int → Prop) (x8j7 : Int) : Prop :=
  K (IntKind.wrap .i64 (pa + x8j7))
def partF (pa : Int) (pb : Int) (pt : Int) (K : Int → Prop) : Prop :=
  ((decide ((Int.tmod (IntKind.wrap .i64 ((IntKind.wrap .i64 (pb - pa)) * pt)) 1000) < 0)) = true → partj7 pa K (IntKind.wrap .i64 ((IntKind.wrap .i64 (Int.tdiv (IntKind.wrap .i64 ((IntKind.wrap .i64 (pb - pa)) * pt)) 1000)) - 1))) ∧ ((decide ((Int.tmod (IntKind.wrap .i64 ((IntKind.wrap .i64 (pb - pa)) * pt)) 1000) < 0)) = false → partj7 pa K (IntKind.wrap .i64 (Int.tdiv (IntKind.wrap .i64 ((IntKind.wrap .i64 (pb - pa)) * pt)) 1000)))
set_option maxHeartbeats 4000000 in
set_option maxRecDepth 100000 in
set_option linter.unusedVariables false in
theorem part_ok {g : Ghost} (pa : Int) (pb : Int) (pt : Int) (K : Int → Prop)
    (hF : partF pa pb pt K) : CallsK Try.prog 44 #[.int .i64 pa, .int .i64 pb, .int .i64 pt] g (fun v => ∃ r0 : Int, v = .int .i64 r0 ∧ K r0) := by
  refine CallsK.enter 24 [(0, .int .i64 pa), (1, .int .i64 pb), (2, .int .i64 pt)] Try.func44 rfl (by kernel_rfl) (by kernel_rfl) (by kernel_rfl) fun w0 => ?_
  refine Ok.seq ?_
  refine Ok.region ?_
  refine Ok.batch 1 [(0, .int .i64 pa), (1, .int .i64 pb), (2, .int .i64 pt)] (by kernel_rfl) ?_
  refine Ok.nil ?_
  refine Ok.thenN ?_
  refine Ok.seq ?_
  refine Ok.region ?_
  refine Ok.batch 6 [(0, .int .i64 pa), (7, .int .i64 (IntKind.wrap .i64 ((IntKind.wrap .i64 (pb - pa)) * pt)))] (by kernel_rfl) ?_
  refine Ok.nil ?_
  refine Ok.thenN ?_
  refine Ok.seq ?_
  refine Ok.region ?_
  refine Ok.batch 3 [(0, .int .i64 pa), (7, .int .i64 (IntKind.wrap .i64 ((IntKind.wrap .i64 (pb - pa)) * pt))), (8, .int .i64 (IntKind.wrap .i64 (Int.tdiv (IntKind.wrap .i64 ((IntKind.wrap .i64 (pb - pa)) * pt)) 1000)))] (by kernel_rfl) ?_
  refine Ok.nil ?_
  refine Ok.thenN ?_
  refine Ok.cut (fun a W => ∃ (x8j7 : Int), StA 24 [(0, .int .i64 pa), (8, .int .i64 x8j7)] a ∧ StW w0 [] g W ∧ partj7 pa K x8j7) ?_ ?_
  ·
    refine Ok.seq ?_
    refine Ok.region ?_
    refine Ok.batch 3 [(0, .int .i64 pa), (8, .int .i64 (IntKind.wrap .i64 (Int.tdiv (IntKind.wrap .i64 ((IntKind.wrap .i64 (pb - pa)) * pt)) 1000))), (18, .bool (decide ((Int.tmod (IntKind.wrap .i64 ((IntKind.wrap .i64 (pb - pa)) * pt)) 1000) < 0)))] (by kernel_rfl) ?_
    refine Ok.nil ?_
    refine Ok.thenN ?_
    refine Ok.cond (b := decide ((Int.tmod (IntKind.wrap .i64 ((IntKind.wrap .i64 (pb - pa)) * pt)) 1000) < 0)) rfl (fun hc => ?_) (fun hc => ?_)
    · replace hF := hF.1 hc
      refine Ok.region ?_
      refine Ok.batch 3 [(0, .int .i64 pa), (8, .int .i64 (IntKind.wrap .i64 ((IntKind.wrap .i64 (Int.tdiv (IntKind.wrap .i64 ((IntKind.wrap .i64 (pb - pa)) * pt)) 1000)) - 1)))] (by kernel_rfl) ?_
      refine Ok.nil ?_
      refine Ok.thenN ?_
      exact fun a W hA hW => ⟨(IntKind.wrap .i64 ((IntKind.wrap .i64 (Int.tdiv (IntKind.wrap .i64 ((IntKind.wrap .i64 (pb - pa)) * pt)) 1000)) - 1)), hA.sub (by kernel_rfl), hW, hF⟩
    · replace hF := hF.2 hc
      refine Ok.skip ?_
      refine Ok.thenN ?_
      exact fun a W hA hW => ⟨(IntKind.wrap .i64 (Int.tdiv (IntKind.wrap .i64 ((IntKind.wrap .i64 (pb - pa)) * pt)) 1000)), hA.sub (by kernel_rfl), hW, hF⟩
  ·
    rintro a W ⟨x8j7, hA, hW, hF⟩
    refine (?_ : Ok _ _ _ _ _ _) a W hA hW
    clear hA hW
    refine Ok.seq ?_
    refine Ok.region ?_
    refine Ok.batch 4 [(6, .int .i64 (IntKind.wrap .i64 (pa + x8j7)))] (by kernel_rfl) ?_
    refine Ok.nil ?_
    refine Ok.thenN ?_
    refine Ok.ret ?_
    exact Ok.res1 (.inl rfl) rfl (.tmp rfl) ⟨IntKind.wrap .i64 (pa + x8j7), rfl, hF⟩
theorem part_F (a b t : Int) (h : wayP a b t) : partF a b t (fun r => r = partZ a b t) := by
  obtain ⟨⟨a1, a2⟩, ⟨b1, b2⟩, t1, t2⟩ := h
  unfold partF partj7 partZ
  rw [i64_in (b - a) (by omega)]
  obtain ⟨m1, m2⟩ := smul_bd (x := b - a) (m := 33554432) (by omega) (by omega) t1 t2 (by omega)
  generalize (b - a) * t = n at m1 m2 ⊢
  rw [i64_in n (by omega)]
  rcases Int.lt_or_le n 0 with hn | hn
  · obtain ⟨e1, e2⟩ := tdiv_neg1000 n hn
    rw [e1, e2, i64_in (-((-n) / 1000)) (by omega), i64_in (-((-n) / 1000) - 1) (by omega), i64_in _ (by omega), i64_in _ (by omega)]
    refine ⟨fun h => ?_, fun h => ?_⟩
    · have h := of_decide_eq_true h; omega
    · have h := of_decide_eq_false h; omega
  · rw [Int.tdiv_eq_ediv_of_nonneg hn, Int.tmod_eq_emod_of_nonneg hn, i64_in (n / 1000) (by omega), i64_in (n / 1000 - 1) (by omega), i64_in _ (by omega), i64_in _ (by omega)]
    refine ⟨fun h => ?_, fun _ => rfl⟩
    have h := of_decide_eq_true h; omega
set_option linter.unusedVariables false in
theorem part_c {g : Ghost} (xa : Int) (xb : Int) (xt : Int)  (hp : wayP xa xb xt) : CallsG Try.prog 44 #[.int .i64 xa, .int .i64 xb, .int .i64 xt] g (.int .i64 (partZ xa xb xt)) :=
  (part_ok xa xb xt _ (part_F xa xb xt hp)).gives (by rintro _ ⟨_, rfl, rfl⟩; rfl)
def cutF (pn : Int) (K : Int → Prop) : Prop :=
  K (if 16777216 < (if pn < (-16777216) then (-16777216) else pn) then 16777216 else (if pn < (-16777216) then (-16777216) else pn))
set_option maxHeartbeats 4000000 in
set_option maxRecDepth 100000 in
set_option linter.unusedVariables false in
theorem cut_ok {g : Ghost} (pn : Int) (K : Int → Prop)
    (hF : cutF pn K) : CallsK Try.prog 45 #[.int .i64 pn] g (fun v => ∃ r0 : Int, v = .int .i64 r0 ∧ K r0) := by
  refine CallsK.enter 6 [(0, .int .i64 pn)] Try.func45 rfl (by kernel_rfl) (by kernel_rfl) (by kernel_rfl) fun w0 => ?_
  refine Ok.seq ?_
  refine Ok.region ?_
  refine Ok.batch 1 [(0, .int .i64 pn)] (by kernel_rfl) ?_
  refine Ok.nil ?_
  refine Ok.thenN ?_
  refine Ok.seq ?_
  refine Ok.region ?_
  refine Ok.batch 4 [(2, .int .i64 (if 16777216 < (if pn < (-16777216) then (-16777216) else pn) then 16777216 else (if pn < (-16777216) then (-16777216) else pn)))] (by kernel_rfl) ?_
  refine Ok.nil ?_
  refine Ok.thenN ?_
  refine Ok.ret ?_
  exact Ok.res1 (.inl rfl) rfl (.tmp rfl) ⟨(if 16777216 < (if pn < (-16777216) then (-16777216) else pn) then 16777216 else (if pn < (-16777216) then (-16777216) else pn)), rfl, hF⟩
def cutI (n : Int) : Int := if n < -16777216 then -16777216 else if 16777216 < n then 16777216 else n
theorem cutI_bd (n : Int) : -16777216 ≤ cutI n ∧ cutI n ≤ 16777216 := by unfold cutI; split <;> (try split) <;> omega
theorem cut_F (n : Int) : cutF n (fun r => r = cutI n) := by
  unfold cutF cutI
  by_cases h : n < -16777216
  · simp [h]
  · simp [h]
set_option linter.unusedVariables false in
theorem cut_c {g : Ghost} (xn : Int)  : CallsG Try.prog 45 #[.int .i64 xn] g (.int .i64 (cutI xn)) :=
  (cut_ok xn _ (cut_F xn)).gives (by rintro _ ⟨_, rfl, rfl⟩; rfl)
def rcutF (pn : Int) (K : Int → Prop) : Prop :=
  K (if (-16777216) < (if 16777216 < pn then 16777216 else pn) then (if 16777216 < pn then 16777216 else pn) else (-16777216))
set_option maxHeartbeats 4000000 in
set_option maxRecDepth 100000 in
set_option linter.unusedVariables false in
theorem rcut_ok {g : Ghost} (pn : Int) (K : Int → Prop)
    (hF : rcutF pn K) : CallsK Try.prog 46 #[.int .i64 pn] g (fun v => ∃ r0 : Int, v = .int .i64 r0 ∧ K r0) := by
  refine CallsK.enter 6 [(0, .int .i64 pn)] Try.func46 rfl (by kernel_rfl) (by kernel_rfl) (by kernel_rfl) fun w0 => ?_
  refine Ok.seq ?_
  refine Ok.region ?_
  refine Ok.batch 1 [(0, .int .i64 pn)] (by kernel_rfl) ?_
  refine Ok.nil ?_
  refine Ok.thenN ?_
  refine Ok.seq ?_
  refine Ok.region ?_
  refine Ok.batch 4 [(2, .int .i64 (if (-16777216) < (if 16777216 < pn then 16777216 else pn) then (if 16777216 < pn then 16777216 else pn) else (-16777216)))] (by kernel_rfl) ?_
  refine Ok.nil ?_
  refine Ok.thenN ?_
  refine Ok.ret ?_
  exact Ok.res1 (.inl rfl) rfl (.tmp rfl) ⟨(if (-16777216) < (if 16777216 < pn then 16777216 else pn) then (if 16777216 < pn then 16777216 else pn) else (-16777216)), rfl, hF⟩
theorem rcut_F (n : Int) : rcutF n (fun r => r = cutI n) := by
  unfold rcutF cutI
  by_cases h : n < -16777216
  · rw [if_pos h, if_neg (by split <;> omega)]
  · rw [if_neg h]
    by_cases h2 : 16777216 < n
    · rw [if_pos h2, if_pos (by omega)]
    · rw [if_neg h2]; split <;> omega
set_option linter.unusedVariables false in
theorem rcut_c {g : Ghost} (xn : Int)  : CallsG Try.prog 46 #[.int .i64 xn] g (.int .i64 (cutI xn)) :=
  (rcut_ok xn _ (rcut_F xn)).gives (by rintro _ ⟨_, rfl, rfl⟩; rfl)
def wholej5 (K : Int → Prop) (x5j5 : Int) : Prop :=
  K x5j5
def wholeF (pn : Int) (pby : Int) (K : Int → Prop) : Prop :=
  pby ≠ 0 ∧ ((decide ((IntKind.wrap .i64 ((IntKind.wrap .i64 (Int.tdiv pn pby)) * pby)) > pn)) = true → wholej5 K (IntKind.wrap .i64 ((IntKind.wrap .i64 (Int.tdiv pn pby)) - 1))) ∧ ((decide ((IntKind.wrap .i64 ((IntKind.wrap .i64 (Int.tdiv pn pby)) * pby)) > pn)) = false → wholej5 K (IntKind.wrap .i64 (Int.tdiv pn pby)))
set_option maxHeartbeats 4000000 in
set_option maxRecDepth 100000 in
set_option linter.unusedVariables false in
theorem whole_ok {g : Ghost} (pn : Int) (pby : Int) (K : Int → Prop)
    (hF : wholeF pn pby K) : CallsK Try.prog 47 #[.int .i64 pn, .int .i64 pby] g (fun v => ∃ r0 : Int, v = .int .i64 r0 ∧ K r0) := by
  refine CallsK.enter 17 [(0, .int .i64 pn), (1, .int .i64 pby)] Try.func47 rfl (by kernel_rfl) (by kernel_rfl) (by kernel_rfl) fun w0 => ?_
  refine Ok.seq ?_
  refine Ok.region ?_
  refine Ok.batch 1 [(0, .int .i64 pn), (1, .int .i64 pby)] (by kernel_rfl) ?_
  refine Ok.nil ?_
  refine Ok.thenN ?_
  refine Ok.seq ?_
  refine Ok.region ?_
  refine Ok.batch 2 [(0, .int .i64 pn), (1, .int .i64 pby), (6, .int .i64 pn), (7, .int .i64 pby)] (by kernel_rfl) ?_
  obtain ⟨hv, hF⟩ := hF
  refine Ok.op rfl (OpOk.step (v := .int .i64 (IntKind.wrap .i64 (Int.tdiv pn pby))) (Yields.quo rfl rfl hv) rfl rfl ?_)
  refine Ok.batch 1 [(0, .int .i64 pn), (1, .int .i64 pby), (5, .int .i64 (IntKind.wrap .i64 (Int.tdiv pn pby)))] (by kernel_rfl) ?_
  refine Ok.nil ?_
  refine Ok.thenN ?_
  refine Ok.cut (fun a W => ∃ (x5j5 : Int), StA 17 [(5, .int .i64 x5j5)] a ∧ StW w0 [] g W ∧ wholej5 K x5j5) ?_ ?_
  ·
    refine Ok.seq ?_
    refine Ok.region ?_
    refine Ok.batch 5 [(5, .int .i64 (IntKind.wrap .i64 (Int.tdiv pn pby))), (13, .bool (decide ((IntKind.wrap .i64 ((IntKind.wrap .i64 (Int.tdiv pn pby)) * pby)) > pn)))] (by kernel_rfl) ?_
    refine Ok.nil ?_
    refine Ok.thenN ?_
    refine Ok.cond (b := decide ((IntKind.wrap .i64 ((IntKind.wrap .i64 (Int.tdiv pn pby)) * pby)) > pn)) rfl (fun hc => ?_) (fun hc => ?_)
    · replace hF := hF.1 hc
      refine Ok.region ?_
      refine Ok.batch 3 [(5, .int .i64 (IntKind.wrap .i64 ((IntKind.wrap .i64 (Int.tdiv pn pby)) - 1)))] (by kernel_rfl) ?_
      refine Ok.nil ?_
      refine Ok.thenN ?_
      exact fun a W hA hW => ⟨(IntKind.wrap .i64 ((IntKind.wrap .i64 (Int.tdiv pn pby)) - 1)), hA.sub (by kernel_rfl), hW, hF⟩
    · replace hF := hF.2 hc
      refine Ok.skip ?_
      refine Ok.thenN ?_
      exact fun a W hA hW => ⟨(IntKind.wrap .i64 (Int.tdiv pn pby)), hA.sub (by kernel_rfl), hW, hF⟩
  ·
    rintro a W ⟨x5j5, hA, hW, hF⟩
    refine (?_ : Ok _ _ _ _ _ _) a W hA hW
    clear hA hW
    refine Ok.seq ?_
    refine Ok.region ?_
    refine Ok.batch 2 [(4, .int .i64 x5j5)] (by kernel_rfl) ?_
    refine Ok.nil ?_
    refine Ok.thenN ?_
    refine Ok.ret ?_
    exact Ok.res1 (.inl rfl) rfl (.tmp rfl) ⟨x5j5, rfl, hF⟩
def wholeP (n d : Int) : Prop := (-100000000000 ≤ n ∧ n ≤ 100000000000) ∧ d = 1000
def wholeI (n d : Int) : Int := n / d
theorem whole_F (n d : Int) (h : wholeP n d) : wholeF n d (fun r => r = wholeI n d) := by
  obtain ⟨⟨h1, h2⟩, rfl⟩ := h
  unfold wholeF wholej5 wholeI
  rcases Int.lt_or_le n 0 with hn | hn
  · obtain ⟨e1, -⟩ := tdiv_neg1000 n hn
    rw [e1, i64_in (-((-n) / 1000)) (by omega), i64_in (-((-n) / 1000) - 1) (by omega), i64_in (_ * _) (by omega)]
    refine ⟨by omega, fun h => ?_, fun h => ?_⟩
    · have h := of_decide_eq_true h; omega
    · have h := of_decide_eq_false h; omega
  · rw [Int.tdiv_eq_ediv_of_nonneg hn, i64_in (n / 1000) (by omega), i64_in (n / 1000 - 1) (by omega), i64_in (_ * _) (by omega)]
    refine ⟨by omega, fun h => ?_, fun _ => rfl⟩
    have h := of_decide_eq_true h; omega
set_option linter.unusedVariables false in
theorem whole_c {g : Ghost} (xn : Int) (xby : Int)  (hp : wholeP xn xby) : CallsG Try.prog 47 #[.int .i64 xn, .int .i64 xby] g (.int .i64 (wholeI xn xby)) :=
  (whole_ok xn xby _ (whole_F xn xby hp)).gives (by rintro _ ⟨_, rfl, rfl⟩; rfl)
/-! ### the bytes of a color -/
def byt (c : Int) (i : Nat) : Int := c % 4294967296 / 2 ^ (8 * i) % 256
theorem byt_bd (c : Int) (i : Nat) : 0 ≤ byt c i ∧ byt c i ≤ 255 := by unfold byt; omega
theorem wrap_u32 (c : Int) : IntKind.wrap .u32 c = c % 4294967296 := by simp [IntKind.wrap, IntKind.bits, IntKind.signed]
theorem wrap_u64 {c : Int} (h : 0 ≤ c) (h2 : c ≤ 9223372036854775807) : IntKind.wrap .u64 c = c := by simp [IntKind.wrap, IntKind.bits, IntKind.signed]; omega
theorem shr_u32 {c : Int} {k : Nat} (hk : k ≤ 32) : shrI .u32 (IntKind.wrap .u32 c) (k : Int) = c % 4294967296 / 2 ^ k := by
  unfold shrI
  have e : min (k : Int).toNat IntKind.u32.bits = k := by simp [IntKind.bits]; omega
  rw [wrap_u32, e, Int.fdiv_eq_ediv_of_nonneg _ (Int.le_of_lt (Int.pow_pos (by omega)))]
theorem and_255 (x : Int) (h0 : 0 ≤ x) (h1 : x < 4294967296) : bitAnd .u32 x 255 = x % 256 := by
  obtain ⟨n, rfl⟩ := Int.eq_ofNat_of_zero_le h0
  unfold bitAnd
  show IntKind.wrap .u32 ((BitVec.ofInt 32 (n : Int) &&& BitVec.ofInt 32 255).toNat : Int) = _
  have e : (BitVec.ofInt 32 (n : Int) &&& BitVec.ofInt 32 255).toNat = n % 256 := by
    rw [BitVec.toNat_and]
    have e1 : (BitVec.ofInt 32 (n : Int)).toNat = n := by simp; omega
    have e2 : (BitVec.ofInt 32 255).toNat = 255 := rfl
    rw [e1, e2]
    exact Nat.and_two_pow_sub_one_eq_mod n 8
  rw [e, wrap_u32]; omega
theorem pbyte (c : Int) (k : Nat) (hk : k ≤ 3) : IntKind.wrap .i64 (bitAnd .u32 (shrI .u32 (IntKind.wrap .u32 c) ((8 * k : Nat) : Int)) 255) = byt c k := by
  rw [shr_u32 (by omega)]
  have hp : (0 : Int) < 2 ^ (8 * k) := Int.pow_pos (by omega)
  have h0 : 0 ≤ c % 4294967296 / 2 ^ (8 * k) := Int.ediv_nonneg (by omega) (Int.le_of_lt hp)
  have h1 : c % 4294967296 / 2 ^ (8 * k) ≤ c % 4294967296 := Int.ediv_le_self _ (by omega)
  rw [and_255 _ h0 (by omega), i64_in _ (by omega)]
  rfl
def byteP (_c i : Int) : Prop := 0 ≤ i ∧ i ≤ 3
def byteI (c i : Int) : Int := byt c i.toNat
def byteF (pc : Int) (pi : Int) (K : Int → Prop) : Prop :=
  (0 : Int) ≤ (IntKind.wrap .u64 (IntKind.wrap .i64 (8 * pi))) ∧ K (Int.tmod (IntKind.wrap .i64 (shrI .u32 (IntKind.wrap .u32 pc) (IntKind.wrap .u64 (IntKind.wrap .i64 (8 * pi))))) 256)
set_option maxHeartbeats 4000000 in
set_option maxRecDepth 100000 in
set_option linter.unusedVariables false in
theorem byte_ok {g : Ghost} (pc : Int) (pi : Int) (K : Int → Prop)
    (hF : byteF pc pi K) : CallsK Try.prog 48 #[.int .i64 pc, .int .i64 pi] g (fun v => ∃ r0 : Int, v = .int .i64 r0 ∧ K r0) := by
  refine CallsK.enter 13 [(0, .int .i64 pc), (1, .int .i64 pi)] Try.func48 rfl (by kernel_rfl) (by kernel_rfl) (by kernel_rfl) fun w0 => ?_
  refine Ok.seq ?_
  refine Ok.region ?_
  refine Ok.batch 1 [(0, .int .i64 pc), (1, .int .i64 pi)] (by kernel_rfl) ?_
  refine Ok.nil ?_
  refine Ok.thenN ?_
  refine Ok.seq ?_
  refine Ok.region ?_
  refine Ok.batch 5 [(6, .int .u32 (IntKind.wrap .u32 pc)), (9, .int .u64 (IntKind.wrap .u64 (IntKind.wrap .i64 (8 * pi))))] (by kernel_rfl) ?_
  obtain ⟨hv, hF⟩ := hF
  refine Ok.op rfl (OpOk.step (v := .int .u32 (shrI .u32 (IntKind.wrap .u32 pc) (IntKind.wrap .u64 (IntKind.wrap .i64 (8 * pi))))) (Yields.shr rfl rfl hv) rfl rfl ?_)
  refine Ok.batch 3 [(4, .int .i64 (Int.tmod (IntKind.wrap .i64 (shrI .u32 (IntKind.wrap .u32 pc) (IntKind.wrap .u64 (IntKind.wrap .i64 (8 * pi))))) 256))] (by kernel_rfl) ?_
  refine Ok.nil ?_
  refine Ok.thenN ?_
  refine Ok.ret ?_
  exact Ok.res1 (.inl rfl) rfl (.tmp rfl) ⟨Int.tmod (IntKind.wrap .i64 (shrI .u32 (IntKind.wrap .u32 pc) (IntKind.wrap .u64 (IntKind.wrap .i64 (8 * pi))))) 256, rfl, hF⟩
theorem byte_F (c i : Int) (h : byteP c i) : byteF c i (fun r => r = byteI c i) := by
  obtain ⟨h0, h3⟩ := h
  obtain ⟨k, rfl⟩ := Int.eq_ofNat_of_zero_le h0
  unfold byteF byteI
  rw [i64_in (8 * (k : Int)) (by omega), wrap_u64 (by omega) (by omega), show (8 * (k : Int)) = ((8 * k : Nat) : Int) from by omega, shr_u32 (by omega)]
  have hp : (0 : Int) < 2 ^ (8 * k) := Int.pow_pos (by omega)
  have g0 : 0 ≤ c % 4294967296 / 2 ^ (8 * k) := Int.ediv_nonneg (by omega) (Int.le_of_lt hp)
  have g1 : c % 4294967296 / 2 ^ (8 * k) ≤ c % 4294967296 := Int.ediv_le_self _ (by omega)
  refine ⟨by omega, ?_⟩
  rw [i64_in _ (by omega), Int.tmod_eq_emod_of_nonneg g0]
  rfl
set_option linter.unusedVariables false in
theorem byte_c {g : Ghost} (xc : Int) (xi : Int)  (hp : byteP xc xi) : CallsG Try.prog 48 #[.int .i64 xc, .int .i64 xi] g (.int .i64 (byteI xc xi)) :=
  (byte_ok xc xi _ (byte_F xc xi hp)).gives (by rintro _ ⟨_, rfl, rfl⟩; rfl)
/-! ### the mix -/
def clampT (t : Int) : Int := if t < 0 then 0 else if 1000 < t then 1000 else t
theorem clamp1 (t : Int) : (if 1000 < (if t < 0 then 0 else t) then 1000 else (if t < 0 then 0 else t)) = clampT t := by
  unfold clampT; split <;> simp
theorem clamp2 (t : Int) : (if 0 < (if 1000 < t then 1000 else t) then (if 1000 < t then 1000 else t) else 0) = clampT t := by
  unfold clampT
  by_cases h : t < 0
  · rw [if_pos h, if_neg (by split <;> omega)]
  · rw [if_neg h]
    by_cases h2 : 1000 < t
    · rw [if_pos h2, if_pos (by omega)]
    · rw [if_neg h2]; split <;> omega
theorem clamp_bd (t : Int) : 0 ≤ clampT t ∧ clampT t ≤ 1000 := by unfold clampT; split <;> (try split) <;> omega
def mixB (a b t : Int) (i : Nat) : Int := partZ (byt a i) (byt b i) t
theorem mixB_bd (a b t : Int) (i : Nat) (h0 : 0 ≤ t) (h1 : t ≤ 1000) : 0 ≤ mixB a b t i ∧ mixB a b t i ≤ 255 := by
  unfold mixB partZ
  have ha := byt_bd a i
  have hb := byt_bd b i
  generalize byt a i = x at *
  generalize byt b i = y at *
  rcases Int.le_total x y with h | h
  · have g1 := Int.mul_le_mul_of_nonneg_left h1 (show 0 ≤ y - x by omega)
    have g2 := Int.mul_nonneg (show 0 ≤ y - x by omega) h0
    omega
  · have g1 := Int.mul_le_mul_of_nonneg_left h1 (show 0 ≤ x - y by omega)
    have g2 := Int.mul_nonneg (show 0 ≤ x - y by omega) h0
    have e : (y - x) * t = -((x - y) * t) := by rw [← Int.neg_mul]; congr 1; omega
    omega
def mixC (a b t : Int) : Int := ((mixB a b t 3 * 256 + mixB a b t 2) * 256 + mixB a b t 1) * 256 + mixB a b t 0
abbrev V := Int × Int
def mixV (a b : V) (t : Int) : V :=
  if a.1 = b.1 ∧ (2 ≤ a.1 ∧ a.1 ≤ 4) then (a.1, partZ (cutI a.2) (cutI b.2) (clampT t)) else if a.1 = 5 ∧ b.1 = 5 then (5, mixC a.2 b.2 (clampT t)) else if clampT t < 500 then a else b
theorem or_byte {n x : Int} (h0 : 0 ≤ n) (h1 : n < 16777216) (g0 : 0 ≤ x) (g1 : x ≤ 255) : bitOr .i64 (IntKind.wrap .i64 (n * 2 ^ 8)) x = n * 256 + x := by
  obtain ⟨n, rfl⟩ := Int.eq_ofNat_of_zero_le h0
  obtain ⟨x, rfl⟩ := Int.eq_ofNat_of_zero_le g0
  have e0 : (n : Int) * 2 ^ 8 = ((n * 256 : Nat) : Int) := by omega
  rw [e0, i64_in _ (by omega)]
  unfold bitOr
  show IntKind.wrap .i64 ((BitVec.ofInt 64 ((n * 256 : Nat) : Int) ||| BitVec.ofInt 64 (x : Int)).toNat : Int) = _
  have e : (BitVec.ofInt 64 ((n * 256 : Nat) : Int) ||| BitVec.ofInt 64 (x : Int)).toNat = n * 256 + x := by
    rw [BitVec.toNat_or]
    have e1 : (BitVec.ofInt 64 ((n * 256 : Nat) : Int)).toNat = n * 256 := by simp [BitVec.toNat_ofInt]; omega
    have e2 : (BitVec.ofInt 64 (x : Int)).toNat = x := by simp; omega
    rw [e1, e2]
    have := Nat.two_pow_add_eq_or_of_lt (i := 8) (b := x) (by omega) n
    rw [show n * 256 = 2 ^ 8 * n from by omega, ← this]
  rw [e, i64_in _ (by omega)]
  omega
def mixl22b (pa_N : Int) (pb_N : Int) (pt : Int) (K : Int → Int → Prop) (x7l22 : Int) (x8l22 : Int) (C22 : Int → Int → Prop) : Prop :=
  ((decide (x8l22 ≥ 0)) = true → (0 : Int) ≤ x8l22 ∧ (0 : Int) ≤ x8l22 ∧ wayP (IntKind.wrap .i64 (bitAnd .u32 (shrI .u32 (IntKind.wrap .u32 pa_N) x8l22) 255)) (IntKind.wrap .i64 (bitAnd .u32 (shrI .u32 (IntKind.wrap .u32 pb_N) x8l22) 255)) (if 1000 < (if pt < 0 then 0 else pt) then 1000 else (if pt < 0 then 0 else pt)) ∧ C22 (bitOr .i64 (IntKind.wrap .i64 (x7l22 * 2 ^ 8)) (partZ (IntKind.wrap .i64 (bitAnd .u32 (shrI .u32 (IntKind.wrap .u32 pa_N) x8l22) 255)) (IntKind.wrap .i64 (bitAnd .u32 (shrI .u32 (IntKind.wrap .u32 pb_N) x8l22) 255)) (if 1000 < (if pt < 0 then 0 else pt) then 1000 else (if pt < 0 then 0 else pt)))) (IntKind.wrap .i64 (x8l22 - 8))) ∧ ((decide (x8l22 ≥ 0)) = false → K 5 x7l22)
def mixl22 (pa_N : Int) (pb_N : Int) (pt : Int) (K : Int → Int → Prop) : Nat → Int → Int → Prop
  | 0, _, _ => False
  | k + 1, x7l22, x8l22 => mixl22b pa_N pb_N pt K x7l22 x8l22 (mixl22 pa_N pb_N pt K k)
def mixj13 (pa_Kind : Int) (pa_N : Int) (pb_Kind : Int) (pb_N : Int) (pt : Int) (K : Int → Int → Prop) (x34j13 : Bool) : Prop :=
  ((x34j13) = true → ∃ k, mixl22 pa_N pb_N pt K k 0 24) ∧ ((x34j13) = false → ((decide ((if 1000 < (if pt < 0 then 0 else pt) then 1000 else (if pt < 0 then 0 else pt)) < 500)) = true → K pa_Kind pa_N) ∧ ((decide ((if 1000 < (if pt < 0 then 0 else pt) then 1000 else (if pt < 0 then 0 else pt)) < 500)) = false → K pb_Kind pb_N))
def mixj7 (pa_Kind : Int) (pa_N : Int) (pb_Kind : Int) (pb_N : Int) (pt : Int) (K : Int → Int → Prop) (x12j7 : Bool) : Prop :=
  ((x12j7) = true → wayP (cutI pa_N) (cutI pb_N) (if 1000 < (if pt < 0 then 0 else pt) then 1000 else (if pt < 0 then 0 else pt)) ∧ K pa_Kind (partZ (cutI pa_N) (cutI pb_N) (if 1000 < (if pt < 0 then 0 else pt) then 1000 else (if pt < 0 then 0 else pt)))) ∧ ((x12j7) = false → (((pa_Kind == 5)) = true → mixj13 pa_Kind pa_N pb_Kind pb_N pt K (pb_Kind == 5)) ∧ (((pa_Kind == 5)) = false → mixj13 pa_Kind pa_N pb_Kind pb_N pt K false))
def mixF (pa_Kind : Int) (pa_N : Int) (pb_Kind : Int) (pb_N : Int) (pt : Int) (K : Int → Int → Prop) : Prop :=
  (((pa_Kind == pb_Kind)) = true → mixj7 pa_Kind pa_N pb_Kind pb_N pt K (inB pa_Kind 2 4)) ∧ (((pa_Kind == pb_Kind)) = false → mixj7 pa_Kind pa_N pb_Kind pb_N pt K false)
set_option maxHeartbeats 4000000 in
set_option maxRecDepth 100000 in
set_option linter.unusedVariables false in
theorem mix_ok {g : Ghost} (pa_Kind : Int) (pa_N : Int) (pb_Kind : Int) (pb_N : Int) (pt : Int) (K : Int → Int → Prop)
    (hF : mixF pa_Kind pa_N pb_Kind pb_N pt K) : CallsK Try.prog 23 #[.agg #[.int .i64 pa_Kind, .int .i64 pa_N], .agg #[.int .i64 pb_Kind, .int .i64 pb_N], .int .i64 pt] g (fun v => ∃ r0 : Int, ∃ r1 : Int, v = .agg #[.int .i64 r0, .int .i64 r1] ∧ K r0 r1) := by
  refine CallsK.enter 73 [(0, .agg #[.int .i64 pa_Kind, .int .i64 pa_N]), (1, .agg #[.int .i64 pb_Kind, .int .i64 pb_N]), (2, .int .i64 pt)] Try.func23 rfl (by kernel_rfl) (by kernel_rfl) (by kernel_rfl) fun w0 => ?_
  refine Ok.seq ?_
  refine Ok.region ?_
  refine Ok.op rfl (OpOk.box (v := .agg #[.int .i64 pa_Kind, .int .i64 pa_N]) (cs := #[.int .i64 pa_Kind, .int .i64 pa_N]) rfl (by kernel_rfl) rfl fun b1 => ?_)
  refine Ok.op rfl (OpOk.box (v := .agg #[.int .i64 pb_Kind, .int .i64 pb_N]) (cs := #[.int .i64 pb_Kind, .int .i64 pb_N]) rfl (by kernel_rfl) rfl fun b2 => ?_)
  refine Ok.op rfl (OpOk.alloc (z := .agg #[.int .i64 0, .int .i64 0]) (cs := #[.int .i64 0, .int .i64 0]) (by kernel_rfl) (by kernel_rfl) rfl fun b3 => ?_)
  refine Ok.nil ?_
  refine Ok.thenN ?_
  refine Ok.seq ?_
  refine Ok.region ?_
  refine Ok.batch 4 [(2, .int .i64 (if 1000 < (if pt < 0 then 0 else pt) then 1000 else (if pt < 0 then 0 else pt))), (3, .pointer (some ⟨b1, 0, none⟩)), (4, .pointer (some ⟨b2, 0, none⟩)), (6, .pointer (some ⟨b3, 0, none⟩))] (by kernel_rfl) ?_
  refine Ok.nil ?_
  refine Ok.thenN ?_
  refine Ok.seq ?_
  refine Ok.block ?_
  refine Ok.cut (fun a W => ∃ (x12j7 : Bool), StA 73 [(2, .int .i64 (if 1000 < (if pt < 0 then 0 else pt) then 1000 else (if pt < 0 then 0 else pt))), (3, .pointer (some ⟨b1, 0, none⟩)), (4, .pointer (some ⟨b2, 0, none⟩)), (6, .pointer (some ⟨b3, 0, none⟩)), (12, .bool x12j7)] a ∧ StW w0 [.blk b3 (.cells #[.int .i64 0, .int .i64 0] 44), .blk b2 (.cells #[.int .i64 pb_Kind, .int .i64 pb_N] 44), .blk b1 (.cells #[.int .i64 pa_Kind, .int .i64 pa_N] 44)] g W ∧ mixj7 pa_Kind pa_N pb_Kind pb_N pt K x12j7) ?_ ?_
  ·
    refine Ok.region ?_
    refine Ok.batch 1 [(2, .int .i64 (if 1000 < (if pt < 0 then 0 else pt) then 1000 else (if pt < 0 then 0 else pt))), (3, .pointer (some ⟨b1, 0, none⟩)), (4, .pointer (some ⟨b2, 0, none⟩)), (6, .pointer (some ⟨b3, 0, none⟩)), (13, .pointer (some ⟨b1, 0, none⟩))] (by kernel_rfl) ?_
    refine Ok.op rfl (OpOk.step (v := .int .i64 pa_Kind) (Yields.load 2 rfl rfl Try.underlying3 rfl (by kernel_rfl)) rfl rfl ?_)
    refine Ok.batch 1 [(2, .int .i64 (if 1000 < (if pt < 0 then 0 else pt) then 1000 else (if pt < 0 then 0 else pt))), (3, .pointer (some ⟨b1, 0, none⟩)), (4, .pointer (some ⟨b2, 0, none⟩)), (6, .pointer (some ⟨b3, 0, none⟩)), (14, .int .i64 pa_Kind), (15, .pointer (some ⟨b2, 0, none⟩))] (by kernel_rfl) ?_
    refine Ok.op rfl (OpOk.step (v := .int .i64 pb_Kind) (Yields.load 1 rfl rfl Try.underlying3 rfl (by kernel_rfl)) rfl rfl ?_)
    refine Ok.batch 2 [(2, .int .i64 (if 1000 < (if pt < 0 then 0 else pt) then 1000 else (if pt < 0 then 0 else pt))), (3, .pointer (some ⟨b1, 0, none⟩)), (4, .pointer (some ⟨b2, 0, none⟩)), (6, .pointer (some ⟨b3, 0, none⟩)), (18, .bool (pa_Kind == pb_Kind))] (by kernel_rfl) ?_
    refine Ok.boolAt 18 ((pa_Kind == pb_Kind)) rfl (fun hc => ?_) (fun hc => ?_)
    · replace hF := hF.1 hc
      refine Ok.batch 1 [(2, .int .i64 (if 1000 < (if pt < 0 then 0 else pt) then 1000 else (if pt < 0 then 0 else pt))), (3, .pointer (some ⟨b1, 0, none⟩)), (4, .pointer (some ⟨b2, 0, none⟩)), (6, .pointer (some ⟨b3, 0, none⟩)), (18, .bool true), (19, .pointer (some ⟨b1, 0, none⟩))] (by kernel_rfl) ?_
      refine Ok.opYes (j := 5) (d := 18) (want := true) (b := true) rfl (by kernel_rfl) (by kernel_rfl) rfl (OpOk.step (v := .int .i64 pa_Kind) (Yields.load 2 rfl rfl Try.underlying3 rfl (by kernel_rfl)) rfl rfl ?_)
      refine Ok.opYes (j := 5) (d := 18) (want := true) (b := true) rfl (by kernel_rfl) (by kernel_rfl) rfl (OpOk.call (v := .bool (inB pa_Kind 2 4)) (enters (by kernel_rfl) (fun _ => by kernel_rfl)) (in_c pa_Kind 2 4) rfl rfl ?_)
      refine Ok.batch 2 [(2, .int .i64 (if 1000 < (if pt < 0 then 0 else pt) then 1000 else (if pt < 0 then 0 else pt))), (3, .pointer (some ⟨b1, 0, none⟩)), (4, .pointer (some ⟨b2, 0, none⟩)), (6, .pointer (some ⟨b3, 0, none⟩)), (12, .bool (inB pa_Kind 2 4))] (by kernel_rfl) ?_
      refine Ok.nil ?_
      refine Ok.thenN ?_
      exact fun a W hA hW => ⟨(inB pa_Kind 2 4), hA.sub (by kernel_rfl), hW, hF⟩
    · replace hF := hF.2 hc
      refine Ok.batch 5 [(2, .int .i64 (if 1000 < (if pt < 0 then 0 else pt) then 1000 else (if pt < 0 then 0 else pt))), (3, .pointer (some ⟨b1, 0, none⟩)), (4, .pointer (some ⟨b2, 0, none⟩)), (6, .pointer (some ⟨b3, 0, none⟩)), (12, .bool false)] (by kernel_rfl) ?_
      refine Ok.nil ?_
      refine Ok.thenN ?_
      exact fun a W hA hW => ⟨false, hA.sub (by kernel_rfl), hW, hF⟩
  ·
    rintro a W ⟨x12j7, hA, hW, hF⟩
    refine (?_ : Ok _ _ _ _ _ _) a W hA hW
    clear hA hW
    refine Ok.cond (b := x12j7) rfl (fun hc => ?_) (fun hc => ?_)
    · replace hF := hF.1 hc
      refine Ok.seq ?_
      refine Ok.mix [.blk b2 (.cells #[.int .i64 pb_Kind, .int .i64 pb_N] 44), .blk b1 (.cells #[.int .i64 pa_Kind, .int .i64 pa_N] 44)] [(0, true), (1, true), (2, true), (3, true), (4, true), (5, true), (6, true), (7, true), (8, true), (9, true), (10, true), (11, false)] (by kernel_rfl) (by kernel_rfl) (.cons _ (.cons_cons _ (.cons_cons _ .slnil))) ?_
      refine OkM.batch 1 [(2, .int .i64 (if 1000 < (if pt < 0 then 0 else pt) then 1000 else (if pt < 0 then 0 else pt))), (3, .pointer (some ⟨b1, 0, none⟩)), (4, .pointer (some ⟨b2, 0, none⟩)), (6, .pointer (some ⟨b3, 0, none⟩)), (23, .pointer (some ⟨b1, 0, none⟩))] (by kernel_rfl) ?_
      refine OkM.head rfl rfl (OpQ.step (v := .int .i64 pa_Kind) (Yields.load 1 rfl rfl Try.underlying3 rfl (by kernel_rfl)) rfl rfl ?_)
      refine OkM.batch 1 [(2, .int .i64 (if 1000 < (if pt < 0 then 0 else pt) then 1000 else (if pt < 0 then 0 else pt))), (4, .pointer (some ⟨b2, 0, none⟩)), (6, .pointer (some ⟨b3, 0, none⟩)), (24, .int .i64 pa_Kind), (25, .pointer (some ⟨b1, 1, none⟩))] (by kernel_rfl) ?_
      refine OkM.head rfl rfl (OpQ.step (v := .int .i64 pa_N) (Yields.load 1 rfl rfl Try.underlying3 rfl (by kernel_rfl)) rfl rfl ?_)
      refine OkM.head rfl rfl (OpQ.call (v := .int .i64 (cutI pa_N)) (enters (by kernel_rfl) (fun _ => by kernel_rfl)) (cut_c pa_N) rfl rfl ?_)
      refine OkM.batch 1 [(2, .int .i64 (if 1000 < (if pt < 0 then 0 else pt) then 1000 else (if pt < 0 then 0 else pt))), (6, .pointer (some ⟨b3, 0, none⟩)), (24, .int .i64 pa_Kind), (27, .int .i64 (cutI pa_N)), (28, .pointer (some ⟨b2, 1, none⟩))] (by kernel_rfl) ?_
      refine OkM.head rfl rfl (OpQ.step (v := .int .i64 pb_N) (Yields.load 0 rfl rfl Try.underlying3 rfl (by kernel_rfl)) rfl rfl ?_)
      refine OkM.head rfl rfl (OpQ.call (v := .int .i64 (cutI pb_N)) (enters (by kernel_rfl) (fun _ => by kernel_rfl)) (cut_c pb_N) rfl rfl ?_)
      refine OkM.batch 1 [(6, .pointer (some ⟨b3, 0, none⟩)), (24, .int .i64 pa_Kind), (27, .int .i64 (cutI pa_N)), (30, .int .i64 (cutI pb_N)), (31, .int .i64 (if 1000 < (if pt < 0 then 0 else pt) then 1000 else (if pt < 0 then 0 else pt)))] (by kernel_rfl) ?_
      obtain ⟨hp, hF⟩ := hF
      refine OkM.head rfl rfl (OpQ.call (v := .int .i64 (partZ (cutI pa_N) (cutI pb_N) (if 1000 < (if pt < 0 then 0 else pt) then 1000 else (if pt < 0 then 0 else pt)))) (enters (by kernel_rfl) (fun _ => by kernel_rfl)) (part_c (cutI pa_N) (cutI pb_N) (if 1000 < (if pt < 0 then 0 else pt) then 1000 else (if pt < 0 then 0 else pt)) hp) rfl rfl ?_)
      refine OkM.batch 1 [(6, .pointer (some ⟨b3, 0, none⟩)), (33, .agg #[.int .i64 pa_Kind, .int .i64 (partZ (cutI pa_N) (cutI pb_N) (if 1000 < (if pt < 0 then 0 else pt) then 1000 else (if pt < 0 then 0 else pt)))])] (by kernel_rfl) ?_
      refine OkM.tail rfl rfl (OpOk.store (k := 2) (v := .agg #[.int .i64 pa_Kind, .int .i64 (partZ (cutI pa_N) (cutI pb_N) (if 1000 < (if pt < 0 then 0 else pt) then 1000 else (if pt < 0 then 0 else pt)))]) (H' := [.blk b3 (.cells #[.int .i64 pa_Kind, .int .i64 (partZ (cutI pa_N) (cutI pb_N) (if 1000 < (if pt < 0 then 0 else pt) then 1000 else (if pt < 0 then 0 else pt)))] 44), .blk b2 (.cells #[.int .i64 pb_Kind, .int .i64 pb_N] 44), .blk b1 (.cells #[.int .i64 pa_Kind, .int .i64 pa_N] 44)]) 0 rfl rfl rfl (by kernel_rfl) (by kernel_rfl) (by kernel_rfl) (by kernel_rfl) (by kernel_rfl) ?_)
      refine OkM.leaf (.cons _ (.cons_cons _ (.cons_cons _ .slnil))) ?_
      refine OkM.nil ?_
      refine Ok.thenN ?_
      refine Ok.ret ?_
      refine Ok.blockR ?_
      refine Ok.thenR ?_
      exact Ok.res1 (.inl rfl) rfl (.cellAgg 0 2 #[.int .i64 pa_Kind, .int .i64 (partZ (cutI pa_N) (cutI pb_N) (if 1000 < (if pt < 0 then 0 else pt) then 1000 else (if pt < 0 then 0 else pt)))] rfl rfl Try.underlying44 rfl (by kernel_rfl) (by kernel_rfl) (by kernel_rfl)) ⟨pa_Kind, partZ (cutI pa_N) (cutI pb_N) (if 1000 < (if pt < 0 then 0 else pt) then 1000 else (if pt < 0 then 0 else pt)), rfl, hF⟩
    · replace hF := hF.2 hc
      refine Ok.cut (fun a W => ∃ (x34j13 : Bool), StA 73 [(2, .int .i64 (if 1000 < (if pt < 0 then 0 else pt) then 1000 else (if pt < 0 then 0 else pt))), (3, .pointer (some ⟨b1, 0, none⟩)), (4, .pointer (some ⟨b2, 0, none⟩)), (6, .pointer (some ⟨b3, 0, none⟩)), (34, .bool x34j13)] a ∧ StW w0 [.blk b3 (.cells #[.int .i64 0, .int .i64 0] 44), .blk b2 (.cells #[.int .i64 pb_Kind, .int .i64 pb_N] 44), .blk b1 (.cells #[.int .i64 pa_Kind, .int .i64 pa_N] 44)] g W ∧ mixj13 pa_Kind pa_N pb_Kind pb_N pt K x34j13) ?_ ?_
      ·
        refine Ok.region ?_
        refine Ok.batch 1 [(2, .int .i64 (if 1000 < (if pt < 0 then 0 else pt) then 1000 else (if pt < 0 then 0 else pt))), (3, .pointer (some ⟨b1, 0, none⟩)), (4, .pointer (some ⟨b2, 0, none⟩)), (6, .pointer (some ⟨b3, 0, none⟩)), (35, .pointer (some ⟨b1, 0, none⟩))] (by kernel_rfl) ?_
        refine Ok.op rfl (OpOk.step (v := .int .i64 pa_Kind) (Yields.load 2 rfl rfl Try.underlying3 rfl (by kernel_rfl)) rfl rfl ?_)
        refine Ok.batch 2 [(2, .int .i64 (if 1000 < (if pt < 0 then 0 else pt) then 1000 else (if pt < 0 then 0 else pt))), (3, .pointer (some ⟨b1, 0, none⟩)), (4, .pointer (some ⟨b2, 0, none⟩)), (6, .pointer (some ⟨b3, 0, none⟩)), (38, .bool (pa_Kind == 5))] (by kernel_rfl) ?_
        refine Ok.boolAt 38 ((pa_Kind == 5)) rfl (fun hc => ?_) (fun hc => ?_)
        · replace hF := hF.1 hc
          refine Ok.batch 1 [(2, .int .i64 (if 1000 < (if pt < 0 then 0 else pt) then 1000 else (if pt < 0 then 0 else pt))), (3, .pointer (some ⟨b1, 0, none⟩)), (4, .pointer (some ⟨b2, 0, none⟩)), (6, .pointer (some ⟨b3, 0, none⟩)), (38, .bool true), (39, .pointer (some ⟨b2, 0, none⟩))] (by kernel_rfl) ?_
          refine Ok.opYes (j := 3) (d := 38) (want := true) (b := true) rfl (by kernel_rfl) (by kernel_rfl) rfl (OpOk.step (v := .int .i64 pb_Kind) (Yields.load 1 rfl rfl Try.underlying3 rfl (by kernel_rfl)) rfl rfl ?_)
          refine Ok.batch 3 [(2, .int .i64 (if 1000 < (if pt < 0 then 0 else pt) then 1000 else (if pt < 0 then 0 else pt))), (3, .pointer (some ⟨b1, 0, none⟩)), (4, .pointer (some ⟨b2, 0, none⟩)), (6, .pointer (some ⟨b3, 0, none⟩)), (34, .bool (pb_Kind == 5))] (by kernel_rfl) ?_
          refine Ok.nil ?_
          refine Ok.thenN ?_
          exact fun a W hA hW => ⟨(pb_Kind == 5), hA.sub (by kernel_rfl), hW, hF⟩
        · replace hF := hF.2 hc
          refine Ok.batch 5 [(2, .int .i64 (if 1000 < (if pt < 0 then 0 else pt) then 1000 else (if pt < 0 then 0 else pt))), (3, .pointer (some ⟨b1, 0, none⟩)), (4, .pointer (some ⟨b2, 0, none⟩)), (6, .pointer (some ⟨b3, 0, none⟩)), (34, .bool false)] (by kernel_rfl) ?_
          refine Ok.nil ?_
          refine Ok.thenN ?_
          exact fun a W hA hW => ⟨false, hA.sub (by kernel_rfl), hW, hF⟩
      ·
        rintro a W ⟨x34j13, hA, hW, hF⟩
        refine (?_ : Ok _ _ _ _ _ _) a W hA hW
        clear hA hW
        refine Ok.cond (b := x34j13) rfl (fun hc => ?_) (fun hc => ?_)
        · replace hF := hF.1 hc
          refine Ok.seq ?_
          refine Ok.region ?_
          refine Ok.batch 1 [(2, .int .i64 (if 1000 < (if pt < 0 then 0 else pt) then 1000 else (if pt < 0 then 0 else pt))), (3, .pointer (some ⟨b1, 0, none⟩)), (4, .pointer (some ⟨b2, 0, none⟩)), (6, .pointer (some ⟨b3, 0, none⟩)), (7, .int .i64 0)] (by kernel_rfl) ?_
          refine Ok.nil ?_
          refine Ok.thenN ?_
          refine Ok.seq ?_
          refine Ok.seq ?_
          refine Ok.region ?_
          refine Ok.batch 1 [(2, .int .i64 (if 1000 < (if pt < 0 then 0 else pt) then 1000 else (if pt < 0 then 0 else pt))), (3, .pointer (some ⟨b1, 0, none⟩)), (4, .pointer (some ⟨b2, 0, none⟩)), (6, .pointer (some ⟨b3, 0, none⟩)), (7, .int .i64 0), (8, .int .i64 24)] (by kernel_rfl) ?_
          refine Ok.nil ?_
          refine Ok.thenN ?_
          refine Ok.block ?_
          obtain ⟨k, hF⟩ := hF
          refine Ok.loop (fun k a W => ∃ (x7l22 : Int) (x8l22 : Int), StA 73 [(2, .int .i64 (if 1000 < (if pt < 0 then 0 else pt) then 1000 else (if pt < 0 then 0 else pt))), (3, .pointer (some ⟨b1, 0, none⟩)), (4, .pointer (some ⟨b2, 0, none⟩)), (6, .pointer (some ⟨b3, 0, none⟩)), (7, .int .i64 x7l22), (8, .int .i64 x8l22)] a ∧ StW w0 [.blk b3 (.cells #[.int .i64 0, .int .i64 0] 44), .blk b2 (.cells #[.int .i64 pb_Kind, .int .i64 pb_N] 44), .blk b1 (.cells #[.int .i64 pa_Kind, .int .i64 pa_N] 44)] g W ∧ mixl22 pa_N pb_N pt K k x7l22 x8l22) k ?_ ?_
          ·
            exact fun a W hA hW => ⟨0, 24, hA.sub (by kernel_rfl), hW, hF⟩
          ·
            rintro k22 a W ⟨x7l22, x8l22, hA, hW, hF⟩
            cases k22 with
            | zero => exact (hF : False).elim
            | succ k22 =>
              refine (?_ : Ok _ _ _ _ _ _) a W hA hW
              clear hA hW
              refine Ok.seq ?_
              refine Ok.seq ?_
              refine Ok.region ?_
              refine Ok.batch 2 [(2, .int .i64 (if 1000 < (if pt < 0 then 0 else pt) then 1000 else (if pt < 0 then 0 else pt))), (3, .pointer (some ⟨b1, 0, none⟩)), (4, .pointer (some ⟨b2, 0, none⟩)), (6, .pointer (some ⟨b3, 0, none⟩)), (7, .int .i64 x7l22), (8, .int .i64 x8l22), (44, .bool (decide (x8l22 ≥ 0)))] (by kernel_rfl) ?_
              refine Ok.nil ?_
              refine Ok.thenN ?_
              refine Ok.cond (b := decide (x8l22 ≥ 0)) rfl (fun hc => ?_) (fun hc => ?_)
              · replace hF := hF.1 hc
                refine Ok.skip ?_
                refine Ok.thenN ?_
                refine Ok.seq ?_
                refine Ok.block ?_
                refine Ok.quiet' (by kernel_rfl) (by kernel_rfl) ?_
                refine OkQ.batch 3 [(2, .int .i64 (if 1000 < (if pt < 0 then 0 else pt) then 1000 else (if pt < 0 then 0 else pt))), (3, .pointer (some ⟨b1, 0, none⟩)), (4, .pointer (some ⟨b2, 0, none⟩)), (6, .pointer (some ⟨b3, 0, none⟩)), (8, .int .i64 x8l22), (48, .int .i64 (IntKind.wrap .i64 (x7l22 * 2 ^ 8))), (49, .pointer (some ⟨b1, 1, none⟩))] (by kernel_rfl) ?_
                refine OkQ.op rfl (OpQ.step (v := .int .i64 pa_N) (Yields.load 2 rfl rfl Try.underlying3 rfl (by kernel_rfl)) rfl rfl ?_)
                refine OkQ.batch 2 [(2, .int .i64 (if 1000 < (if pt < 0 then 0 else pt) then 1000 else (if pt < 0 then 0 else pt))), (3, .pointer (some ⟨b1, 0, none⟩)), (4, .pointer (some ⟨b2, 0, none⟩)), (6, .pointer (some ⟨b3, 0, none⟩)), (8, .int .i64 x8l22), (48, .int .i64 (IntKind.wrap .i64 (x7l22 * 2 ^ 8))), (51, .int .u32 (IntKind.wrap .u32 pa_N)), (52, .int .i64 x8l22)] (by kernel_rfl) ?_
                obtain ⟨hv, hF⟩ := hF
                refine OkQ.op rfl (OpQ.step (v := .int .u32 (shrI .u32 (IntKind.wrap .u32 pa_N) x8l22)) (Yields.shr rfl rfl hv) rfl rfl ?_)
                refine OkQ.batch 3 [(2, .int .i64 (if 1000 < (if pt < 0 then 0 else pt) then 1000 else (if pt < 0 then 0 else pt))), (3, .pointer (some ⟨b1, 0, none⟩)), (4, .pointer (some ⟨b2, 0, none⟩)), (6, .pointer (some ⟨b3, 0, none⟩)), (8, .int .i64 x8l22), (48, .int .i64 (IntKind.wrap .i64 (x7l22 * 2 ^ 8))), (55, .int .i64 (IntKind.wrap .i64 (bitAnd .u32 (shrI .u32 (IntKind.wrap .u32 pa_N) x8l22) 255))), (56, .pointer (some ⟨b2, 1, none⟩))] (by kernel_rfl) ?_
                refine OkQ.op rfl (OpQ.step (v := .int .i64 pb_N) (Yields.load 1 rfl rfl Try.underlying3 rfl (by kernel_rfl)) rfl rfl ?_)
                refine OkQ.batch 2 [(2, .int .i64 (if 1000 < (if pt < 0 then 0 else pt) then 1000 else (if pt < 0 then 0 else pt))), (3, .pointer (some ⟨b1, 0, none⟩)), (4, .pointer (some ⟨b2, 0, none⟩)), (6, .pointer (some ⟨b3, 0, none⟩)), (8, .int .i64 x8l22), (48, .int .i64 (IntKind.wrap .i64 (x7l22 * 2 ^ 8))), (55, .int .i64 (IntKind.wrap .i64 (bitAnd .u32 (shrI .u32 (IntKind.wrap .u32 pa_N) x8l22) 255))), (58, .int .u32 (IntKind.wrap .u32 pb_N)), (59, .int .i64 x8l22)] (by kernel_rfl) ?_
                obtain ⟨hv, hF⟩ := hF
                refine OkQ.op rfl (OpQ.step (v := .int .u32 (shrI .u32 (IntKind.wrap .u32 pb_N) x8l22)) (Yields.shr rfl rfl hv) rfl rfl ?_)
                refine OkQ.batch 3 [(2, .int .i64 (if 1000 < (if pt < 0 then 0 else pt) then 1000 else (if pt < 0 then 0 else pt))), (3, .pointer (some ⟨b1, 0, none⟩)), (4, .pointer (some ⟨b2, 0, none⟩)), (6, .pointer (some ⟨b3, 0, none⟩)), (8, .int .i64 x8l22), (48, .int .i64 (IntKind.wrap .i64 (x7l22 * 2 ^ 8))), (55, .int .i64 (IntKind.wrap .i64 (bitAnd .u32 (shrI .u32 (IntKind.wrap .u32 pa_N) x8l22) 255))), (62, .int .i64 (IntKind.wrap .i64 (bitAnd .u32 (shrI .u32 (IntKind.wrap .u32 pb_N) x8l22) 255))), (63, .int .i64 (if 1000 < (if pt < 0 then 0 else pt) then 1000 else (if pt < 0 then 0 else pt)))] (by kernel_rfl) ?_
                obtain ⟨hp, hF⟩ := hF
                refine OkQ.op rfl (OpQ.call (v := .int .i64 (partZ (IntKind.wrap .i64 (bitAnd .u32 (shrI .u32 (IntKind.wrap .u32 pa_N) x8l22) 255)) (IntKind.wrap .i64 (bitAnd .u32 (shrI .u32 (IntKind.wrap .u32 pb_N) x8l22) 255)) (if 1000 < (if pt < 0 then 0 else pt) then 1000 else (if pt < 0 then 0 else pt)))) (enters (by kernel_rfl) (fun _ => by kernel_rfl)) (part_c (IntKind.wrap .i64 (bitAnd .u32 (shrI .u32 (IntKind.wrap .u32 pa_N) x8l22) 255)) (IntKind.wrap .i64 (bitAnd .u32 (shrI .u32 (IntKind.wrap .u32 pb_N) x8l22) 255)) (if 1000 < (if pt < 0 then 0 else pt) then 1000 else (if pt < 0 then 0 else pt)) hp) rfl rfl ?_)
                refine OkQ.batch 2 [(2, .int .i64 (if 1000 < (if pt < 0 then 0 else pt) then 1000 else (if pt < 0 then 0 else pt))), (3, .pointer (some ⟨b1, 0, none⟩)), (4, .pointer (some ⟨b2, 0, none⟩)), (6, .pointer (some ⟨b3, 0, none⟩)), (7, .int .i64 (bitOr .i64 (IntKind.wrap .i64 (x7l22 * 2 ^ 8)) (partZ (IntKind.wrap .i64 (bitAnd .u32 (shrI .u32 (IntKind.wrap .u32 pa_N) x8l22) 255)) (IntKind.wrap .i64 (bitAnd .u32 (shrI .u32 (IntKind.wrap .u32 pb_N) x8l22) 255)) (if 1000 < (if pt < 0 then 0 else pt) then 1000 else (if pt < 0 then 0 else pt))))), (8, .int .i64 x8l22)] (by kernel_rfl) ?_
                refine OkQ.nil ?_
                refine Ok.blockN ?_
                refine Ok.thenN ?_
                refine Ok.region ?_
                refine Ok.batch 3 [(2, .int .i64 (if 1000 < (if pt < 0 then 0 else pt) then 1000 else (if pt < 0 then 0 else pt))), (3, .pointer (some ⟨b1, 0, none⟩)), (4, .pointer (some ⟨b2, 0, none⟩)), (6, .pointer (some ⟨b3, 0, none⟩)), (7, .int .i64 (bitOr .i64 (IntKind.wrap .i64 (x7l22 * 2 ^ 8)) (partZ (IntKind.wrap .i64 (bitAnd .u32 (shrI .u32 (IntKind.wrap .u32 pa_N) x8l22) 255)) (IntKind.wrap .i64 (bitAnd .u32 (shrI .u32 (IntKind.wrap .u32 pb_N) x8l22) 255)) (if 1000 < (if pt < 0 then 0 else pt) then 1000 else (if pt < 0 then 0 else pt))))), (8, .int .i64 (IntKind.wrap .i64 (x8l22 - 8)))] (by kernel_rfl) ?_
                refine Ok.nil ?_
                refine Ok.thenN ?_
                exact fun a W hA hW => ⟨k22, Nat.lt_succ_self _, (bitOr .i64 (IntKind.wrap .i64 (x7l22 * 2 ^ 8)) (partZ (IntKind.wrap .i64 (bitAnd .u32 (shrI .u32 (IntKind.wrap .u32 pa_N) x8l22) 255)) (IntKind.wrap .i64 (bitAnd .u32 (shrI .u32 (IntKind.wrap .u32 pb_N) x8l22) 255)) (if 1000 < (if pt < 0 then 0 else pt) then 1000 else (if pt < 0 then 0 else pt)))), (IntKind.wrap .i64 (x8l22 - 8)), hA.sub (by kernel_rfl), hW, hF⟩
              · replace hF := hF.2 hc
                refine Ok.exit ?_
                refine Ok.thenE ?_
                refine Ok.thenE ?_
                refine Ok.blockHit ?_
                refine Ok.thenN ?_
                refine Ok.seq ?_
                refine Ok.region ?_
                refine Ok.batch 2 [(6, .pointer (some ⟨b3, 0, none⟩)), (67, .agg #[.int .i64 5, .int .i64 x7l22])] (by kernel_rfl) ?_
                refine Ok.op rfl (OpOk.store (k := 2) (v := .agg #[.int .i64 5, .int .i64 x7l22]) (H' := [.blk b3 (.cells #[.int .i64 5, .int .i64 x7l22] 44), .blk b2 (.cells #[.int .i64 pb_Kind, .int .i64 pb_N] 44), .blk b1 (.cells #[.int .i64 pa_Kind, .int .i64 pa_N] 44)]) 0 rfl rfl rfl (by kernel_rfl) (by kernel_rfl) (by kernel_rfl) (by kernel_rfl) (by kernel_rfl) ?_)
                refine Ok.nil ?_
                refine Ok.thenN ?_
                refine Ok.ret ?_
                refine Ok.blockR ?_
                refine Ok.thenR ?_
                exact Ok.res1 (.inl rfl) rfl (.cellAgg 0 2 #[.int .i64 5, .int .i64 x7l22] rfl rfl Try.underlying44 rfl (by kernel_rfl) (by kernel_rfl) (by kernel_rfl)) ⟨5, x7l22, rfl, hF⟩
        · replace hF := hF.2 hc
          refine Ok.seq ?_
          refine Ok.region ?_
          refine Ok.batch 3 [(3, .pointer (some ⟨b1, 0, none⟩)), (4, .pointer (some ⟨b2, 0, none⟩)), (6, .pointer (some ⟨b3, 0, none⟩)), (68, .bool (decide ((if 1000 < (if pt < 0 then 0 else pt) then 1000 else (if pt < 0 then 0 else pt)) < 500)))] (by kernel_rfl) ?_
          refine Ok.nil ?_
          refine Ok.thenN ?_
          refine Ok.cond (b := decide ((if 1000 < (if pt < 0 then 0 else pt) then 1000 else (if pt < 0 then 0 else pt)) < 500)) rfl (fun hc => ?_) (fun hc => ?_)
          · replace hF := hF.1 hc
            refine Ok.seq ?_
            refine Ok.region ?_
            refine Ok.op rfl (OpOk.step (v := .agg #[.int .i64 pa_Kind, .int .i64 pa_N]) (Yields.loadAgg 2 2 #[.int .i64 pa_Kind, .int .i64 pa_N] rfl rfl Try.underlying44 rfl (by kernel_rfl) (by kernel_rfl) (by kernel_rfl)) rfl rfl ?_)
            refine Ok.op rfl (OpOk.store (k := 2) (v := .agg #[.int .i64 pa_Kind, .int .i64 pa_N]) (H' := [.blk b3 (.cells #[.int .i64 pa_Kind, .int .i64 pa_N] 44), .blk b2 (.cells #[.int .i64 pb_Kind, .int .i64 pb_N] 44), .blk b1 (.cells #[.int .i64 pa_Kind, .int .i64 pa_N] 44)]) 0 rfl rfl rfl (by kernel_rfl) (by kernel_rfl) (by kernel_rfl) (by kernel_rfl) (by kernel_rfl) ?_)
            refine Ok.nil ?_
            refine Ok.thenN ?_
            refine Ok.ret ?_
            refine Ok.blockR ?_
            refine Ok.thenR ?_
            exact Ok.res1 (.inl rfl) rfl (.cellAgg 0 2 #[.int .i64 pa_Kind, .int .i64 pa_N] rfl rfl Try.underlying44 rfl (by kernel_rfl) (by kernel_rfl) (by kernel_rfl)) ⟨pa_Kind, pa_N, rfl, hF⟩
          · replace hF := hF.2 hc
            refine Ok.skip ?_
            refine Ok.blockN ?_
            refine Ok.thenN ?_
            refine Ok.seq ?_
            refine Ok.region ?_
            refine Ok.op rfl (OpOk.step (v := .agg #[.int .i64 pb_Kind, .int .i64 pb_N]) (Yields.loadAgg 1 2 #[.int .i64 pb_Kind, .int .i64 pb_N] rfl rfl Try.underlying44 rfl (by kernel_rfl) (by kernel_rfl) (by kernel_rfl)) rfl rfl ?_)
            refine Ok.op rfl (OpOk.store (k := 2) (v := .agg #[.int .i64 pb_Kind, .int .i64 pb_N]) (H' := [.blk b3 (.cells #[.int .i64 pb_Kind, .int .i64 pb_N] 44), .blk b2 (.cells #[.int .i64 pb_Kind, .int .i64 pb_N] 44), .blk b1 (.cells #[.int .i64 pa_Kind, .int .i64 pa_N] 44)]) 0 rfl rfl rfl (by kernel_rfl) (by kernel_rfl) (by kernel_rfl) (by kernel_rfl) (by kernel_rfl) ?_)
            refine Ok.nil ?_
            refine Ok.thenN ?_
            refine Ok.ret ?_
            exact Ok.res1 (.inl rfl) rfl (.cellAgg 0 2 #[.int .i64 pb_Kind, .int .i64 pb_N] rfl rfl Try.underlying44 rfl (by kernel_rfl) (by kernel_rfl) (by kernel_rfl)) ⟨pb_Kind, pb_N, rfl, hF⟩
theorem mix_step {a b t x : Int} {K : Int → Int → Prop} {C : Int → Int → Prop} (k : Nat) (hk : k ≤ 3) (h0 : 0 ≤ x) (h1 : x < 16777216) (h : C (x * 256 + mixB a b (clampT t) k) ((8 * k : Nat) - 8)) : mixl22b a b t K x (8 * k : Nat) C := by
  unfold mixl22b
  rw [clamp1, pbyte a k hk, pbyte b k hk]
  have ht := clamp_bd t
  have hb := mixB_bd a b (clampT t) k ht.1 ht.2
  have ha1 := byt_bd a k
  have hb1 := byt_bd b k
  refine ⟨fun _ => ⟨by omega, by omega, ⟨⟨by omega, by omega⟩, ⟨by omega, by omega⟩, ht⟩, ?_⟩, fun h => ?_⟩
  · show C (bitOr .i64 (IntKind.wrap .i64 (x * 2 ^ 8)) (mixB a b (clampT t) k)) _
    rw [or_byte h0 h1 hb.1 hb.2, i64_in _ (by omega)]
    exact h
  · have h := of_decide_eq_false h; omega
theorem mix_color (a b t : Int) {K : Int → Int → Prop} (h : K 5 (mixC a b (clampT t))) : mixl22 a b t K 5 0 24 := by
  have ht := clamp_bd t
  have h3 := mixB_bd a b (clampT t) 3 ht.1 ht.2
  have h2 := mixB_bd a b (clampT t) 2 ht.1 ht.2
  have h1 := mixB_bd a b (clampT t) 1 ht.1 ht.2
  refine mix_step 3 (by omega) (by omega) (by omega) ?_
  refine mix_step 2 (by omega) (by omega) (by omega) ?_
  refine mix_step 1 (by omega) (by omega) (by omega) ?_
  refine mix_step 0 (by omega) (by omega) (by omega) ?_
  show mixl22b _ _ _ _ _ _ _
  unfold mixl22b
  refine ⟨fun h => by simp at h, fun _ => ?_⟩
  unfold mixC at h
  simpa using h
theorem mix_F (a b : V) (t : Int) : mixF a.1 a.2 b.1 b.2 t (fun r s => r = (mixV a b t).1 ∧ s = (mixV a b t).2) := by
  have k13 : ∀ x : Bool, ¬ (a.1 = b.1 ∧ (2 ≤ a.1 ∧ a.1 ≤ 4)) → (x = true ↔ a.1 = 5 ∧ b.1 = 5) → mixj13 a.1 a.2 b.1 b.2 t (fun r s => r = (mixV a b t).1 ∧ s = (mixV a b t).2) x := by
    intro x hn hx
    unfold mixj13 mixV
    rw [if_neg hn, clamp1]
    refine ⟨fun h => ⟨5, mix_color _ _ _ ?_⟩, fun h => ⟨fun h2 => ?_, fun h2 => ?_⟩⟩
    · rw [if_pos (hx.1 h)]; exact ⟨rfl, rfl⟩
    · rw [if_neg (fun h' => by rw [hx.2 h'] at h; cases h), if_pos (of_decide_eq_true h2)]; exact ⟨rfl, rfl⟩
    · rw [if_neg (fun h' => by rw [hx.2 h'] at h; cases h), if_neg (of_decide_eq_false h2)]; exact ⟨rfl, rfl⟩
  have k7 : ∀ x : Bool, (x = true ↔ a.1 = b.1 ∧ (2 ≤ a.1 ∧ a.1 ≤ 4)) → mixj7 a.1 a.2 b.1 b.2 t (fun r s => r = (mixV a b t).1 ∧ s = (mixV a b t).2) x := by
    intro x hx
    unfold mixj7
    rw [clamp1]
    refine ⟨fun h => ⟨⟨cutI_bd _, cutI_bd _, clamp_bd t⟩, ?_⟩, fun h => ⟨fun h2 => k13 _ ?_ ?_, fun h2 => k13 _ ?_ ?_⟩⟩
    · unfold mixV; rw [if_pos (hx.1 h)]; exact ⟨rfl, rfl⟩
    · intro h'; rw [hx.2 h'] at h; cases h
    · have : a.1 = 5 := by simpa using h2
      simp [this]
    · intro h'; rw [hx.2 h'] at h; cases h
    · have : ¬ a.1 = 5 := by simpa using h2
      simp [this]
  unfold mixF
  refine ⟨fun h => k7 _ ?_, fun h => k7 _ ?_⟩
  · have : a.1 = b.1 := by simpa using h
    rw [inB_true]; simp [this]
  · have : ¬ a.1 = b.1 := by simpa using h
    simp [this]
set_option linter.unusedVariables false in
theorem mix_c {g : Ghost} (xa : Int × Int) (xb : Int × Int) (xt : Int)  : CallsG Try.prog 23 #[.agg #[.int .i64 xa.1, .int .i64 xa.2], .agg #[.int .i64 xb.1, .int .i64 xb.2], .int .i64 xt] g (.agg #[.int .i64 ((mixV xa xb xt).1), .int .i64 ((mixV xa xb xt).2)]) :=
  (mix_ok xa.1 xa.2 xb.1 xb.2 xt _ (mix_F xa xb xt)).gives (by rintro _ ⟨_, _, rfl, rfl, rfl⟩; rfl)
def rmixl25b (pa_N : Int) (pb_N : Int) (pt : Int) (K : Int → Int → Prop) (x8l25 : Int) (x9l25 : Int) (C25 : Int → Int → Prop) : Prop :=
  ((decide (x9l25 ≥ 0)) = true → byteP pa_N x9l25 ∧ byteP pb_N x9l25 ∧ byteP pa_N x9l25 ∧ wholeP (IntKind.wrap .i64 ((IntKind.wrap .i64 ((byteI pb_N x9l25) - (byteI pa_N x9l25))) * (if 0 < (if 1000 < pt then 1000 else pt) then (if 1000 < pt then 1000 else pt) else 0))) 1000 ∧ C25 (IntKind.wrap .i64 ((IntKind.wrap .i64 ((IntKind.wrap .i64 (256 * x8l25)) + (byteI pa_N x9l25))) + (wholeI (IntKind.wrap .i64 ((IntKind.wrap .i64 ((byteI pb_N x9l25) - (byteI pa_N x9l25))) * (if 0 < (if 1000 < pt then 1000 else pt) then (if 1000 < pt then 1000 else pt) else 0))) 1000))) (IntKind.wrap .i64 (x9l25 - 1))) ∧ ((decide (x9l25 ≥ 0)) = false → K 5 x8l25)
def rmixl25 (pa_N : Int) (pb_N : Int) (pt : Int) (K : Int → Int → Prop) : Nat → Int → Int → Prop
  | 0, _, _ => False
  | k + 1, x8l25, x9l25 => rmixl25b pa_N pb_N pt K x8l25 x9l25 (rmixl25 pa_N pb_N pt K k)
def rmixj16 (pa_Kind : Int) (pa_N : Int) (pb_Kind : Int) (pb_N : Int) (pt : Int) (K : Int → Int → Prop) (x56j16 : Bool) : Prop :=
  ((x56j16) = true → ∃ k, rmixl25 pa_N pb_N pt K k 0 3) ∧ ((x56j16) = false → ((decide ((if 0 < (if 1000 < pt then 1000 else pt) then (if 1000 < pt then 1000 else pt) else 0) < 500)) = true → K pa_Kind pa_N) ∧ ((decide ((if 0 < (if 1000 < pt then 1000 else pt) then (if 1000 < pt then 1000 else pt) else 0) < 500)) = false → K pb_Kind pb_N))
def rmixj6 (pa_Kind : Int) (pa_N : Int) (pb_Kind : Int) (pb_N : Int) (pt : Int) (K : Int → Int → Prop) (x32j6 : Bool) : Prop :=
  ((x32j6) = true → wholeP (IntKind.wrap .i64 ((IntKind.wrap .i64 ((cutI pb_N) - (cutI pa_N))) * (if 0 < (if 1000 < pt then 1000 else pt) then (if 1000 < pt then 1000 else pt) else 0))) 1000 ∧ K pa_Kind (IntKind.wrap .i64 ((cutI pa_N) + (wholeI (IntKind.wrap .i64 ((IntKind.wrap .i64 ((cutI pb_N) - (cutI pa_N))) * (if 0 < (if 1000 < pt then 1000 else pt) then (if 1000 < pt then 1000 else pt) else 0))) 1000)))) ∧ ((x32j6) = false → (((pa_Kind == 5)) = true → rmixj16 pa_Kind pa_N pb_Kind pb_N pt K (pb_Kind == 5)) ∧ (((pa_Kind == 5)) = false → rmixj16 pa_Kind pa_N pb_Kind pb_N pt K false))
def rmixF (pa_Kind : Int) (pa_N : Int) (pb_Kind : Int) (pb_N : Int) (pt : Int) (K : Int → Int → Prop) : Prop :=
  (((pa_Kind == pb_Kind)) = true → (((pa_Kind == 2)) = true → rmixj6 pa_Kind pa_N pb_Kind pb_N pt K true) ∧ (((pa_Kind == 2)) = false → (((pa_Kind == 3)) = true → rmixj6 pa_Kind pa_N pb_Kind pb_N pt K true) ∧ (((pa_Kind == 3)) = false → rmixj6 pa_Kind pa_N pb_Kind pb_N pt K (pa_Kind == 4)))) ∧ (((pa_Kind == pb_Kind)) = false → rmixj6 pa_Kind pa_N pb_Kind pb_N pt K false)
set_option maxHeartbeats 4000000 in
set_option maxRecDepth 100000 in
set_option linter.unusedVariables false in
theorem rmix_ok {g : Ghost} (pa_Kind : Int) (pa_N : Int) (pb_Kind : Int) (pb_N : Int) (pt : Int) (K : Int → Int → Prop)
    (hF : rmixF pa_Kind pa_N pb_Kind pb_N pt K) : CallsK Try.prog 24 #[.agg #[.int .i64 pa_Kind, .int .i64 pa_N], .agg #[.int .i64 pb_Kind, .int .i64 pb_N], .int .i64 pt] g (fun v => ∃ r0 : Int, ∃ r1 : Int, v = .agg #[.int .i64 r0, .int .i64 r1] ∧ K r0 r1) := by
  refine CallsK.enter 87 [(0, .agg #[.int .i64 pa_Kind, .int .i64 pa_N]), (1, .agg #[.int .i64 pb_Kind, .int .i64 pb_N]), (2, .int .i64 pt)] Try.func24 rfl (by kernel_rfl) (by kernel_rfl) (by kernel_rfl) fun w0 => ?_
  refine Ok.seq ?_
  refine Ok.region ?_
  refine Ok.op rfl (OpOk.box (v := .agg #[.int .i64 pa_Kind, .int .i64 pa_N]) (cs := #[.int .i64 pa_Kind, .int .i64 pa_N]) rfl (by kernel_rfl) rfl fun b1 => ?_)
  refine Ok.op rfl (OpOk.box (v := .agg #[.int .i64 pb_Kind, .int .i64 pb_N]) (cs := #[.int .i64 pb_Kind, .int .i64 pb_N]) rfl (by kernel_rfl) rfl fun b2 => ?_)
  refine Ok.op rfl (OpOk.alloc (z := .agg #[.int .i64 0, .int .i64 0]) (cs := #[.int .i64 0, .int .i64 0]) (by kernel_rfl) (by kernel_rfl) rfl fun b3 => ?_)
  refine Ok.nil ?_
  refine Ok.thenN ?_
  refine Ok.seq ?_
  refine Ok.region ?_
  refine Ok.batch 4 [(2, .int .i64 (if 0 < (if 1000 < pt then 1000 else pt) then (if 1000 < pt then 1000 else pt) else 0)), (3, .pointer (some ⟨b1, 0, none⟩)), (4, .pointer (some ⟨b2, 0, none⟩)), (6, .pointer (some ⟨b3, 0, none⟩))] (by kernel_rfl) ?_
  refine Ok.nil ?_
  refine Ok.thenN ?_
  refine Ok.seq ?_
  refine Ok.cut (fun a W => ∃ (x32j6 : Bool), StA 87 [(2, .int .i64 (if 0 < (if 1000 < pt then 1000 else pt) then (if 1000 < pt then 1000 else pt) else 0)), (3, .pointer (some ⟨b1, 0, none⟩)), (4, .pointer (some ⟨b2, 0, none⟩)), (6, .pointer (some ⟨b3, 0, none⟩)), (32, .bool x32j6)] a ∧ StW w0 [.blk b3 (.cells #[.int .i64 0, .int .i64 0] 44), .blk b2 (.cells #[.int .i64 pb_Kind, .int .i64 pb_N] 44), .blk b1 (.cells #[.int .i64 pa_Kind, .int .i64 pa_N] 44)] g W ∧ rmixj6 pa_Kind pa_N pb_Kind pb_N pt K x32j6) ?_ ?_
  ·
    refine Ok.region ?_
    refine Ok.batch 1 [(2, .int .i64 (if 0 < (if 1000 < pt then 1000 else pt) then (if 1000 < pt then 1000 else pt) else 0)), (3, .pointer (some ⟨b1, 0, none⟩)), (4, .pointer (some ⟨b2, 0, none⟩)), (6, .pointer (some ⟨b3, 0, none⟩)), (13, .pointer (some ⟨b1, 0, none⟩))] (by kernel_rfl) ?_
    refine Ok.op rfl (OpOk.step (v := .int .i64 pa_Kind) (Yields.load 2 rfl rfl Try.underlying3 rfl (by kernel_rfl)) rfl rfl ?_)
    refine Ok.batch 1 [(2, .int .i64 (if 0 < (if 1000 < pt then 1000 else pt) then (if 1000 < pt then 1000 else pt) else 0)), (3, .pointer (some ⟨b1, 0, none⟩)), (4, .pointer (some ⟨b2, 0, none⟩)), (6, .pointer (some ⟨b3, 0, none⟩)), (14, .int .i64 pa_Kind), (15, .pointer (some ⟨b2, 0, none⟩))] (by kernel_rfl) ?_
    refine Ok.op rfl (OpOk.step (v := .int .i64 pb_Kind) (Yields.load 1 rfl rfl Try.underlying3 rfl (by kernel_rfl)) rfl rfl ?_)
    refine Ok.batch 2 [(2, .int .i64 (if 0 < (if 1000 < pt then 1000 else pt) then (if 1000 < pt then 1000 else pt) else 0)), (3, .pointer (some ⟨b1, 0, none⟩)), (4, .pointer (some ⟨b2, 0, none⟩)), (6, .pointer (some ⟨b3, 0, none⟩)), (18, .bool (pa_Kind == pb_Kind))] (by kernel_rfl) ?_
    refine Ok.boolAt 18 ((pa_Kind == pb_Kind)) rfl (fun hc => ?_) (fun hc => ?_)
    · replace hF := hF.1 hc
      refine Ok.batch 1 [(2, .int .i64 (if 0 < (if 1000 < pt then 1000 else pt) then (if 1000 < pt then 1000 else pt) else 0)), (3, .pointer (some ⟨b1, 0, none⟩)), (4, .pointer (some ⟨b2, 0, none⟩)), (6, .pointer (some ⟨b3, 0, none⟩)), (18, .bool true), (19, .pointer (some ⟨b1, 0, none⟩))] (by kernel_rfl) ?_
      refine Ok.opYes (j := 5) (d := 18) (want := true) (b := true) rfl (by kernel_rfl) (by kernel_rfl) rfl (OpOk.step (v := .int .i64 pa_Kind) (Yields.load 2 rfl rfl Try.underlying3 rfl (by kernel_rfl)) rfl rfl ?_)
      refine Ok.batch 2 [(2, .int .i64 (if 0 < (if 1000 < pt then 1000 else pt) then (if 1000 < pt then 1000 else pt) else 0)), (3, .pointer (some ⟨b1, 0, none⟩)), (4, .pointer (some ⟨b2, 0, none⟩)), (6, .pointer (some ⟨b3, 0, none⟩)), (18, .bool true), (22, .bool (pa_Kind == 2))] (by kernel_rfl) ?_
      refine Ok.boolAt 22 ((pa_Kind == 2)) rfl (fun hc => ?_) (fun hc => ?_)
      · replace hF := hF.1 hc
        refine Ok.batch 10 [(2, .int .i64 (if 0 < (if 1000 < pt then 1000 else pt) then (if 1000 < pt then 1000 else pt) else 0)), (3, .pointer (some ⟨b1, 0, none⟩)), (4, .pointer (some ⟨b2, 0, none⟩)), (6, .pointer (some ⟨b3, 0, none⟩)), (32, .bool true)] (by kernel_rfl) ?_
        refine Ok.nil ?_
        refine Ok.thenN ?_
        exact fun a W hA hW => ⟨true, hA.sub (by kernel_rfl), hW, hF⟩
      · replace hF := hF.2 hc
        refine Ok.batch 1 [(2, .int .i64 (if 0 < (if 1000 < pt then 1000 else pt) then (if 1000 < pt then 1000 else pt) else 0)), (3, .pointer (some ⟨b1, 0, none⟩)), (4, .pointer (some ⟨b2, 0, none⟩)), (6, .pointer (some ⟨b3, 0, none⟩)), (18, .bool true), (22, .bool false), (23, .pointer (some ⟨b1, 0, none⟩))] (by kernel_rfl) ?_
        refine Ok.opYes (j := 9) (d := 22) (want := false) (b := false) rfl (by kernel_rfl) (by kernel_rfl) rfl (OpOk.step (v := .int .i64 pa_Kind) (Yields.load 2 rfl rfl Try.underlying3 rfl (by kernel_rfl)) rfl rfl ?_)
        refine Ok.batch 3 [(2, .int .i64 (if 0 < (if 1000 < pt then 1000 else pt) then (if 1000 < pt then 1000 else pt) else 0)), (3, .pointer (some ⟨b1, 0, none⟩)), (4, .pointer (some ⟨b2, 0, none⟩)), (6, .pointer (some ⟨b3, 0, none⟩)), (18, .bool true), (27, .bool (pa_Kind == 3))] (by kernel_rfl) ?_
        refine Ok.boolAt 27 ((pa_Kind == 3)) rfl (fun hc => ?_) (fun hc => ?_)
        · replace hF := hF.1 hc
          refine Ok.batch 5 [(2, .int .i64 (if 0 < (if 1000 < pt then 1000 else pt) then (if 1000 < pt then 1000 else pt) else 0)), (3, .pointer (some ⟨b1, 0, none⟩)), (4, .pointer (some ⟨b2, 0, none⟩)), (6, .pointer (some ⟨b3, 0, none⟩)), (32, .bool true)] (by kernel_rfl) ?_
          refine Ok.nil ?_
          refine Ok.thenN ?_
          exact fun a W hA hW => ⟨true, hA.sub (by kernel_rfl), hW, hF⟩
        · replace hF := hF.2 hc
          refine Ok.batch 1 [(2, .int .i64 (if 0 < (if 1000 < pt then 1000 else pt) then (if 1000 < pt then 1000 else pt) else 0)), (3, .pointer (some ⟨b1, 0, none⟩)), (4, .pointer (some ⟨b2, 0, none⟩)), (6, .pointer (some ⟨b3, 0, none⟩)), (18, .bool true), (27, .bool false), (28, .pointer (some ⟨b1, 0, none⟩))] (by kernel_rfl) ?_
          refine Ok.opYes (j := 14) (d := 27) (want := false) (b := false) rfl (by kernel_rfl) (by kernel_rfl) rfl (OpOk.step (v := .int .i64 pa_Kind) (Yields.load 2 rfl rfl Try.underlying3 rfl (by kernel_rfl)) rfl rfl ?_)
          refine Ok.batch 3 [(2, .int .i64 (if 0 < (if 1000 < pt then 1000 else pt) then (if 1000 < pt then 1000 else pt) else 0)), (3, .pointer (some ⟨b1, 0, none⟩)), (4, .pointer (some ⟨b2, 0, none⟩)), (6, .pointer (some ⟨b3, 0, none⟩)), (32, .bool (pa_Kind == 4))] (by kernel_rfl) ?_
          refine Ok.nil ?_
          refine Ok.thenN ?_
          exact fun a W hA hW => ⟨(pa_Kind == 4), hA.sub (by kernel_rfl), hW, hF⟩
    · replace hF := hF.2 hc
      refine Ok.batch 14 [(2, .int .i64 (if 0 < (if 1000 < pt then 1000 else pt) then (if 1000 < pt then 1000 else pt) else 0)), (3, .pointer (some ⟨b1, 0, none⟩)), (4, .pointer (some ⟨b2, 0, none⟩)), (6, .pointer (some ⟨b3, 0, none⟩)), (32, .bool false)] (by kernel_rfl) ?_
      refine Ok.nil ?_
      refine Ok.thenN ?_
      exact fun a W hA hW => ⟨false, hA.sub (by kernel_rfl), hW, hF⟩
  ·
    rintro a W ⟨x32j6, hA, hW, hF⟩
    refine (?_ : Ok _ _ _ _ _ _) a W hA hW
    clear hA hW
    refine Ok.cond (b := x32j6) rfl (fun hc => ?_) (fun hc => ?_)
    · replace hF := hF.1 hc
      refine Ok.seq ?_
      refine Ok.region ?_
      refine Ok.batch 1 [(2, .int .i64 (if 0 < (if 1000 < pt then 1000 else pt) then (if 1000 < pt then 1000 else pt) else 0)), (3, .pointer (some ⟨b1, 0, none⟩)), (4, .pointer (some ⟨b2, 0, none⟩)), (6, .pointer (some ⟨b3, 0, none⟩)), (33, .pointer (some ⟨b1, 1, none⟩))] (by kernel_rfl) ?_
      refine Ok.op rfl (OpOk.step (v := .int .i64 pa_N) (Yields.load 2 rfl rfl Try.underlying3 rfl (by kernel_rfl)) rfl rfl ?_)
      refine Ok.op rfl (OpOk.call (v := .int .i64 (cutI pa_N)) (enters (by kernel_rfl) (fun _ => by kernel_rfl)) (rcut_c pa_N) rfl rfl ?_)
      refine Ok.batch 1 [(2, .int .i64 (if 0 < (if 1000 < pt then 1000 else pt) then (if 1000 < pt then 1000 else pt) else 0)), (3, .pointer (some ⟨b1, 0, none⟩)), (4, .pointer (some ⟨b2, 0, none⟩)), (6, .pointer (some ⟨b3, 0, none⟩)), (7, .int .i64 (cutI pa_N))] (by kernel_rfl) ?_
      refine Ok.nil ?_
      refine Ok.thenN ?_
      refine Ok.seq ?_
      refine Ok.mix [.blk b2 (.cells #[.int .i64 pb_Kind, .int .i64 pb_N] 44), .blk b1 (.cells #[.int .i64 pa_Kind, .int .i64 pa_N] 44)] [(0, true), (1, true), (2, true), (3, true), (4, true), (5, true), (6, true), (7, true), (8, true), (9, true), (10, true), (11, true), (12, true), (13, false)] (by kernel_rfl) (by kernel_rfl) (.cons _ (.cons_cons _ (.cons_cons _ .slnil))) ?_
      refine OkM.batch 1 [(2, .int .i64 (if 0 < (if 1000 < pt then 1000 else pt) then (if 1000 < pt then 1000 else pt) else 0)), (4, .pointer (some ⟨b2, 0, none⟩)), (6, .pointer (some ⟨b3, 0, none⟩)), (7, .int .i64 (cutI pa_N)), (36, .pointer (some ⟨b1, 0, none⟩))] (by kernel_rfl) ?_
      refine OkM.head rfl rfl (OpQ.step (v := .int .i64 pa_Kind) (Yields.load 1 rfl rfl Try.underlying3 rfl (by kernel_rfl)) rfl rfl ?_)
      refine OkM.batch 2 [(2, .int .i64 (if 0 < (if 1000 < pt then 1000 else pt) then (if 1000 < pt then 1000 else pt) else 0)), (6, .pointer (some ⟨b3, 0, none⟩)), (7, .int .i64 (cutI pa_N)), (37, .int .i64 pa_Kind), (38, .int .i64 (cutI pa_N)), (39, .pointer (some ⟨b2, 1, none⟩))] (by kernel_rfl) ?_
      refine OkM.head rfl rfl (OpQ.step (v := .int .i64 pb_N) (Yields.load 0 rfl rfl Try.underlying3 rfl (by kernel_rfl)) rfl rfl ?_)
      refine OkM.head rfl rfl (OpQ.call (v := .int .i64 (cutI pb_N)) (enters (by kernel_rfl) (fun _ => by kernel_rfl)) (rcut_c pb_N) rfl rfl ?_)
      refine OkM.batch 4 [(6, .pointer (some ⟨b3, 0, none⟩)), (37, .int .i64 pa_Kind), (38, .int .i64 (cutI pa_N)), (45, .int .i64 (IntKind.wrap .i64 ((IntKind.wrap .i64 ((cutI pb_N) - (cutI pa_N))) * (if 0 < (if 1000 < pt then 1000 else pt) then (if 1000 < pt then 1000 else pt) else 0))))] (by kernel_rfl) ?_
      obtain ⟨hp, hF⟩ := hF
      refine OkM.head rfl rfl (OpQ.call (v := .int .i64 (wholeI (IntKind.wrap .i64 ((IntKind.wrap .i64 ((cutI pb_N) - (cutI pa_N))) * (if 0 < (if 1000 < pt then 1000 else pt) then (if 1000 < pt then 1000 else pt) else 0))) 1000)) (enters (by kernel_rfl) (fun _ => by kernel_rfl)) (whole_c (IntKind.wrap .i64 ((IntKind.wrap .i64 ((cutI pb_N) - (cutI pa_N))) * (if 0 < (if 1000 < pt then 1000 else pt) then (if 1000 < pt then 1000 else pt) else 0))) 1000 hp) rfl rfl ?_)
      refine OkM.batch 2 [(6, .pointer (some ⟨b3, 0, none⟩)), (48, .agg #[.int .i64 pa_Kind, .int .i64 (IntKind.wrap .i64 ((cutI pa_N) + (wholeI (IntKind.wrap .i64 ((IntKind.wrap .i64 ((cutI pb_N) - (cutI pa_N))) * (if 0 < (if 1000 < pt then 1000 else pt) then (if 1000 < pt then 1000 else pt) else 0))) 1000)))])] (by kernel_rfl) ?_
      refine OkM.tail rfl rfl (OpOk.store (k := 2) (v := .agg #[.int .i64 pa_Kind, .int .i64 (IntKind.wrap .i64 ((cutI pa_N) + (wholeI (IntKind.wrap .i64 ((IntKind.wrap .i64 ((cutI pb_N) - (cutI pa_N))) * (if 0 < (if 1000 < pt then 1000 else pt) then (if 1000 < pt then 1000 else pt) else 0))) 1000)))]) (H' := [.blk b3 (.cells #[.int .i64 pa_Kind, .int .i64 (IntKind.wrap .i64 ((cutI pa_N) + (wholeI (IntKind.wrap .i64 ((IntKind.wrap .i64 ((cutI pb_N) - (cutI pa_N))) * (if 0 < (if 1000 < pt then 1000 else pt) then (if 1000 < pt then 1000 else pt) else 0))) 1000)))] 44), .blk b2 (.cells #[.int .i64 pb_Kind, .int .i64 pb_N] 44), .blk b1 (.cells #[.int .i64 pa_Kind, .int .i64 pa_N] 44)]) 0 rfl rfl rfl (by kernel_rfl) (by kernel_rfl) (by kernel_rfl) (by kernel_rfl) (by kernel_rfl) ?_)
      refine OkM.leaf (.cons _ (.cons_cons _ (.cons_cons _ .slnil))) ?_
      refine OkM.nil ?_
      refine Ok.thenN ?_
      refine Ok.ret ?_
      refine Ok.thenR ?_
      exact Ok.res1 (.inl rfl) rfl (.cellAgg 0 2 #[.int .i64 pa_Kind, .int .i64 (IntKind.wrap .i64 ((cutI pa_N) + (wholeI (IntKind.wrap .i64 ((IntKind.wrap .i64 ((cutI pb_N) - (cutI pa_N))) * (if 0 < (if 1000 < pt then 1000 else pt) then (if 1000 < pt then 1000 else pt) else 0))) 1000)))] rfl rfl Try.underlying44 rfl (by kernel_rfl) (by kernel_rfl) (by kernel_rfl)) ⟨pa_Kind, IntKind.wrap .i64 ((cutI pa_N) + (wholeI (IntKind.wrap .i64 ((IntKind.wrap .i64 ((cutI pb_N) - (cutI pa_N))) * (if 0 < (if 1000 < pt then 1000 else pt) then (if 1000 < pt then 1000 else pt) else 0))) 1000)), rfl, hF⟩
    · replace hF := hF.2 hc
      refine Ok.skip ?_
      refine Ok.thenN ?_
      refine Ok.seq ?_
      refine Ok.cut (fun a W => ∃ (x56j16 : Bool), StA 87 [(2, .int .i64 (if 0 < (if 1000 < pt then 1000 else pt) then (if 1000 < pt then 1000 else pt) else 0)), (3, .pointer (some ⟨b1, 0, none⟩)), (4, .pointer (some ⟨b2, 0, none⟩)), (6, .pointer (some ⟨b3, 0, none⟩)), (56, .bool x56j16)] a ∧ StW w0 [.blk b3 (.cells #[.int .i64 0, .int .i64 0] 44), .blk b2 (.cells #[.int .i64 pb_Kind, .int .i64 pb_N] 44), .blk b1 (.cells #[.int .i64 pa_Kind, .int .i64 pa_N] 44)] g W ∧ rmixj16 pa_Kind pa_N pb_Kind pb_N pt K x56j16) ?_ ?_
      ·
        refine Ok.region ?_
        refine Ok.batch 1 [(2, .int .i64 (if 0 < (if 1000 < pt then 1000 else pt) then (if 1000 < pt then 1000 else pt) else 0)), (3, .pointer (some ⟨b1, 0, none⟩)), (4, .pointer (some ⟨b2, 0, none⟩)), (6, .pointer (some ⟨b3, 0, none⟩)), (49, .pointer (some ⟨b1, 0, none⟩))] (by kernel_rfl) ?_
        refine Ok.op rfl (OpOk.step (v := .int .i64 pa_Kind) (Yields.load 2 rfl rfl Try.underlying3 rfl (by kernel_rfl)) rfl rfl ?_)
        refine Ok.batch 2 [(2, .int .i64 (if 0 < (if 1000 < pt then 1000 else pt) then (if 1000 < pt then 1000 else pt) else 0)), (3, .pointer (some ⟨b1, 0, none⟩)), (4, .pointer (some ⟨b2, 0, none⟩)), (6, .pointer (some ⟨b3, 0, none⟩)), (52, .bool (pa_Kind == 5))] (by kernel_rfl) ?_
        refine Ok.boolAt 52 ((pa_Kind == 5)) rfl (fun hc => ?_) (fun hc => ?_)
        · replace hF := hF.1 hc
          refine Ok.batch 1 [(2, .int .i64 (if 0 < (if 1000 < pt then 1000 else pt) then (if 1000 < pt then 1000 else pt) else 0)), (3, .pointer (some ⟨b1, 0, none⟩)), (4, .pointer (some ⟨b2, 0, none⟩)), (6, .pointer (some ⟨b3, 0, none⟩)), (52, .bool true), (53, .pointer (some ⟨b2, 0, none⟩))] (by kernel_rfl) ?_
          refine Ok.opYes (j := 3) (d := 52) (want := true) (b := true) rfl (by kernel_rfl) (by kernel_rfl) rfl (OpOk.step (v := .int .i64 pb_Kind) (Yields.load 1 rfl rfl Try.underlying3 rfl (by kernel_rfl)) rfl rfl ?_)
          refine Ok.batch 2 [(2, .int .i64 (if 0 < (if 1000 < pt then 1000 else pt) then (if 1000 < pt then 1000 else pt) else 0)), (3, .pointer (some ⟨b1, 0, none⟩)), (4, .pointer (some ⟨b2, 0, none⟩)), (6, .pointer (some ⟨b3, 0, none⟩)), (56, .bool (pb_Kind == 5))] (by kernel_rfl) ?_
          refine Ok.nil ?_
          refine Ok.thenN ?_
          exact fun a W hA hW => ⟨(pb_Kind == 5), hA.sub (by kernel_rfl), hW, hF⟩
        · replace hF := hF.2 hc
          refine Ok.batch 4 [(2, .int .i64 (if 0 < (if 1000 < pt then 1000 else pt) then (if 1000 < pt then 1000 else pt) else 0)), (3, .pointer (some ⟨b1, 0, none⟩)), (4, .pointer (some ⟨b2, 0, none⟩)), (6, .pointer (some ⟨b3, 0, none⟩)), (56, .bool false)] (by kernel_rfl) ?_
          refine Ok.nil ?_
          refine Ok.thenN ?_
          exact fun a W hA hW => ⟨false, hA.sub (by kernel_rfl), hW, hF⟩
      ·
        rintro a W ⟨x56j16, hA, hW, hF⟩
        refine (?_ : Ok _ _ _ _ _ _) a W hA hW
        clear hA hW
        refine Ok.cond (b := x56j16) rfl (fun hc => ?_) (fun hc => ?_)
        · replace hF := hF.1 hc
          refine Ok.seq ?_
          refine Ok.region ?_
          refine Ok.batch 1 [(2, .int .i64 (if 0 < (if 1000 < pt then 1000 else pt) then (if 1000 < pt then 1000 else pt) else 0)), (3, .pointer (some ⟨b1, 0, none⟩)), (4, .pointer (some ⟨b2, 0, none⟩)), (6, .pointer (some ⟨b3, 0, none⟩)), (8, .int .i64 0)] (by kernel_rfl) ?_
          refine Ok.nil ?_
          refine Ok.thenN ?_
          refine Ok.seq ?_
          refine Ok.seq ?_
          refine Ok.region ?_
          refine Ok.batch 1 [(2, .int .i64 (if 0 < (if 1000 < pt then 1000 else pt) then (if 1000 < pt then 1000 else pt) else 0)), (3, .pointer (some ⟨b1, 0, none⟩)), (4, .pointer (some ⟨b2, 0, none⟩)), (6, .pointer (some ⟨b3, 0, none⟩)), (8, .int .i64 0), (9, .int .i64 3)] (by kernel_rfl) ?_
          refine Ok.nil ?_
          refine Ok.thenN ?_
          refine Ok.block ?_
          obtain ⟨k, hF⟩ := hF
          refine Ok.loop (fun k a W => ∃ (x8l25 : Int) (x9l25 : Int), StA 87 [(2, .int .i64 (if 0 < (if 1000 < pt then 1000 else pt) then (if 1000 < pt then 1000 else pt) else 0)), (3, .pointer (some ⟨b1, 0, none⟩)), (4, .pointer (some ⟨b2, 0, none⟩)), (6, .pointer (some ⟨b3, 0, none⟩)), (8, .int .i64 x8l25), (9, .int .i64 x9l25)] a ∧ StW w0 [.blk b3 (.cells #[.int .i64 0, .int .i64 0] 44), .blk b2 (.cells #[.int .i64 pb_Kind, .int .i64 pb_N] 44), .blk b1 (.cells #[.int .i64 pa_Kind, .int .i64 pa_N] 44)] g W ∧ rmixl25 pa_N pb_N pt K k x8l25 x9l25) k ?_ ?_
          ·
            exact fun a W hA hW => ⟨0, 3, hA.sub (by kernel_rfl), hW, hF⟩
          ·
            rintro k25 a W ⟨x8l25, x9l25, hA, hW, hF⟩
            cases k25 with
            | zero => exact (hF : False).elim
            | succ k25 =>
              refine (?_ : Ok _ _ _ _ _ _) a W hA hW
              clear hA hW
              refine Ok.seq ?_
              refine Ok.seq ?_
              refine Ok.region ?_
              refine Ok.batch 2 [(2, .int .i64 (if 0 < (if 1000 < pt then 1000 else pt) then (if 1000 < pt then 1000 else pt) else 0)), (3, .pointer (some ⟨b1, 0, none⟩)), (4, .pointer (some ⟨b2, 0, none⟩)), (6, .pointer (some ⟨b3, 0, none⟩)), (8, .int .i64 x8l25), (9, .int .i64 x9l25), (58, .bool (decide (x9l25 ≥ 0)))] (by kernel_rfl) ?_
              refine Ok.nil ?_
              refine Ok.thenN ?_
              refine Ok.cond (b := decide (x9l25 ≥ 0)) rfl (fun hc => ?_) (fun hc => ?_)
              · replace hF := hF.1 hc
                refine Ok.skip ?_
                refine Ok.thenN ?_
                refine Ok.seq ?_
                refine Ok.block ?_
                refine Ok.quiet' (by kernel_rfl) (by kernel_rfl) ?_
                refine OkQ.batch 3 [(2, .int .i64 (if 0 < (if 1000 < pt then 1000 else pt) then (if 1000 < pt then 1000 else pt) else 0)), (3, .pointer (some ⟨b1, 0, none⟩)), (4, .pointer (some ⟨b2, 0, none⟩)), (6, .pointer (some ⟨b3, 0, none⟩)), (9, .int .i64 x9l25), (62, .int .i64 (IntKind.wrap .i64 (256 * x8l25))), (63, .pointer (some ⟨b1, 1, none⟩))] (by kernel_rfl) ?_
                refine OkQ.op rfl (OpQ.step (v := .int .i64 pa_N) (Yields.load 2 rfl rfl Try.underlying3 rfl (by kernel_rfl)) rfl rfl ?_)
                refine OkQ.batch 1 [(2, .int .i64 (if 0 < (if 1000 < pt then 1000 else pt) then (if 1000 < pt then 1000 else pt) else 0)), (3, .pointer (some ⟨b1, 0, none⟩)), (4, .pointer (some ⟨b2, 0, none⟩)), (6, .pointer (some ⟨b3, 0, none⟩)), (9, .int .i64 x9l25), (62, .int .i64 (IntKind.wrap .i64 (256 * x8l25))), (64, .int .i64 pa_N), (65, .int .i64 x9l25)] (by kernel_rfl) ?_
                obtain ⟨hp, hF⟩ := hF
                refine OkQ.op rfl (OpQ.call (v := .int .i64 (byteI pa_N x9l25)) (enters (by kernel_rfl) (fun _ => by kernel_rfl)) (byte_c pa_N x9l25 hp) rfl rfl ?_)
                refine OkQ.batch 2 [(2, .int .i64 (if 0 < (if 1000 < pt then 1000 else pt) then (if 1000 < pt then 1000 else pt) else 0)), (3, .pointer (some ⟨b1, 0, none⟩)), (4, .pointer (some ⟨b2, 0, none⟩)), (6, .pointer (some ⟨b3, 0, none⟩)), (9, .int .i64 x9l25), (67, .int .i64 (IntKind.wrap .i64 ((IntKind.wrap .i64 (256 * x8l25)) + (byteI pa_N x9l25)))), (68, .pointer (some ⟨b2, 1, none⟩))] (by kernel_rfl) ?_
                refine OkQ.op rfl (OpQ.step (v := .int .i64 pb_N) (Yields.load 1 rfl rfl Try.underlying3 rfl (by kernel_rfl)) rfl rfl ?_)
                refine OkQ.batch 1 [(2, .int .i64 (if 0 < (if 1000 < pt then 1000 else pt) then (if 1000 < pt then 1000 else pt) else 0)), (3, .pointer (some ⟨b1, 0, none⟩)), (4, .pointer (some ⟨b2, 0, none⟩)), (6, .pointer (some ⟨b3, 0, none⟩)), (9, .int .i64 x9l25), (67, .int .i64 (IntKind.wrap .i64 ((IntKind.wrap .i64 (256 * x8l25)) + (byteI pa_N x9l25)))), (69, .int .i64 pb_N), (70, .int .i64 x9l25)] (by kernel_rfl) ?_
                obtain ⟨hp, hF⟩ := hF
                refine OkQ.op rfl (OpQ.call (v := .int .i64 (byteI pb_N x9l25)) (enters (by kernel_rfl) (fun _ => by kernel_rfl)) (byte_c pb_N x9l25 hp) rfl rfl ?_)
                refine OkQ.batch 1 [(2, .int .i64 (if 0 < (if 1000 < pt then 1000 else pt) then (if 1000 < pt then 1000 else pt) else 0)), (3, .pointer (some ⟨b1, 0, none⟩)), (4, .pointer (some ⟨b2, 0, none⟩)), (6, .pointer (some ⟨b3, 0, none⟩)), (9, .int .i64 x9l25), (67, .int .i64 (IntKind.wrap .i64 ((IntKind.wrap .i64 (256 * x8l25)) + (byteI pa_N x9l25)))), (71, .int .i64 (byteI pb_N x9l25)), (72, .pointer (some ⟨b1, 1, none⟩))] (by kernel_rfl) ?_
                refine OkQ.op rfl (OpQ.step (v := .int .i64 pa_N) (Yields.load 2 rfl rfl Try.underlying3 rfl (by kernel_rfl)) rfl rfl ?_)
                refine OkQ.batch 1 [(2, .int .i64 (if 0 < (if 1000 < pt then 1000 else pt) then (if 1000 < pt then 1000 else pt) else 0)), (3, .pointer (some ⟨b1, 0, none⟩)), (4, .pointer (some ⟨b2, 0, none⟩)), (6, .pointer (some ⟨b3, 0, none⟩)), (9, .int .i64 x9l25), (67, .int .i64 (IntKind.wrap .i64 ((IntKind.wrap .i64 (256 * x8l25)) + (byteI pa_N x9l25)))), (71, .int .i64 (byteI pb_N x9l25)), (73, .int .i64 pa_N), (74, .int .i64 x9l25)] (by kernel_rfl) ?_
                obtain ⟨hp, hF⟩ := hF
                refine OkQ.op rfl (OpQ.call (v := .int .i64 (byteI pa_N x9l25)) (enters (by kernel_rfl) (fun _ => by kernel_rfl)) (byte_c pa_N x9l25 hp) rfl rfl ?_)
                refine OkQ.batch 3 [(2, .int .i64 (if 0 < (if 1000 < pt then 1000 else pt) then (if 1000 < pt then 1000 else pt) else 0)), (3, .pointer (some ⟨b1, 0, none⟩)), (4, .pointer (some ⟨b2, 0, none⟩)), (6, .pointer (some ⟨b3, 0, none⟩)), (9, .int .i64 x9l25), (67, .int .i64 (IntKind.wrap .i64 ((IntKind.wrap .i64 (256 * x8l25)) + (byteI pa_N x9l25)))), (78, .int .i64 (IntKind.wrap .i64 ((IntKind.wrap .i64 ((byteI pb_N x9l25) - (byteI pa_N x9l25))) * (if 0 < (if 1000 < pt then 1000 else pt) then (if 1000 < pt then 1000 else pt) else 0))))] (by kernel_rfl) ?_
                obtain ⟨hp, hF⟩ := hF
                refine OkQ.op rfl (OpQ.call (v := .int .i64 (wholeI (IntKind.wrap .i64 ((IntKind.wrap .i64 ((byteI pb_N x9l25) - (byteI pa_N x9l25))) * (if 0 < (if 1000 < pt then 1000 else pt) then (if 1000 < pt then 1000 else pt) else 0))) 1000)) (enters (by kernel_rfl) (fun _ => by kernel_rfl)) (whole_c (IntKind.wrap .i64 ((IntKind.wrap .i64 ((byteI pb_N x9l25) - (byteI pa_N x9l25))) * (if 0 < (if 1000 < pt then 1000 else pt) then (if 1000 < pt then 1000 else pt) else 0))) 1000 hp) rfl rfl ?_)
                refine OkQ.batch 2 [(2, .int .i64 (if 0 < (if 1000 < pt then 1000 else pt) then (if 1000 < pt then 1000 else pt) else 0)), (3, .pointer (some ⟨b1, 0, none⟩)), (4, .pointer (some ⟨b2, 0, none⟩)), (6, .pointer (some ⟨b3, 0, none⟩)), (8, .int .i64 (IntKind.wrap .i64 ((IntKind.wrap .i64 ((IntKind.wrap .i64 (256 * x8l25)) + (byteI pa_N x9l25))) + (wholeI (IntKind.wrap .i64 ((IntKind.wrap .i64 ((byteI pb_N x9l25) - (byteI pa_N x9l25))) * (if 0 < (if 1000 < pt then 1000 else pt) then (if 1000 < pt then 1000 else pt) else 0))) 1000)))), (9, .int .i64 x9l25)] (by kernel_rfl) ?_
                refine OkQ.nil ?_
                refine Ok.blockN ?_
                refine Ok.thenN ?_
                refine Ok.region ?_
                refine Ok.batch 3 [(2, .int .i64 (if 0 < (if 1000 < pt then 1000 else pt) then (if 1000 < pt then 1000 else pt) else 0)), (3, .pointer (some ⟨b1, 0, none⟩)), (4, .pointer (some ⟨b2, 0, none⟩)), (6, .pointer (some ⟨b3, 0, none⟩)), (8, .int .i64 (IntKind.wrap .i64 ((IntKind.wrap .i64 ((IntKind.wrap .i64 (256 * x8l25)) + (byteI pa_N x9l25))) + (wholeI (IntKind.wrap .i64 ((IntKind.wrap .i64 ((byteI pb_N x9l25) - (byteI pa_N x9l25))) * (if 0 < (if 1000 < pt then 1000 else pt) then (if 1000 < pt then 1000 else pt) else 0))) 1000)))), (9, .int .i64 (IntKind.wrap .i64 (x9l25 - 1)))] (by kernel_rfl) ?_
                refine Ok.nil ?_
                refine Ok.thenN ?_
                exact fun a W hA hW => ⟨k25, Nat.lt_succ_self _, (IntKind.wrap .i64 ((IntKind.wrap .i64 ((IntKind.wrap .i64 (256 * x8l25)) + (byteI pa_N x9l25))) + (wholeI (IntKind.wrap .i64 ((IntKind.wrap .i64 ((byteI pb_N x9l25) - (byteI pa_N x9l25))) * (if 0 < (if 1000 < pt then 1000 else pt) then (if 1000 < pt then 1000 else pt) else 0))) 1000))), (IntKind.wrap .i64 (x9l25 - 1)), hA.sub (by kernel_rfl), hW, hF⟩
              · replace hF := hF.2 hc
                refine Ok.exit ?_
                refine Ok.thenE ?_
                refine Ok.thenE ?_
                refine Ok.blockHit ?_
                refine Ok.thenN ?_
                refine Ok.seq ?_
                refine Ok.region ?_
                refine Ok.batch 2 [(6, .pointer (some ⟨b3, 0, none⟩)), (82, .agg #[.int .i64 5, .int .i64 x8l25])] (by kernel_rfl) ?_
                refine Ok.op rfl (OpOk.store (k := 2) (v := .agg #[.int .i64 5, .int .i64 x8l25]) (H' := [.blk b3 (.cells #[.int .i64 5, .int .i64 x8l25] 44), .blk b2 (.cells #[.int .i64 pb_Kind, .int .i64 pb_N] 44), .blk b1 (.cells #[.int .i64 pa_Kind, .int .i64 pa_N] 44)]) 0 rfl rfl rfl (by kernel_rfl) (by kernel_rfl) (by kernel_rfl) (by kernel_rfl) (by kernel_rfl) ?_)
                refine Ok.nil ?_
                refine Ok.thenN ?_
                refine Ok.ret ?_
                refine Ok.thenR ?_
                exact Ok.res1 (.inl rfl) rfl (.cellAgg 0 2 #[.int .i64 5, .int .i64 x8l25] rfl rfl Try.underlying44 rfl (by kernel_rfl) (by kernel_rfl) (by kernel_rfl)) ⟨5, x8l25, rfl, hF⟩
        · replace hF := hF.2 hc
          refine Ok.skip ?_
          refine Ok.thenN ?_
          refine Ok.seq ?_
          refine Ok.seq ?_
          refine Ok.region ?_
          refine Ok.batch 2 [(3, .pointer (some ⟨b1, 0, none⟩)), (4, .pointer (some ⟨b2, 0, none⟩)), (6, .pointer (some ⟨b3, 0, none⟩)), (84, .bool (decide ((if 0 < (if 1000 < pt then 1000 else pt) then (if 1000 < pt then 1000 else pt) else 0) < 500)))] (by kernel_rfl) ?_
          refine Ok.nil ?_
          refine Ok.thenN ?_
          refine Ok.cond (b := decide ((if 0 < (if 1000 < pt then 1000 else pt) then (if 1000 < pt then 1000 else pt) else 0) < 500)) rfl (fun hc => ?_) (fun hc => ?_)
          · replace hF := hF.1 hc
            refine Ok.seq ?_
            refine Ok.region ?_
            refine Ok.op rfl (OpOk.step (v := .agg #[.int .i64 pa_Kind, .int .i64 pa_N]) (Yields.loadAgg 2 2 #[.int .i64 pa_Kind, .int .i64 pa_N] rfl rfl Try.underlying44 rfl (by kernel_rfl) (by kernel_rfl) (by kernel_rfl)) rfl rfl ?_)
            refine Ok.op rfl (OpOk.store (k := 2) (v := .agg #[.int .i64 pa_Kind, .int .i64 pa_N]) (H' := [.blk b3 (.cells #[.int .i64 pa_Kind, .int .i64 pa_N] 44), .blk b2 (.cells #[.int .i64 pb_Kind, .int .i64 pb_N] 44), .blk b1 (.cells #[.int .i64 pa_Kind, .int .i64 pa_N] 44)]) 0 rfl rfl rfl (by kernel_rfl) (by kernel_rfl) (by kernel_rfl) (by kernel_rfl) (by kernel_rfl) ?_)
            refine Ok.nil ?_
            refine Ok.thenN ?_
            refine Ok.ret ?_
            refine Ok.thenR ?_
            exact Ok.res1 (.inl rfl) rfl (.cellAgg 0 2 #[.int .i64 pa_Kind, .int .i64 pa_N] rfl rfl Try.underlying44 rfl (by kernel_rfl) (by kernel_rfl) (by kernel_rfl)) ⟨pa_Kind, pa_N, rfl, hF⟩
          · replace hF := hF.2 hc
            refine Ok.skip ?_
            refine Ok.thenN ?_
            refine Ok.seq ?_
            refine Ok.region ?_
            refine Ok.op rfl (OpOk.step (v := .agg #[.int .i64 pb_Kind, .int .i64 pb_N]) (Yields.loadAgg 1 2 #[.int .i64 pb_Kind, .int .i64 pb_N] rfl rfl Try.underlying44 rfl (by kernel_rfl) (by kernel_rfl) (by kernel_rfl)) rfl rfl ?_)
            refine Ok.op rfl (OpOk.store (k := 2) (v := .agg #[.int .i64 pb_Kind, .int .i64 pb_N]) (H' := [.blk b3 (.cells #[.int .i64 pb_Kind, .int .i64 pb_N] 44), .blk b2 (.cells #[.int .i64 pb_Kind, .int .i64 pb_N] 44), .blk b1 (.cells #[.int .i64 pa_Kind, .int .i64 pa_N] 44)]) 0 rfl rfl rfl (by kernel_rfl) (by kernel_rfl) (by kernel_rfl) (by kernel_rfl) (by kernel_rfl) ?_)
            refine Ok.nil ?_
            refine Ok.thenN ?_
            refine Ok.ret ?_
            exact Ok.res1 (.inl rfl) rfl (.cellAgg 0 2 #[.int .i64 pb_Kind, .int .i64 pb_N] rfl rfl Try.underlying44 rfl (by kernel_rfl) (by kernel_rfl) (by kernel_rfl)) ⟨pb_Kind, pb_N, rfl, hF⟩
theorem rmix_step {a b t x : Int} {K : Int → Int → Prop} {C : Int → Int → Prop} (k : Nat) (hk : k ≤ 3) (h0 : 0 ≤ x) (h1 : x < 16777216) (h : C (x * 256 + mixB a b (clampT t) k) ((k : Int) - 1)) : rmixl25b a b t K x k C := by
  unfold rmixl25b
  rw [clamp2]
  have ht := clamp_bd t
  have hb := mixB_bd a b (clampT t) k ht.1 ht.2
  have ha1 := byt_bd a k
  have hb1 := byt_bd b k
  have ea : byteI a k = byt a k := rfl
  have eb : byteI b k = byt b k := rfl
  rw [ea, eb]
  obtain ⟨m1, m2⟩ := smul_bd (x := byt b k - byt a k) (m := 255) (by omega) (by omega) ht.1 ht.2 (by omega)
  have e : byt a k + (byt b k - byt a k) * clampT t / 1000 = mixB a b (clampT t) k := rfl
  refine ⟨fun _ => ?_, fun h => ?_⟩
  · rw [i64_in (byt b k - byt a k) (by omega), i64_in ((byt b k - byt a k) * clampT t) (by omega)]
    have ew : wholeI ((byt b k - byt a k) * clampT t) 1000 = (byt b k - byt a k) * clampT t / 1000 := rfl
    rw [ew, i64_in (256 * x) (by omega), i64_in (256 * x + byt a k) (by omega), i64_in (_ + _) (by omega), i64_in ((k : Int) - 1) (by omega)]
    have e3 : 256 * x + byt a k + (byt b k - byt a k) * clampT t / 1000 = x * 256 + mixB a b (clampT t) k := by omega
    rw [e3]
    simp only [byteP, wholeP]
    repeat' (first | trivial | exact h | refine ⟨?_, ?_⟩ | omega)
  · have h := of_decide_eq_false h; omega
theorem rmix_color (a b t : Int) {K : Int → Int → Prop} (h : K 5 (mixC a b (clampT t))) : rmixl25 a b t K 5 0 3 := by
  have ht := clamp_bd t
  have h3 := mixB_bd a b (clampT t) 3 ht.1 ht.2
  have h2 := mixB_bd a b (clampT t) 2 ht.1 ht.2
  have h1 := mixB_bd a b (clampT t) 1 ht.1 ht.2
  refine rmix_step 3 (by omega) (by omega) (by omega) ?_
  refine rmix_step 2 (by omega) (by omega) (by omega) ?_
  refine rmix_step 1 (by omega) (by omega) (by omega) ?_
  refine rmix_step 0 (by omega) (by omega) (by omega) ?_
  show rmixl25b _ _ _ _ _ _ _
  unfold rmixl25b
  refine ⟨fun h => by simp at h, fun _ => ?_⟩
  unfold mixC at h
  simpa using h
theorem rmix_F (a b : V) (t : Int) : rmixF a.1 a.2 b.1 b.2 t (fun r s => r = (mixV a b t).1 ∧ s = (mixV a b t).2) := by
  have k16 : ∀ x : Bool, ¬ (a.1 = b.1 ∧ (2 ≤ a.1 ∧ a.1 ≤ 4)) → (x = true ↔ a.1 = 5 ∧ b.1 = 5) → rmixj16 a.1 a.2 b.1 b.2 t (fun r s => r = (mixV a b t).1 ∧ s = (mixV a b t).2) x := by
    intro x hn hx
    unfold rmixj16 mixV
    rw [if_neg hn, clamp2]
    refine ⟨fun h => ⟨5, rmix_color _ _ _ ?_⟩, fun h => ⟨fun h2 => ?_, fun h2 => ?_⟩⟩
    · rw [if_pos (hx.1 h)]; exact ⟨rfl, rfl⟩
    · rw [if_neg (fun h' => by rw [hx.2 h'] at h; cases h), if_pos (of_decide_eq_true h2)]; exact ⟨rfl, rfl⟩
    · rw [if_neg (fun h' => by rw [hx.2 h'] at h; cases h), if_neg (of_decide_eq_false h2)]; exact ⟨rfl, rfl⟩
  have k6 : ∀ x : Bool, (x = true ↔ a.1 = b.1 ∧ (2 ≤ a.1 ∧ a.1 ≤ 4)) → rmixj6 a.1 a.2 b.1 b.2 t (fun r s => r = (mixV a b t).1 ∧ s = (mixV a b t).2) x := by
    intro x hx
    unfold rmixj6
    rw [clamp2]
    have c1 := cutI_bd a.2
    have c2 := cutI_bd b.2
    have ht := clamp_bd t
    obtain ⟨m1, m2⟩ := smul_bd (x := cutI b.2 - cutI a.2) (m := 33554432) (by omega) (by omega) ht.1 ht.2 (by omega)
    rw [i64_in (cutI b.2 - cutI a.2) (by omega), i64_in ((cutI b.2 - cutI a.2) * clampT t) (by omega)]
    have ew : wholeI ((cutI b.2 - cutI a.2) * clampT t) 1000 = (cutI b.2 - cutI a.2) * clampT t / 1000 := rfl
    rw [ew, i64_in (_ + _) (by omega)]
    refine ⟨fun h => ?_, fun h => ⟨fun h2 => k16 _ ?_ ?_, fun h2 => k16 _ ?_ ?_⟩⟩
    · simp only [wholeP]
      refine ⟨⟨⟨by omega, by omega⟩, trivial⟩, ?_⟩
      unfold mixV; rw [if_pos (hx.1 h)]; exact ⟨rfl, rfl⟩
    · intro h'; rw [hx.2 h'] at h; cases h
    · have : a.1 = 5 := by simpa using h2
      simp [this]
    · intro h'; rw [hx.2 h'] at h; cases h
    · have : ¬ a.1 = 5 := by simpa using h2
      simp [this]
  unfold rmixF
  refine ⟨fun h => ⟨fun h2 => k6 _ ?_, fun h2 => ⟨fun h3 => k6 _ ?_, fun h3 => k6 _ ?_⟩⟩, fun h => k6 _ ?_⟩
  · have : a.1 = b.1 := by simpa using h
    have h2 : a.1 = 2 := by simpa using h2
    simp; omega
  · have : a.1 = b.1 := by simpa using h
    have h3 : a.1 = 3 := by simpa using h3
    simp; omega
  · have : a.1 = b.1 := by simpa using h
    have h2 : ¬ a.1 = 2 := by simpa using h2
    have h3 : ¬ a.1 = 3 := by simpa using h3
    simp; omega
  · have : ¬ a.1 = b.1 := by simpa using h
    simp [this]
set_option linter.unusedVariables false in
theorem rmix_c {g : Ghost} (xa : Int × Int) (xb : Int × Int) (xt : Int)  : CallsG Try.prog 24 #[.agg #[.int .i64 xa.1, .int .i64 xa.2], .agg #[.int .i64 xb.1, .int .i64 xb.2], .int .i64 xt] g (.agg #[.int .i64 ((mixV xa xb xt).1), .int .i64 ((mixV xa xb xt).2)]) :=
  (rmix_ok xa.1 xa.2 xb.1 xb.2 xt _ (rmix_F xa xb xt)).gives (by rintro _ ⟨_, _, rfl, rfl, rfl⟩; rfl)
def mixesj5 (K : Bool → Prop) (x6j5 : Bool) : Prop :=
  K x6j5
def mixesF (pa_Kind : Int) (pa_N : Int) (pb_Kind : Int) (pb_N : Int) (pt : Int) (K : Bool → Prop) : Prop :=
  ((true) = true → mixesj5 K ([(((mixV (pa_Kind, pa_N) (pb_Kind, pb_N) pt).1) == ((mixV (pa_Kind, pa_N) (pb_Kind, pb_N) pt).1)), (((mixV (pa_Kind, pa_N) (pb_Kind, pb_N) pt).2) == ((mixV (pa_Kind, pa_N) (pb_Kind, pb_N) pt).2))].all id)) ∧ ((true) = false → mixesj5 K false)
set_option maxHeartbeats 4000000 in
set_option maxRecDepth 100000 in
set_option linter.unusedVariables false in
theorem mixes_ok {g : Ghost} (pa_Kind : Int) (pa_N : Int) (pb_Kind : Int) (pb_N : Int) (pt : Int) (K : Bool → Prop)
    (hF : mixesF pa_Kind pa_N pb_Kind pb_N pt K) : CallsK Try.prog 7 #[.agg #[.int .i64 pa_Kind, .int .i64 pa_N], .agg #[.int .i64 pb_Kind, .int .i64 pb_N], .int .i64 pt] g (fun v => ∃ r0 : Bool, v = .bool r0 ∧ K r0) := by
  refine CallsK.enter 21 [(0, .agg #[.int .i64 pa_Kind, .int .i64 pa_N]), (1, .agg #[.int .i64 pb_Kind, .int .i64 pb_N]), (2, .int .i64 pt)] Try.func7 rfl (by kernel_rfl) (by kernel_rfl) (by kernel_rfl) fun w0 => ?_
  refine Ok.seq ?_
  refine Ok.region ?_
  refine Ok.op rfl (OpOk.box (v := .agg #[.int .i64 pa_Kind, .int .i64 pa_N]) (cs := #[.int .i64 pa_Kind, .int .i64 pa_N]) rfl (by kernel_rfl) rfl fun b1 => ?_)
  refine Ok.op rfl (OpOk.box (v := .agg #[.int .i64 pb_Kind, .int .i64 pb_N]) (cs := #[.int .i64 pb_Kind, .int .i64 pb_N]) rfl (by kernel_rfl) rfl fun b2 => ?_)
  refine Ok.batch 1 [(2, .int .i64 pt), (3, .pointer (some ⟨b1, 0, none⟩)), (4, .pointer (some ⟨b2, 0, none⟩))] (by kernel_rfl) ?_
  refine Ok.nil ?_
  refine Ok.thenN ?_
  refine Ok.seq ?_
  refine Ok.region ?_
  refine Ok.op rfl (OpOk.call (v := .bool true) (enters (by kernel_rfl) (fun _ => by kernel_rfl)) (stepped_c ) rfl rfl ?_)
  refine Ok.batch 1 [(2, .int .i64 pt), (3, .pointer (some ⟨b1, 0, none⟩)), (4, .pointer (some ⟨b2, 0, none⟩)), (7, .bool true)] (by kernel_rfl) ?_
  refine Ok.nil ?_
  refine Ok.thenN ?_
  refine Ok.cut (fun a W => ∃ (x6j5 : Bool), StA 21 [(6, .bool x6j5)] a ∧ StW w0 [] g W ∧ mixesj5 K x6j5) ?_ ?_
  ·
    refine Ok.quiet' (by kernel_rfl) (by kernel_rfl) ?_
    refine OkQ.batch 2 [(2, .int .i64 pt), (3, .pointer (some ⟨b1, 0, none⟩)), (4, .pointer (some ⟨b2, 0, none⟩)), (10, .bool true)] (by kernel_rfl) ?_
    refine OkQ.boolAt 10 (true) rfl (fun hc => ?_) (fun hc => ?_)
    · replace hF := hF.1 hc
      refine OkQ.opYes (j := 1) (d := 10) (want := true) (b := true) rfl (by kernel_rfl) (by kernel_rfl) rfl (OpQ.step (v := .agg #[.int .i64 pa_Kind, .int .i64 pa_N]) (Yields.loadAgg 1 2 #[.int .i64 pa_Kind, .int .i64 pa_N] rfl rfl Try.underlying44 rfl (by kernel_rfl) (by kernel_rfl) (by kernel_rfl)) rfl rfl ?_)
      refine OkQ.opYes (j := 1) (d := 10) (want := true) (b := true) rfl (by kernel_rfl) (by kernel_rfl) rfl (OpQ.step (v := .agg #[.int .i64 pb_Kind, .int .i64 pb_N]) (Yields.loadAgg 0 2 #[.int .i64 pb_Kind, .int .i64 pb_N] rfl rfl Try.underlying44 rfl (by kernel_rfl) (by kernel_rfl) (by kernel_rfl)) rfl rfl ?_)
      refine OkQ.batch 1 [(2, .int .i64 pt), (3, .pointer (some ⟨b1, 0, none⟩)), (4, .pointer (some ⟨b2, 0, none⟩)), (10, .bool true), (11, .agg #[.int .i64 pa_Kind, .int .i64 pa_N]), (12, .agg #[.int .i64 pb_Kind, .int .i64 pb_N]), (13, .int .i64 pt)] (by kernel_rfl) ?_
      refine OkQ.opYes (j := 1) (d := 10) (want := true) (b := true) rfl (by kernel_rfl) (by kernel_rfl) rfl (OpQ.call (v := .agg #[.int .i64 ((mixV (pa_Kind, pa_N) (pb_Kind, pb_N) pt).1), .int .i64 ((mixV (pa_Kind, pa_N) (pb_Kind, pb_N) pt).2)]) (enters (by kernel_rfl) (fun _ => by kernel_rfl)) (mix_c (pa_Kind, pa_N) (pb_Kind, pb_N) pt) rfl rfl ?_)
      refine OkQ.opYes (j := 1) (d := 10) (want := true) (b := true) rfl (by kernel_rfl) (by kernel_rfl) rfl (OpQ.step (v := .agg #[.int .i64 pa_Kind, .int .i64 pa_N]) (Yields.loadAgg 1 2 #[.int .i64 pa_Kind, .int .i64 pa_N] rfl rfl Try.underlying44 rfl (by kernel_rfl) (by kernel_rfl) (by kernel_rfl)) rfl rfl ?_)
      refine OkQ.opYes (j := 1) (d := 10) (want := true) (b := true) rfl (by kernel_rfl) (by kernel_rfl) rfl (OpQ.step (v := .agg #[.int .i64 pb_Kind, .int .i64 pb_N]) (Yields.loadAgg 0 2 #[.int .i64 pb_Kind, .int .i64 pb_N] rfl rfl Try.underlying44 rfl (by kernel_rfl) (by kernel_rfl) (by kernel_rfl)) rfl rfl ?_)
      refine OkQ.batch 1 [(10, .bool true), (14, .agg #[.int .i64 ((mixV (pa_Kind, pa_N) (pb_Kind, pb_N) pt).1), .int .i64 ((mixV (pa_Kind, pa_N) (pb_Kind, pb_N) pt).2)]), (15, .agg #[.int .i64 pa_Kind, .int .i64 pa_N]), (16, .agg #[.int .i64 pb_Kind, .int .i64 pb_N]), (17, .int .i64 pt)] (by kernel_rfl) ?_
      refine OkQ.opYes (j := 1) (d := 10) (want := true) (b := true) rfl (by kernel_rfl) (by kernel_rfl) rfl (OpQ.call (v := .agg #[.int .i64 ((mixV (pa_Kind, pa_N) (pb_Kind, pb_N) pt).1), .int .i64 ((mixV (pa_Kind, pa_N) (pb_Kind, pb_N) pt).2)]) (enters (by kernel_rfl) (fun _ => by kernel_rfl)) (rmix_c (pa_Kind, pa_N) (pb_Kind, pb_N) pt) rfl rfl ?_)
      refine OkQ.opYes (j := 1) (d := 10) (want := true) (b := true) rfl (by kernel_rfl) (by kernel_rfl) rfl (OpQ.step (v := .bool ([(((mixV (pa_Kind, pa_N) (pb_Kind, pb_N) pt).1) == ((mixV (pa_Kind, pa_N) (pb_Kind, pb_N) pt).1)), (((mixV (pa_Kind, pa_N) (pb_Kind, pb_N) pt).2) == ((mixV (pa_Kind, pa_N) (pb_Kind, pb_N) pt).2))].all id)) (Yields.eqAgg (k := 2) rfl rfl (.struct (k := 1) Try.underlying44 (by kernel_rfl) ⟨by decide, ⟨.int .i64 ((mixV (pa_Kind, pa_N) (pb_Kind, pb_N) pt).1), .int .i64 ((mixV (pa_Kind, pa_N) (pb_Kind, pb_N) pt).1), fun _ => by kernel_rfl, fun _ => by kernel_rfl, EqR.mono (k := 1) (.int Try.underlying3) (by decide)⟩, ⟨by decide, ⟨.int .i64 ((mixV (pa_Kind, pa_N) (pb_Kind, pb_N) pt).2), .int .i64 ((mixV (pa_Kind, pa_N) (pb_Kind, pb_N) pt).2), fun _ => by kernel_rfl, fun _ => by kernel_rfl, EqR.mono (k := 1) (.int Try.underlying3) (by decide)⟩, trivial⟩⟩) rfl (by kernel_rfl)) rfl rfl ?_)
      refine OkQ.batch 2 [(6, .bool ([(((mixV (pa_Kind, pa_N) (pb_Kind, pb_N) pt).1) == ((mixV (pa_Kind, pa_N) (pb_Kind, pb_N) pt).1)), (((mixV (pa_Kind, pa_N) (pb_Kind, pb_N) pt).2) == ((mixV (pa_Kind, pa_N) (pb_Kind, pb_N) pt).2))].all id))] (by kernel_rfl) ?_
      refine OkQ.nil ?_
      refine Ok.thenN ?_
      exact fun a W hA hW => ⟨([(((mixV (pa_Kind, pa_N) (pb_Kind, pb_N) pt).1) == ((mixV (pa_Kind, pa_N) (pb_Kind, pb_N) pt).1)), (((mixV (pa_Kind, pa_N) (pb_Kind, pb_N) pt).2) == ((mixV (pa_Kind, pa_N) (pb_Kind, pb_N) pt).2))].all id), hA.sub (by kernel_rfl), hW.sub (.cons _ (.cons _ .slnil)), hF⟩
    · replace hF := hF.2 hc
      refine OkQ.batch 11 [(6, .bool false)] (by kernel_rfl) ?_
      refine OkQ.nil ?_
      refine Ok.thenN ?_
      exact fun a W hA hW => ⟨false, hA.sub (by kernel_rfl), hW.sub (.cons _ (.cons _ .slnil)), hF⟩
  ·
    rintro a W ⟨x6j5, hA, hW, hF⟩
    refine (?_ : Ok _ _ _ _ _ _) a W hA hW
    clear hA hW
    refine Ok.ret ?_
    exact Ok.res1 (.inl rfl) rfl (.tmp rfl) ⟨x6j5, rfl, hF⟩
theorem mixes_F (a b : V) (t : Int) : mixesF a.1 a.2 b.1 b.2 t (fun r => r = true) := by
  unfold mixesF mixesj5
  exact ⟨fun _ => by simp, fun h => by cases h⟩
set_option linter.unusedVariables false in
theorem mixes_c {g : Ghost} (xa : Int × Int) (xb : Int × Int) (xt : Int)  : CallsG Try.prog 7 #[.agg #[.int .i64 xa.1, .int .i64 xa.2], .agg #[.int .i64 xb.1, .int .i64 xb.2], .int .i64 xt] g (.bool true) :=
  (mixes_ok xa.1 xa.2 xb.1 xb.2 xt _ (mixes_F xa xb xt)).gives (by rintro _ ⟨_, rfl, rfl⟩; rfl)
end Go.Proofs.Ytejkloinamgpaaa.An
