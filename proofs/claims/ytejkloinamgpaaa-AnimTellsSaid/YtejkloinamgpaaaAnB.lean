/- The bends of a curve: a number that never falls from place to place; the first place by halves and one by one. -/
import Derived.Test.YtejkloinamgpaaaAnA
namespace Go.Proofs.Ytejkloinamgpaaa.An
open Go.Eng
open IntWalk (i64_in)
/-- the polynomial of a bend -/
def poly (a b k : Int) : Int := 3 * (4096 - k) * (4096 - k) * k * a + 3 * (4096 - k) * k * k * b + k * k * k * 1000
def bendI (a b k : Int) : Int := IntKind.wrap .i64 (Int.tdiv (IntKind.wrap .i64 ((IntKind.wrap .i64 ((IntKind.wrap .i64 ((IntKind.wrap .i64 ((IntKind.wrap .i64 ((IntKind.wrap .i64 (3 * (IntKind.wrap .i64 (4096 - k)))) * (IntKind.wrap .i64 (4096 - k)))) * k)) * a)) + (IntKind.wrap .i64 ((IntKind.wrap .i64 ((IntKind.wrap .i64 ((IntKind.wrap .i64 (3 * (IntKind.wrap .i64 (4096 - k)))) * k)) * k)) * b)))) + (IntKind.wrap .i64 ((IntKind.wrap .i64 ((IntKind.wrap .i64 (k * k)) * k)) * 1000)))) 68719476736)
theorem mul_bd {x y m n : Int} (hx : 0 ≤ x) (hx' : x ≤ m) (hy : 0 ≤ y) (hy' : y ≤ n) : 0 ≤ x * y ∧ x * y ≤ m * n :=
  ⟨Int.mul_nonneg hx hy, Int.mul_le_mul hx' hy' hy (by omega)⟩
theorem bendI_eq {a b k : Int} (ha : 0 ≤ a) (ha' : a ≤ 1000) (hb : 0 ≤ b) (hb' : b ≤ 1000) (hk : 0 ≤ k) (hk' : k ≤ 4096) : bendI a b k = poly a b k / 68719476736 ∧ 0 ≤ poly a b k := by
  unfold bendI poly
  rw [i64_in (4096 - k) (by omega)]
  generalize hj : 4096 - k = j
  have hj0 : 0 ≤ j := by omega
  have hj1 : j ≤ 4096 := by omega
  rw [i64_in (3 * j) (by omega)]
  obtain ⟨p1, q1⟩ := mul_bd (x := 3 * j) (m := 12288) (by omega) (by omega) hj0 hj1
  obtain ⟨p2, q2⟩ := mul_bd p1 q1 hk hk'
  obtain ⟨p3, q3⟩ := mul_bd p2 q2 ha ha'
  obtain ⟨r1, s1⟩ := mul_bd (x := 3 * j) (m := 12288) (by omega) (by omega) hk hk'
  obtain ⟨r2, s2⟩ := mul_bd r1 s1 hk hk'
  obtain ⟨r3, s3⟩ := mul_bd r2 s2 hb hb'
  obtain ⟨t1, u1⟩ := mul_bd hk hk' hk hk'
  obtain ⟨t2, u2⟩ := mul_bd t1 u1 hk hk'
  rw [i64_in (3 * j * j) (by omega), i64_in (3 * j * j * k) (by omega), i64_in (3 * j * j * k * a) (by omega), i64_in (3 * j * k) (by omega), i64_in (3 * j * k * k) (by omega), i64_in (3 * j * k * k * b) (by omega),
    i64_in (k * k) (by omega), i64_in (k * k * k) (by omega), i64_in (k * k * k * 1000) (by omega), i64_in (3 * j * j * k * a + 3 * j * k * k * b) (by omega), i64_in (_ + _) (by omega), Int.tdiv_eq_ediv_of_nonneg (by omega), i64_in (_ / _) (by omega)]
  exact ⟨rfl, by omega⟩
theorem poly_step {a b k : Int} (ha : 0 ≤ a) (ha' : a ≤ 1000) (hb : 0 ≤ b) (hb' : b ≤ 1000) (hk : 0 ≤ k) (hk' : k ≤ 4095) : poly a b k ≤ poly a b (k + 1) := by
  obtain ⟨p, hp⟩ : ∃ p, p = 3 * ((4095 - k) * (4095 - k) * (k + 1) - (4096 - k) * (4096 - k) * k) := ⟨_, rfl⟩
  obtain ⟨q, hq⟩ : ∃ q, q = 3 * ((4095 - k) * (k + 1) * (k + 1) - (4096 - k) * k * k) := ⟨_, rfl⟩
  obtain ⟨r, hr⟩ : ∃ r, r = 3 * (k * k) + 3 * k + 1 := ⟨_, rfl⟩
  have e : poly a b (k + 1) - poly a b k = a * p + b * q + 1000 * r := by unfold poly; grind
  have h1 : p + r = 3 * ((2 * k - 4095) * (2 * k - 4095)) + 1 := by grind
  have h2 : q + r = 6 * (k * (4095 - k)) + 12286 := by grind
  have h3 : p + q + r = 3 * ((4096 - k) * (4095 - k)) + 1 := by grind
  have g0 : 0 ≤ k * k := Int.mul_nonneg hk hk
  have g1 : 0 ≤ (2 * k - 4095) * (2 * k - 4095) := by
    rcases Int.le_total 0 (2 * k - 4095) with h | h
    · exact Int.mul_nonneg h h
    · exact Int.mul_nonneg_of_nonpos_of_nonpos h h
  have g2 : 0 ≤ k * (4095 - k) := Int.mul_nonneg hk (by omega)
  have g3 : 0 ≤ (4096 - k) * (4095 - k) := Int.mul_nonneg (by omega) (by omega)
  have low : ∀ x y : Int, 0 ≤ x → x ≤ 1000 → (0 ≤ x * y ∧ 0 ≤ y) ∨ (1000 * y ≤ x * y ∧ y ≤ 0) := fun x y h0 h1 => by
    rcases Int.le_total 0 y with h | h
    · exact .inl ⟨Int.mul_nonneg h0 h, h⟩
    · exact .inr ⟨Int.mul_le_mul_of_nonpos_right h1 h, h⟩
  clear hp hq
  rcases low a p ha ha' with ⟨x1, x2⟩ | ⟨x1, x2⟩ <;> rcases low b q hb hb' with ⟨y1, y2⟩ | ⟨y1, y2⟩ <;> omega
theorem poly_mono {a b : Int} (ha : 0 ≤ a) (ha' : a ≤ 1000) (hb : 0 ≤ b) (hb' : b ≤ 1000) {k : Int} (hk : 0 ≤ k) : ∀ n : Nat, k + n ≤ 4096 → poly a b k ≤ poly a b (k + n)
  | 0, _ => by simp
  | n + 1, h => by
    have := poly_mono ha ha' hb hb' hk n (by omega)
    have h2 := poly_step (k := k + n) ha ha' hb hb' (by omega) (by omega)
    have e : k + ((n + 1 : Nat) : Int) = k + n + 1 := by omega
    rw [e]; omega
/-- the numbers of a curve never fall -/
theorem bend_mono {a b k l : Int} (ha : 0 ≤ a) (ha' : a ≤ 1000) (hb : 0 ≤ b) (hb' : b ≤ 1000) (hk : 0 ≤ k) (hl : k ≤ l) (hl' : l ≤ 4096) : bendI a b k ≤ bendI a b l := by
  rw [(bendI_eq ha ha' hb hb' hk (by omega)).1, (bendI_eq ha ha' hb hb' (by omega) hl').1]
  have := poly_mono ha ha' hb hb' hk (l - k).toNat (by omega)
  rw [show k + ((l - k).toNat : Int) = l from by omega] at this
  exact Int.ediv_le_ediv (by omega) this
theorem bend_last {a b : Int} (ha : 0 ≤ a) (ha' : a ≤ 1000) (hb : 0 ≤ b) (hb' : b ≤ 1000) : bendI a b 4096 = 1000 := by
  rw [(bendI_eq ha ha' hb hb' (by omega) (by omega)).1]
  have : poly a b 4096 = 68719476736000 := by unfold poly; omega
  rw [this]; decide
/-- the first place from k on where the number is at least t: at most n places further -/
def firstOf (a b t : Int) : Nat → Int → Int
  | 0, k => k
  | n + 1, k => if bendI a b k < t then firstOf a b t n (k + 1) else k
theorem firstOf_spec {a b t : Int} : ∀ (n : Nat) (k : Int), (∃ j : Nat, j ≤ n ∧ t ≤ bendI a b (k + j)) →
    k ≤ firstOf a b t n k ∧ firstOf a b t n k ≤ k + n ∧ t ≤ bendI a b (firstOf a b t n k) ∧ ∀ i, k ≤ i → i < firstOf a b t n k → bendI a b i < t
  | 0, k, ⟨j, hj, h⟩ => by
    obtain rfl : j = 0 := by omega
    simp only [firstOf]
    exact ⟨Int.le_refl _, by omega, by simpa using h, fun i h1 h2 => by omega⟩
  | n + 1, k, ⟨j, hj, h⟩ => by
    unfold firstOf
    split
    · rename_i hlt
      have hj0 : j ≠ 0 := fun e => by subst e; simp at h; omega
      obtain ⟨h1, h2, h3, h4⟩ := firstOf_spec n (k + 1) ⟨j - 1, by omega, by rw [show k + 1 + ((j - 1 : Nat) : Int) = k + j from by omega]; exact h⟩
      refine ⟨by omega, by omega, h3, fun i hi hi' => ?_⟩
      rcases Int.lt_or_le k i with h5 | h5
      · exact h4 i (by omega) hi'
      · obtain rfl : i = k := by omega
        exact hlt
    · rename_i hge
      exact ⟨Int.le_refl _, by omega, by omega, fun i h1 h2 => by omega⟩
def bendF (pa : Int) (pb : Int) (pk : Int) (K : Int → Prop) : Prop :=
  K (IntKind.wrap .i64 (Int.tdiv (IntKind.wrap .i64 ((IntKind.wrap .i64 ((IntKind.wrap .i64 ((IntKind.wrap .i64 ((IntKind.wrap .i64 ((IntKind.wrap .i64 (3 * (IntKind.wrap .i64 (4096 - pk)))) * (IntKind.wrap .i64 (4096 - pk)))) * pk)) * pa)) + (IntKind.wrap .i64 ((IntKind.wrap .i64 ((IntKind.wrap .i64 ((IntKind.wrap .i64 (3 * (IntKind.wrap .i64 (4096 - pk)))) * pk)) * pk)) * pb)))) + (IntKind.wrap .i64 ((IntKind.wrap .i64 ((IntKind.wrap .i64 (pk * pk)) * pk)) * 1000)))) 68719476736))
set_option maxHeartbeats 4000000 in
set_option maxRecDepth 100000 in
set_option linter.unusedVariables false in
theorem bend_ok {g : Ghost} (pa : Int) (pb : Int) (pk : Int) (K : Int → Prop)
    (hF : bendF pa pb pk K) : CallsK Try.prog 68 #[.int .i64 pa, .int .i64 pb, .int .i64 pk] g (fun v => ∃ r0 : Int, v = .int .i64 r0 ∧ K r0) := by
  refine CallsK.enter 35 [(0, .int .i64 pa), (1, .int .i64 pb), (2, .int .i64 pk)] Try.func68 rfl (by kernel_rfl) (by kernel_rfl) (by kernel_rfl) fun w0 => ?_
  refine Ok.seq ?_
  refine Ok.region ?_
  refine Ok.batch 1 [(0, .int .i64 pa), (1, .int .i64 pb), (2, .int .i64 pk)] (by kernel_rfl) ?_
  refine Ok.nil ?_
  refine Ok.thenN ?_
  refine Ok.seq ?_
  refine Ok.region ?_
  refine Ok.batch 3 [(0, .int .i64 pa), (1, .int .i64 pb), (2, .int .i64 pk), (7, .int .i64 (IntKind.wrap .i64 (4096 - pk)))] (by kernel_rfl) ?_
  refine Ok.nil ?_
  refine Ok.thenN ?_
  refine Ok.seq ?_
  refine Ok.region ?_
  refine Ok.batch 26 [(6, .int .i64 (IntKind.wrap .i64 (Int.tdiv (IntKind.wrap .i64 ((IntKind.wrap .i64 ((IntKind.wrap .i64 ((IntKind.wrap .i64 ((IntKind.wrap .i64 ((IntKind.wrap .i64 (3 * (IntKind.wrap .i64 (4096 - pk)))) * (IntKind.wrap .i64 (4096 - pk)))) * pk)) * pa)) + (IntKind.wrap .i64 ((IntKind.wrap .i64 ((IntKind.wrap .i64 ((IntKind.wrap .i64 (3 * (IntKind.wrap .i64 (4096 - pk)))) * pk)) * pk)) * pb)))) + (IntKind.wrap .i64 ((IntKind.wrap .i64 ((IntKind.wrap .i64 (pk * pk)) * pk)) * 1000)))) 68719476736)))] (by kernel_rfl) ?_
  refine Ok.nil ?_
  refine Ok.thenN ?_
  refine Ok.ret ?_
  exact Ok.res1 (.inl rfl) rfl (.tmp rfl) ⟨IntKind.wrap .i64 (Int.tdiv (IntKind.wrap .i64 ((IntKind.wrap .i64 ((IntKind.wrap .i64 ((IntKind.wrap .i64 ((IntKind.wrap .i64 ((IntKind.wrap .i64 (3 * (IntKind.wrap .i64 (4096 - pk)))) * (IntKind.wrap .i64 (4096 - pk)))) * pk)) * pa)) + (IntKind.wrap .i64 ((IntKind.wrap .i64 ((IntKind.wrap .i64 ((IntKind.wrap .i64 (3 * (IntKind.wrap .i64 (4096 - pk)))) * pk)) * pk)) * pb)))) + (IntKind.wrap .i64 ((IntKind.wrap .i64 ((IntKind.wrap .i64 (pk * pk)) * pk)) * 1000)))) 68719476736), rfl, hF⟩
theorem bend_F (a b k : Int) : bendF a b k (fun r => r = bendI a b k) := rfl
set_option linter.unusedVariables false in
theorem bend_c {g : Ghost} (xa : Int) (xb : Int) (xk : Int)  : CallsG Try.prog 68 #[.int .i64 xa, .int .i64 xb, .int .i64 xk] g (.int .i64 (bendI xa xb xk)) :=
  (bend_ok xa xb xk _ (bend_F xa xb xk)).gives (by rintro _ ⟨_, rfl, rfl⟩; rfl)
def rbendF (pa : Int) (pb : Int) (pk : Int) (K : Int → Prop) : Prop :=
  K (IntKind.wrap .i64 (Int.tdiv (IntKind.wrap .i64 ((IntKind.wrap .i64 ((IntKind.wrap .i64 ((IntKind.wrap .i64 ((IntKind.wrap .i64 ((IntKind.wrap .i64 (3 * (IntKind.wrap .i64 (4096 - pk)))) * (IntKind.wrap .i64 (4096 - pk)))) * pk)) * pa)) + (IntKind.wrap .i64 ((IntKind.wrap .i64 ((IntKind.wrap .i64 ((IntKind.wrap .i64 (3 * (IntKind.wrap .i64 (4096 - pk)))) * pk)) * pk)) * pb)))) + (IntKind.wrap .i64 ((IntKind.wrap .i64 ((IntKind.wrap .i64 (pk * pk)) * pk)) * 1000)))) 68719476736))
set_option maxHeartbeats 4000000 in
set_option maxRecDepth 100000 in
set_option linter.unusedVariables false in
theorem rbend_ok {g : Ghost} (pa : Int) (pb : Int) (pk : Int) (K : Int → Prop)
    (hF : rbendF pa pb pk K) : CallsK Try.prog 42 #[.int .i64 pa, .int .i64 pb, .int .i64 pk] g (fun v => ∃ r0 : Int, v = .int .i64 r0 ∧ K r0) := by
  refine CallsK.enter 35 [(0, .int .i64 pa), (1, .int .i64 pb), (2, .int .i64 pk)] Try.func42 rfl (by kernel_rfl) (by kernel_rfl) (by kernel_rfl) fun w0 => ?_
  refine Ok.seq ?_
  refine Ok.region ?_
  refine Ok.batch 1 [(0, .int .i64 pa), (1, .int .i64 pb), (2, .int .i64 pk)] (by kernel_rfl) ?_
  refine Ok.nil ?_
  refine Ok.thenN ?_
  refine Ok.seq ?_
  refine Ok.region ?_
  refine Ok.batch 3 [(0, .int .i64 pa), (1, .int .i64 pb), (2, .int .i64 pk), (7, .int .i64 (IntKind.wrap .i64 (4096 - pk)))] (by kernel_rfl) ?_
  refine Ok.nil ?_
  refine Ok.thenN ?_
  refine Ok.seq ?_
  refine Ok.region ?_
  refine Ok.batch 26 [(6, .int .i64 (IntKind.wrap .i64 (Int.tdiv (IntKind.wrap .i64 ((IntKind.wrap .i64 ((IntKind.wrap .i64 ((IntKind.wrap .i64 ((IntKind.wrap .i64 ((IntKind.wrap .i64 (3 * (IntKind.wrap .i64 (4096 - pk)))) * (IntKind.wrap .i64 (4096 - pk)))) * pk)) * pa)) + (IntKind.wrap .i64 ((IntKind.wrap .i64 ((IntKind.wrap .i64 ((IntKind.wrap .i64 (3 * (IntKind.wrap .i64 (4096 - pk)))) * pk)) * pk)) * pb)))) + (IntKind.wrap .i64 ((IntKind.wrap .i64 ((IntKind.wrap .i64 (pk * pk)) * pk)) * 1000)))) 68719476736)))] (by kernel_rfl) ?_
  refine Ok.nil ?_
  refine Ok.thenN ?_
  refine Ok.ret ?_
  exact Ok.res1 (.inl rfl) rfl (.tmp rfl) ⟨IntKind.wrap .i64 (Int.tdiv (IntKind.wrap .i64 ((IntKind.wrap .i64 ((IntKind.wrap .i64 ((IntKind.wrap .i64 ((IntKind.wrap .i64 ((IntKind.wrap .i64 (3 * (IntKind.wrap .i64 (4096 - pk)))) * (IntKind.wrap .i64 (4096 - pk)))) * pk)) * pa)) + (IntKind.wrap .i64 ((IntKind.wrap .i64 ((IntKind.wrap .i64 ((IntKind.wrap .i64 (3 * (IntKind.wrap .i64 (4096 - pk)))) * pk)) * pk)) * pb)))) + (IntKind.wrap .i64 ((IntKind.wrap .i64 ((IntKind.wrap .i64 (pk * pk)) * pk)) * 1000)))) 68719476736), rfl, hF⟩
theorem rbend_F (a b k : Int) : rbendF a b k (fun r => r = bendI a b k) := rfl
set_option linter.unusedVariables false in
theorem rbend_c {g : Ghost} (xa : Int) (xb : Int) (xk : Int)  : CallsG Try.prog 42 #[.int .i64 xa, .int .i64 xb, .int .i64 xk] g (.int .i64 (bendI xa xb xk)) :=
  (rbend_ok xa xb xk _ (rbend_F xa xb xk)).gives (by rintro _ ⟨_, rfl, rfl⟩; rfl)
/-! ### how far -/
def easeP (e : E) (t : Int) : Prop := mayB e = true ∧ 0 ≤ t ∧ t ≤ 1000
def easeI (e : E) (t : Int) : Int :=
  if e.1 = 3 then IntKind.wrap .i64 (Int.tdiv (IntKind.wrap .i64 ((IntKind.wrap .i64 (Int.tdiv (IntKind.wrap .i64 (t * e.2.2)) 1000)) * 1000)) e.2.2)
  else if e.1 = 2 then bendI e.2.1.2.1 e.2.1.2.2.2 (firstOf e.2.1.1 e.2.1.2.2.1 t 4096 0) else t
def easedl20b (pe_Curve_0 : Int) (pe_Curve_1 : Int) (pe_Curve_2 : Int) (pe_Curve_3 : Int) (pt : Int) (K : Int → Prop) (x5l20 : Int) (x6l20 : Int) (C20 : Int → Int → Prop) : Prop :=
  ((decide (x5l20 < x6l20)) = true → ((decide ((bendI pe_Curve_0 pe_Curve_2 (IntKind.wrap .i64 (Int.tdiv (IntKind.wrap .i64 (x5l20 + x6l20)) 2))) ≥ pt)) = true → C20 x5l20 (IntKind.wrap .i64 (Int.tdiv (IntKind.wrap .i64 (x5l20 + x6l20)) 2))) ∧ ((decide ((bendI pe_Curve_0 pe_Curve_2 (IntKind.wrap .i64 (Int.tdiv (IntKind.wrap .i64 (x5l20 + x6l20)) 2))) ≥ pt)) = false → C20 (IntKind.wrap .i64 ((IntKind.wrap .i64 (Int.tdiv (IntKind.wrap .i64 (x5l20 + x6l20)) 2)) + 1)) x6l20)) ∧ ((decide (x5l20 < x6l20)) = false → K (bendI pe_Curve_1 pe_Curve_3 x5l20))
def easedl20 (pe_Curve_0 : Int) (pe_Curve_1 : Int) (pe_Curve_2 : Int) (pe_Curve_3 : Int) (pt : Int) (K : Int → Prop) : Nat → Int → Int → Prop
  | 0, _, _ => False
  | k + 1, x5l20, x6l20 => easedl20b pe_Curve_0 pe_Curve_1 pe_Curve_2 pe_Curve_3 pt K x5l20 x6l20 (easedl20 pe_Curve_0 pe_Curve_1 pe_Curve_2 pe_Curve_3 pt K k)
def easedF (pe_Kind : Int) (pe_Curve_0 : Int) (pe_Curve_1 : Int) (pe_Curve_2 : Int) (pe_Curve_3 : Int) (pe_N : Int) (pt : Int) (K : Int → Prop) : Prop :=
  (((pe_Kind == 3)) = true → pe_N ≠ 0 ∧ K (IntKind.wrap .i64 (Int.tdiv (IntKind.wrap .i64 ((IntKind.wrap .i64 (Int.tdiv (IntKind.wrap .i64 (pt * pe_N)) 1000)) * 1000)) pe_N))) ∧ (((pe_Kind == 3)) = false → (((pe_Kind == 2)) = true → ∃ k, easedl20 pe_Curve_0 pe_Curve_1 pe_Curve_2 pe_Curve_3 pt K k 0 4096) ∧ (((pe_Kind == 2)) = false → K pt))
set_option maxHeartbeats 4000000 in
set_option maxRecDepth 100000 in
set_option linter.unusedVariables false in
theorem eased_ok {g : Ghost} (pe_Kind : Int) (pe_Curve_0 : Int) (pe_Curve_1 : Int) (pe_Curve_2 : Int) (pe_Curve_3 : Int) (pe_N : Int) (pt : Int) (K : Int → Prop)
    (hF : easedF pe_Kind pe_Curve_0 pe_Curve_1 pe_Curve_2 pe_Curve_3 pe_N pt K) : CallsK Try.prog 41 #[.agg #[.int .i64 pe_Kind, .int .i64 pe_Curve_0, .int .i64 pe_Curve_1, .int .i64 pe_Curve_2, .int .i64 pe_Curve_3, .int .i64 pe_N], .int .i64 pt] g (fun v => ∃ r0 : Int, v = .int .i64 r0 ∧ K r0) := by
  refine CallsK.enter 52 [(0, .agg #[.int .i64 pe_Kind, .int .i64 pe_Curve_0, .int .i64 pe_Curve_1, .int .i64 pe_Curve_2, .int .i64 pe_Curve_3, .int .i64 pe_N]), (1, .int .i64 pt)] Try.func41 rfl (by kernel_rfl) (by kernel_rfl) (by kernel_rfl) fun w0 => ?_
  refine Ok.seq ?_
  refine Ok.region ?_
  refine Ok.op rfl (OpOk.box (v := .agg #[.int .i64 pe_Kind, .int .i64 pe_Curve_0, .int .i64 pe_Curve_1, .int .i64 pe_Curve_2, .int .i64 pe_Curve_3, .int .i64 pe_N]) (cs := #[.int .i64 pe_Kind, .int .i64 pe_Curve_0, .int .i64 pe_Curve_1, .int .i64 pe_Curve_2, .int .i64 pe_Curve_3, .int .i64 pe_N]) rfl (by kernel_rfl) rfl fun b1 => ?_)
  refine Ok.batch 1 [(1, .int .i64 pt), (2, .pointer (some ⟨b1, 0, none⟩))] (by kernel_rfl) ?_
  refine Ok.nil ?_
  refine Ok.thenN ?_
  refine Ok.seq ?_
  refine Ok.seq ?_
  refine Ok.region ?_
  refine Ok.batch 1 [(1, .int .i64 pt), (2, .pointer (some ⟨b1, 0, none⟩)), (8, .pointer (some ⟨b1, 0, none⟩))] (by kernel_rfl) ?_
  refine Ok.op rfl (OpOk.step (v := .int .i64 pe_Kind) (Yields.load 0 rfl rfl Try.underlying3 rfl (by kernel_rfl)) rfl rfl ?_)
  refine Ok.nil ?_
  refine Ok.thenN ?_
  refine Ok.block ?_
  refine Ok.seq ?_
  refine Ok.region ?_
  refine Ok.batch 2 [(1, .int .i64 pt), (2, .pointer (some ⟨b1, 0, none⟩)), (9, .int .i64 pe_Kind), (10, .bool (pe_Kind == 3))] (by kernel_rfl) ?_
  refine Ok.nil ?_
  refine Ok.thenN ?_
  refine Ok.cond (b := (pe_Kind == 3)) rfl (fun hc => ?_) (fun hc => ?_)
  · replace hF := hF.1 hc
    refine Ok.seq ?_
    refine Ok.region ?_
    refine Ok.batch 2 [(2, .pointer (some ⟨b1, 0, none⟩)), (12, .int .i64 pt), (13, .pointer (some ⟨b1, 5, none⟩))] (by kernel_rfl) ?_
    refine Ok.op rfl (OpOk.step (v := .int .i64 pe_N) (Yields.load 0 rfl rfl Try.underlying3 rfl (by kernel_rfl)) rfl rfl ?_)
    refine Ok.batch 4 [(17, .int .i64 (IntKind.wrap .i64 ((IntKind.wrap .i64 (Int.tdiv (IntKind.wrap .i64 (pt * pe_N)) 1000)) * 1000))), (18, .pointer (some ⟨b1, 5, none⟩))] (by kernel_rfl) ?_
    refine Ok.op rfl (OpOk.step (v := .int .i64 pe_N) (Yields.load 0 rfl rfl Try.underlying3 rfl (by kernel_rfl)) rfl rfl ?_)
    obtain ⟨hv, hF⟩ := hF
    refine Ok.op rfl (OpOk.step (v := .int .i64 (IntKind.wrap .i64 (Int.tdiv (IntKind.wrap .i64 ((IntKind.wrap .i64 (Int.tdiv (IntKind.wrap .i64 (pt * pe_N)) 1000)) * 1000)) pe_N))) (Yields.quo rfl rfl hv) rfl rfl ?_)
    refine Ok.batch 1 [(4, .int .i64 (IntKind.wrap .i64 (Int.tdiv (IntKind.wrap .i64 ((IntKind.wrap .i64 (Int.tdiv (IntKind.wrap .i64 (pt * pe_N)) 1000)) * 1000)) pe_N)))] (by kernel_rfl) ?_
    refine Ok.nil ?_
    refine Ok.thenN ?_
    refine Ok.ret ?_
    refine Ok.blockR ?_
    refine Ok.thenR ?_
    exact Ok.res1 (.inl rfl) rfl (.tmp rfl) ⟨IntKind.wrap .i64 (Int.tdiv (IntKind.wrap .i64 ((IntKind.wrap .i64 (Int.tdiv (IntKind.wrap .i64 (pt * pe_N)) 1000)) * 1000)) pe_N), rfl, hF⟩
  · replace hF := hF.2 hc
    refine Ok.seq ?_
    refine Ok.region ?_
    refine Ok.batch 2 [(1, .int .i64 pt), (2, .pointer (some ⟨b1, 0, none⟩)), (21, .bool (pe_Kind == 2))] (by kernel_rfl) ?_
    refine Ok.nil ?_
    refine Ok.thenN ?_
    refine Ok.cond (b := (pe_Kind == 2)) rfl (fun hc => ?_) (fun hc => ?_)
    · replace hF := hF.1 hc
      refine Ok.seq ?_
      refine Ok.region ?_
      refine Ok.batch 2 [(1, .int .i64 pt), (2, .pointer (some ⟨b1, 0, none⟩)), (5, .int .i64 0), (6, .int .i64 4096)] (by kernel_rfl) ?_
      refine Ok.nil ?_
      refine Ok.thenN ?_
      refine Ok.seq ?_
      refine Ok.block ?_
      obtain ⟨k, hF⟩ := hF
      refine Ok.loop (fun k a W => ∃ (x5l20 : Int) (x6l20 : Int), StA 52 [(1, .int .i64 pt), (2, .pointer (some ⟨b1, 0, none⟩)), (5, .int .i64 x5l20), (6, .int .i64 x6l20)] a ∧ StW w0 [.blk b1 (.cells #[.int .i64 pe_Kind, .int .i64 pe_Curve_0, .int .i64 pe_Curve_1, .int .i64 pe_Curve_2, .int .i64 pe_Curve_3, .int .i64 pe_N] 25)] g W ∧ easedl20 pe_Curve_0 pe_Curve_1 pe_Curve_2 pe_Curve_3 pt K k x5l20 x6l20) k ?_ ?_
      ·
        exact fun a W hA hW => ⟨0, 4096, hA.sub (by kernel_rfl), hW, hF⟩
      ·
        rintro k20 a W ⟨x5l20, x6l20, hA, hW, hF⟩
        cases k20 with
        | zero => exact (hF : False).elim
        | succ k20 =>
          refine (?_ : Ok _ _ _ _ _ _) a W hA hW
          clear hA hW
          refine Ok.seq ?_
          refine Ok.seq ?_
          refine Ok.region ?_
          refine Ok.batch 3 [(1, .int .i64 pt), (2, .pointer (some ⟨b1, 0, none⟩)), (5, .int .i64 x5l20), (6, .int .i64 x6l20), (25, .bool (decide (x5l20 < x6l20)))] (by kernel_rfl) ?_
          refine Ok.nil ?_
          refine Ok.thenN ?_
          refine Ok.cond (b := decide (x5l20 < x6l20)) rfl (fun hc => ?_) (fun hc => ?_)
          · replace hF := hF.1 hc
            refine Ok.skip ?_
            refine Ok.thenN ?_
            refine Ok.block ?_
            refine Ok.seq ?_
            refine Ok.region ?_
            refine Ok.batch 5 [(1, .int .i64 pt), (2, .pointer (some ⟨b1, 0, none⟩)), (5, .int .i64 x5l20), (6, .int .i64 x6l20), (7, .int .i64 (IntKind.wrap .i64 (Int.tdiv (IntKind.wrap .i64 (x5l20 + x6l20)) 2)))] (by kernel_rfl) ?_
            refine Ok.nil ?_
            refine Ok.thenN ?_
            refine Ok.seq ?_
            refine Ok.region ?_
            refine Ok.batch 2 [(1, .int .i64 pt), (2, .pointer (some ⟨b1, 0, none⟩)), (5, .int .i64 x5l20), (6, .int .i64 x6l20), (7, .int .i64 (IntKind.wrap .i64 (Int.tdiv (IntKind.wrap .i64 (x5l20 + x6l20)) 2))), (31, .pointer (some ⟨b1, 1, none⟩))] (by kernel_rfl) ?_
            refine Ok.op rfl (OpOk.step (v := .int .i64 pe_Curve_0) (Yields.load 0 rfl rfl Try.underlying3 rfl (by kernel_rfl)) rfl rfl ?_)
            refine Ok.batch 2 [(1, .int .i64 pt), (2, .pointer (some ⟨b1, 0, none⟩)), (5, .int .i64 x5l20), (6, .int .i64 x6l20), (7, .int .i64 (IntKind.wrap .i64 (Int.tdiv (IntKind.wrap .i64 (x5l20 + x6l20)) 2))), (32, .int .i64 pe_Curve_0), (34, .pointer (some ⟨b1, 3, none⟩))] (by kernel_rfl) ?_
            refine Ok.op rfl (OpOk.step (v := .int .i64 pe_Curve_2) (Yields.load 0 rfl rfl Try.underlying3 rfl (by kernel_rfl)) rfl rfl ?_)
            refine Ok.batch 1 [(1, .int .i64 pt), (2, .pointer (some ⟨b1, 0, none⟩)), (5, .int .i64 x5l20), (6, .int .i64 x6l20), (7, .int .i64 (IntKind.wrap .i64 (Int.tdiv (IntKind.wrap .i64 (x5l20 + x6l20)) 2))), (32, .int .i64 pe_Curve_0), (35, .int .i64 pe_Curve_2), (36, .int .i64 (IntKind.wrap .i64 (Int.tdiv (IntKind.wrap .i64 (x5l20 + x6l20)) 2)))] (by kernel_rfl) ?_
            refine Ok.op rfl (OpOk.call (v := .int .i64 (bendI pe_Curve_0 pe_Curve_2 (IntKind.wrap .i64 (Int.tdiv (IntKind.wrap .i64 (x5l20 + x6l20)) 2)))) (enters (by kernel_rfl) (fun _ => by kernel_rfl)) (bend_c pe_Curve_0 pe_Curve_2 (IntKind.wrap .i64 (Int.tdiv (IntKind.wrap .i64 (x5l20 + x6l20)) 2))) rfl rfl ?_)
            refine Ok.batch 2 [(1, .int .i64 pt), (2, .pointer (some ⟨b1, 0, none⟩)), (5, .int .i64 x5l20), (6, .int .i64 x6l20), (7, .int .i64 (IntKind.wrap .i64 (Int.tdiv (IntKind.wrap .i64 (x5l20 + x6l20)) 2))), (39, .bool (decide ((bendI pe_Curve_0 pe_Curve_2 (IntKind.wrap .i64 (Int.tdiv (IntKind.wrap .i64 (x5l20 + x6l20)) 2))) ≥ pt)))] (by kernel_rfl) ?_
            refine Ok.nil ?_
            refine Ok.thenN ?_
            refine Ok.cond (b := decide ((bendI pe_Curve_0 pe_Curve_2 (IntKind.wrap .i64 (Int.tdiv (IntKind.wrap .i64 (x5l20 + x6l20)) 2))) ≥ pt)) rfl (fun hc => ?_) (fun hc => ?_)
            · replace hF := hF.1 hc
              refine Ok.region ?_
              refine Ok.batch 2 [(1, .int .i64 pt), (2, .pointer (some ⟨b1, 0, none⟩)), (5, .int .i64 x5l20), (6, .int .i64 (IntKind.wrap .i64 (Int.tdiv (IntKind.wrap .i64 (x5l20 + x6l20)) 2)))] (by kernel_rfl) ?_
              refine Ok.nil ?_
              refine Ok.blockN ?_
              refine Ok.thenN ?_
              exact fun a W hA hW => ⟨k20, Nat.lt_succ_self _, x5l20, (IntKind.wrap .i64 (Int.tdiv (IntKind.wrap .i64 (x5l20 + x6l20)) 2)), hA.sub (by kernel_rfl), hW, hF⟩
            · replace hF := hF.2 hc
              refine Ok.region ?_
              refine Ok.batch 3 [(1, .int .i64 pt), (2, .pointer (some ⟨b1, 0, none⟩)), (5, .int .i64 (IntKind.wrap .i64 ((IntKind.wrap .i64 (Int.tdiv (IntKind.wrap .i64 (x5l20 + x6l20)) 2)) + 1))), (6, .int .i64 x6l20)] (by kernel_rfl) ?_
              refine Ok.nil ?_
              refine Ok.blockN ?_
              refine Ok.thenN ?_
              exact fun a W hA hW => ⟨k20, Nat.lt_succ_self _, (IntKind.wrap .i64 ((IntKind.wrap .i64 (Int.tdiv (IntKind.wrap .i64 (x5l20 + x6l20)) 2)) + 1)), x6l20, hA.sub (by kernel_rfl), hW, hF⟩
          · replace hF := hF.2 hc
            refine Ok.exit ?_
            refine Ok.thenE ?_
            refine Ok.thenE ?_
            refine Ok.blockHit ?_
            refine Ok.thenN ?_
            refine Ok.seq ?_
            refine Ok.region ?_
            refine Ok.batch 2 [(2, .pointer (some ⟨b1, 0, none⟩)), (5, .int .i64 x5l20), (44, .pointer (some ⟨b1, 2, none⟩))] (by kernel_rfl) ?_
            refine Ok.op rfl (OpOk.step (v := .int .i64 pe_Curve_1) (Yields.load 0 rfl rfl Try.underlying3 rfl (by kernel_rfl)) rfl rfl ?_)
            refine Ok.batch 2 [(5, .int .i64 x5l20), (45, .int .i64 pe_Curve_1), (47, .pointer (some ⟨b1, 4, none⟩))] (by kernel_rfl) ?_
            refine Ok.op rfl (OpOk.step (v := .int .i64 pe_Curve_3) (Yields.load 0 rfl rfl Try.underlying3 rfl (by kernel_rfl)) rfl rfl ?_)
            refine Ok.batch 1 [(45, .int .i64 pe_Curve_1), (48, .int .i64 pe_Curve_3), (49, .int .i64 x5l20)] (by kernel_rfl) ?_
            refine Ok.op rfl (OpOk.call (v := .int .i64 (bendI pe_Curve_1 pe_Curve_3 x5l20)) (enters (by kernel_rfl) (fun _ => by kernel_rfl)) (bend_c pe_Curve_1 pe_Curve_3 x5l20) rfl rfl ?_)
            refine Ok.batch 1 [(4, .int .i64 (bendI pe_Curve_1 pe_Curve_3 x5l20))] (by kernel_rfl) ?_
            refine Ok.nil ?_
            refine Ok.thenN ?_
            refine Ok.ret ?_
            refine Ok.blockR ?_
            refine Ok.thenR ?_
            exact Ok.res1 (.inl rfl) rfl (.tmp rfl) ⟨bendI pe_Curve_1 pe_Curve_3 x5l20, rfl, hF⟩
    · replace hF := hF.2 hc
      refine Ok.skip ?_
      refine Ok.blockN ?_
      refine Ok.thenN ?_
      refine Ok.seq ?_
      refine Ok.region ?_
      refine Ok.batch 2 [(4, .int .i64 pt)] (by kernel_rfl) ?_
      refine Ok.nil ?_
      refine Ok.thenN ?_
      refine Ok.ret ?_
      exact Ok.res1 (.inl rfl) rfl (.tmp rfl) ⟨pt, rfl, hF⟩
theorem halves {c0 c1 c2 c3 t f : Int} {K : Int → Prop} (h0 : 0 ≤ c0) (h0' : c0 ≤ 1000) (h2 : 0 ≤ c2) (h2' : c2 ≤ 1000) (hf : t ≤ bendI c0 c2 f) (hb : ∀ i, 0 ≤ i → i < f → bendI c0 c2 i < t) (hK : K (bendI c1 c3 f)) :
    ∀ (n : Nat) (lo hi : Int), 0 ≤ lo → lo ≤ f → f ≤ hi → hi ≤ 4096 → hi - lo < n → easedl20 c0 c1 c2 c3 t K n lo hi := by
  intro n
  induction n with
  | zero => intro lo hi _ _ _ _ h; omega
  | succ n ih =>
    intro lo hi g1 g2 g3 g4 g5
    show easedl20b c0 c1 c2 c3 t K lo hi _
    unfold easedl20b
    rw [i64_in (lo + hi) (by omega), Int.tdiv_eq_ediv_of_nonneg (by omega), i64_in ((lo + hi) / 2) (by omega), i64_in ((lo + hi) / 2 + 1) (by omega)]
    refine ⟨fun h => ⟨fun h1 => ?_, fun h1 => ?_⟩, fun h => ?_⟩
    · have h := of_decide_eq_true h
      have h1 := of_decide_eq_true h1
      refine ih _ _ g1 g2 ?_ (by omega) (by omega)
      rcases Int.lt_or_le ((lo + hi) / 2) f with h5 | h5
      · have := hb _ (by omega) h5; omega
      · exact h5
    · have h := of_decide_eq_true h
      have h1 := of_decide_eq_false h1
      refine ih _ _ (by omega) ?_ g3 g4 (by omega)
      rcases Int.lt_or_le ((lo + hi) / 2) f with h5 | h5
      · omega
      · have := bend_mono (k := f) (l := (lo + hi) / 2) h0 h0' h2 h2' (by omega) h5 (by omega); omega
    · have h := of_decide_eq_false h
      obtain rfl : lo = f := by omega
      exact hK
theorem first_is {c0 c2 t : Int} (h0 : 0 ≤ c0) (h0' : c0 ≤ 1000) (h2 : 0 ≤ c2) (h2' : c2 ≤ 1000) (ht : t ≤ 1000) :
    0 ≤ firstOf c0 c2 t 4096 0 ∧ firstOf c0 c2 t 4096 0 ≤ 4096 ∧ t ≤ bendI c0 c2 (firstOf c0 c2 t 4096 0) ∧ ∀ i, 0 ≤ i → i < firstOf c0 c2 t 4096 0 → bendI c0 c2 i < t := by
  have := firstOf_spec (a := c0) (b := c2) (t := t) 4096 0 ⟨4096, by omega, by
    have := bend_last h0 h0' h2 h2'
    rw [show (0 : Int) + ((4096 : Nat) : Int) = 4096 from rfl, this]; exact ht⟩
  exact ⟨this.1, by have := this.2.1; omega, this.2.2⟩
theorem may_steps {e : E} (h : mayB e = true) (h3 : e.1 = 3) : 1 ≤ e.2.2 ∧ e.2.2 ≤ 1000 := by
  unfold mayB at h
  rw [if_neg (by omega), if_pos h3] at h
  simp only [Bool.and_eq_true] at h
  exact inB_true.1 h.2
theorem may_curve {e : E} (h : mayB e = true) (h2 : e.1 = 2) : (0 ≤ e.2.1.1 ∧ e.2.1.1 ≤ 1000) ∧ (0 ≤ e.2.1.2.1 ∧ e.2.1.2.1 ≤ 1000) ∧ (0 ≤ e.2.1.2.2.1 ∧ e.2.1.2.2.1 ≤ 1000) ∧ (0 ≤ e.2.1.2.2.2 ∧ e.2.1.2.2.2 ≤ 1000) := by
  unfold mayB at h
  rw [if_pos h2] at h
  simp only [Bool.and_eq_true] at h
  exact ⟨inB_true.1 h.1.1.1.1, inB_true.1 h.1.1.1.2, inB_true.1 h.1.1.2, inB_true.1 h.1.2⟩
theorem may_kind {e : E} (h : mayB e = true) : e.1 = 1 ∨ e.1 = 2 ∨ e.1 = 3 := by
  unfold mayB at h
  split at h
  · omega
  · split at h
    · omega
    · simp only [Bool.and_eq_true] at h
      exact .inl (by simpa using h.2.1)
theorem eased_F (e : E) (t : Int) (hp : easeP e t) : easedF e.1 e.2.1.1 e.2.1.2.1 e.2.1.2.2.1 e.2.1.2.2.2 e.2.2 t (fun r => r = easeI e t) := by
  obtain ⟨hm, ht, ht'⟩ := hp
  unfold easedF easeI
  refine ⟨fun h => ?_, fun h => ⟨fun h2 => ?_, fun h2 => ?_⟩⟩
  · have h3 : e.1 = 3 := by simpa using h
    have := may_steps hm h3
    exact ⟨by omega, by rw [if_pos h3]⟩
  · have h3 : ¬ e.1 = 3 := by simpa using h
    have h4 : e.1 = 2 := by simpa using h2
    obtain ⟨a1, -, a3, -⟩ := may_curve hm h4
    obtain ⟨f1, f2, f3, f4⟩ := first_is (t := t) a1.1 a1.2 a3.1 a3.2 ht'
    rw [if_neg h3, if_pos h4]
    obtain ⟨n, hn⟩ : ∃ n : Nat, (4096 : Int) < n := ⟨4097, by omega⟩
    exact ⟨n, halves a1.1 a1.2 a3.1 a3.2 f3 f4 (by rfl) n _ _ (by omega) f1 f2 (by omega) (by omega)⟩
  · have h3 : ¬ e.1 = 3 := by simpa using h
    have h4 : ¬ e.1 = 2 := by simpa using h2
    rw [if_neg h3, if_neg h4]
set_option linter.unusedVariables false in
theorem eased_c {g : Ghost} (xe : Int × (Int × Int × Int × Int) × Int) (xt : Int)  (hp : easeP xe xt) : CallsG Try.prog 41 #[.agg #[.int .i64 xe.1, .int .i64 xe.2.1.1, .int .i64 xe.2.1.2.1, .int .i64 xe.2.1.2.2.1, .int .i64 xe.2.1.2.2.2, .int .i64 xe.2.2], .int .i64 xt] g (.int .i64 (easeI xe xt)) :=
  (eased_ok xe.1 xe.2.1.1 xe.2.1.2.1 xe.2.1.2.2.1 xe.2.1.2.2.2 xe.2.2 xt _ (eased_F xe xt hp)).gives (by rintro _ ⟨_, rfl, rfl⟩; rfl)
def reasel23b (pe_Curve_0 : Int) (pe_Curve_1 : Int) (pe_Curve_2 : Int) (pe_Curve_3 : Int) (pt : Int) (K : Int → Prop) (x5l23 : Int) (C23 : Int → Prop) : Prop :=
  ((decide ((bendI pe_Curve_0 pe_Curve_2 x5l23) < pt)) = true → C23 (IntKind.wrap .i64 (x5l23 + 1))) ∧ ((decide ((bendI pe_Curve_0 pe_Curve_2 x5l23) < pt)) = false → K (bendI pe_Curve_1 pe_Curve_3 x5l23))
def reasel23 (pe_Curve_0 : Int) (pe_Curve_1 : Int) (pe_Curve_2 : Int) (pe_Curve_3 : Int) (pt : Int) (K : Int → Prop) : Nat → Int → Prop
  | 0, _ => False
  | k + 1, x5l23 => reasel23b pe_Curve_0 pe_Curve_1 pe_Curve_2 pe_Curve_3 pt K x5l23 (reasel23 pe_Curve_0 pe_Curve_1 pe_Curve_2 pe_Curve_3 pt K k)
def reaseF (pe_Kind : Int) (pe_Curve_0 : Int) (pe_Curve_1 : Int) (pe_Curve_2 : Int) (pe_Curve_3 : Int) (pe_N : Int) (pt : Int) (K : Int → Prop) : Prop :=
  (((pe_Kind == 1)) = true → K pt) ∧ (((pe_Kind == 1)) = false → (((pe_Kind == 3)) = true → pe_N ≠ 0 ∧ K (IntKind.wrap .i64 (Int.tdiv (IntKind.wrap .i64 ((IntKind.wrap .i64 (Int.tdiv (IntKind.wrap .i64 (pt * pe_N)) 1000)) * 1000)) pe_N))) ∧ (((pe_Kind == 3)) = false → ∃ k, reasel23 pe_Curve_0 pe_Curve_1 pe_Curve_2 pe_Curve_3 pt K k 0))
set_option maxHeartbeats 4000000 in
set_option maxRecDepth 100000 in
set_option linter.unusedVariables false in
theorem rease_ok {g : Ghost} (pe_Kind : Int) (pe_Curve_0 : Int) (pe_Curve_1 : Int) (pe_Curve_2 : Int) (pe_Curve_3 : Int) (pe_N : Int) (pt : Int) (K : Int → Prop)
    (hF : reaseF pe_Kind pe_Curve_0 pe_Curve_1 pe_Curve_2 pe_Curve_3 pe_N pt K) : CallsK Try.prog 17 #[.agg #[.int .i64 pe_Kind, .int .i64 pe_Curve_0, .int .i64 pe_Curve_1, .int .i64 pe_Curve_2, .int .i64 pe_Curve_3, .int .i64 pe_N], .int .i64 pt] g (fun v => ∃ r0 : Int, v = .int .i64 r0 ∧ K r0) := by
  refine CallsK.enter 42 [(0, .agg #[.int .i64 pe_Kind, .int .i64 pe_Curve_0, .int .i64 pe_Curve_1, .int .i64 pe_Curve_2, .int .i64 pe_Curve_3, .int .i64 pe_N]), (1, .int .i64 pt)] Try.func17 rfl (by kernel_rfl) (by kernel_rfl) (by kernel_rfl) fun w0 => ?_
  refine Ok.seq ?_
  refine Ok.region ?_
  refine Ok.op rfl (OpOk.box (v := .agg #[.int .i64 pe_Kind, .int .i64 pe_Curve_0, .int .i64 pe_Curve_1, .int .i64 pe_Curve_2, .int .i64 pe_Curve_3, .int .i64 pe_N]) (cs := #[.int .i64 pe_Kind, .int .i64 pe_Curve_0, .int .i64 pe_Curve_1, .int .i64 pe_Curve_2, .int .i64 pe_Curve_3, .int .i64 pe_N]) rfl (by kernel_rfl) rfl fun b1 => ?_)
  refine Ok.batch 1 [(1, .int .i64 pt), (2, .pointer (some ⟨b1, 0, none⟩))] (by kernel_rfl) ?_
  refine Ok.nil ?_
  refine Ok.thenN ?_
  refine Ok.seq ?_
  refine Ok.seq ?_
  refine Ok.region ?_
  refine Ok.batch 1 [(1, .int .i64 pt), (2, .pointer (some ⟨b1, 0, none⟩)), (6, .pointer (some ⟨b1, 0, none⟩))] (by kernel_rfl) ?_
  refine Ok.op rfl (OpOk.step (v := .int .i64 pe_Kind) (Yields.load 0 rfl rfl Try.underlying3 rfl (by kernel_rfl)) rfl rfl ?_)
  refine Ok.batch 1 [(1, .int .i64 pt), (2, .pointer (some ⟨b1, 0, none⟩)), (8, .bool (pe_Kind == 1))] (by kernel_rfl) ?_
  refine Ok.nil ?_
  refine Ok.thenN ?_
  refine Ok.cond (b := (pe_Kind == 1)) rfl (fun hc => ?_) (fun hc => ?_)
  · replace hF := hF.1 hc
    refine Ok.seq ?_
    refine Ok.region ?_
    refine Ok.batch 2 [(4, .int .i64 pt)] (by kernel_rfl) ?_
    refine Ok.nil ?_
    refine Ok.thenN ?_
    refine Ok.ret ?_
    refine Ok.thenR ?_
    exact Ok.res1 (.inl rfl) rfl (.tmp rfl) ⟨pt, rfl, hF⟩
  · replace hF := hF.2 hc
    refine Ok.skip ?_
    refine Ok.thenN ?_
    refine Ok.seq ?_
    refine Ok.seq ?_
    refine Ok.region ?_
    refine Ok.batch 1 [(1, .int .i64 pt), (2, .pointer (some ⟨b1, 0, none⟩)), (10, .pointer (some ⟨b1, 0, none⟩))] (by kernel_rfl) ?_
    refine Ok.op rfl (OpOk.step (v := .int .i64 pe_Kind) (Yields.load 0 rfl rfl Try.underlying3 rfl (by kernel_rfl)) rfl rfl ?_)
    refine Ok.batch 1 [(1, .int .i64 pt), (2, .pointer (some ⟨b1, 0, none⟩)), (12, .bool (pe_Kind == 3))] (by kernel_rfl) ?_
    refine Ok.nil ?_
    refine Ok.thenN ?_
    refine Ok.cond (b := (pe_Kind == 3)) rfl (fun hc => ?_) (fun hc => ?_)
    · replace hF := hF.1 hc
      refine Ok.seq ?_
      refine Ok.region ?_
      refine Ok.batch 2 [(2, .pointer (some ⟨b1, 0, none⟩)), (13, .int .i64 pt), (14, .pointer (some ⟨b1, 5, none⟩))] (by kernel_rfl) ?_
      refine Ok.op rfl (OpOk.step (v := .int .i64 pe_N) (Yields.load 0 rfl rfl Try.underlying3 rfl (by kernel_rfl)) rfl rfl ?_)
      refine Ok.batch 4 [(18, .int .i64 (IntKind.wrap .i64 ((IntKind.wrap .i64 (Int.tdiv (IntKind.wrap .i64 (pt * pe_N)) 1000)) * 1000))), (19, .pointer (some ⟨b1, 5, none⟩))] (by kernel_rfl) ?_
      refine Ok.op rfl (OpOk.step (v := .int .i64 pe_N) (Yields.load 0 rfl rfl Try.underlying3 rfl (by kernel_rfl)) rfl rfl ?_)
      obtain ⟨hv, hF⟩ := hF
      refine Ok.op rfl (OpOk.step (v := .int .i64 (IntKind.wrap .i64 (Int.tdiv (IntKind.wrap .i64 ((IntKind.wrap .i64 (Int.tdiv (IntKind.wrap .i64 (pt * pe_N)) 1000)) * 1000)) pe_N))) (Yields.quo rfl rfl hv) rfl rfl ?_)
      refine Ok.batch 1 [(4, .int .i64 (IntKind.wrap .i64 (Int.tdiv (IntKind.wrap .i64 ((IntKind.wrap .i64 (Int.tdiv (IntKind.wrap .i64 (pt * pe_N)) 1000)) * 1000)) pe_N)))] (by kernel_rfl) ?_
      refine Ok.nil ?_
      refine Ok.thenN ?_
      refine Ok.ret ?_
      refine Ok.thenR ?_
      exact Ok.res1 (.inl rfl) rfl (.tmp rfl) ⟨IntKind.wrap .i64 (Int.tdiv (IntKind.wrap .i64 ((IntKind.wrap .i64 (Int.tdiv (IntKind.wrap .i64 (pt * pe_N)) 1000)) * 1000)) pe_N), rfl, hF⟩
    · replace hF := hF.2 hc
      refine Ok.skip ?_
      refine Ok.thenN ?_
      refine Ok.seq ?_
      refine Ok.region ?_
      refine Ok.batch 1 [(1, .int .i64 pt), (2, .pointer (some ⟨b1, 0, none⟩)), (5, .int .i64 0)] (by kernel_rfl) ?_
      refine Ok.nil ?_
      refine Ok.thenN ?_
      refine Ok.seq ?_
      refine Ok.block ?_
      obtain ⟨k, hF⟩ := hF
      refine Ok.loop (fun k a W => ∃ (x5l23 : Int), StA 42 [(1, .int .i64 pt), (2, .pointer (some ⟨b1, 0, none⟩)), (5, .int .i64 x5l23)] a ∧ StW w0 [.blk b1 (.cells #[.int .i64 pe_Kind, .int .i64 pe_Curve_0, .int .i64 pe_Curve_1, .int .i64 pe_Curve_2, .int .i64 pe_Curve_3, .int .i64 pe_N] 25)] g W ∧ reasel23 pe_Curve_0 pe_Curve_1 pe_Curve_2 pe_Curve_3 pt K k x5l23) k ?_ ?_
      ·
        exact fun a W hA hW => ⟨0, hA.sub (by kernel_rfl), hW, hF⟩
      ·
        rintro k23 a W ⟨x5l23, hA, hW, hF⟩
        cases k23 with
        | zero => exact (hF : False).elim
        | succ k23 =>
          refine (?_ : Ok _ _ _ _ _ _) a W hA hW
          clear hA hW
          refine Ok.seq ?_
          refine Ok.seq ?_
          refine Ok.region ?_
          refine Ok.batch 2 [(1, .int .i64 pt), (2, .pointer (some ⟨b1, 0, none⟩)), (5, .int .i64 x5l23), (23, .pointer (some ⟨b1, 1, none⟩))] (by kernel_rfl) ?_
          refine Ok.op rfl (OpOk.step (v := .int .i64 pe_Curve_0) (Yields.load 0 rfl rfl Try.underlying3 rfl (by kernel_rfl)) rfl rfl ?_)
          refine Ok.batch 2 [(1, .int .i64 pt), (2, .pointer (some ⟨b1, 0, none⟩)), (5, .int .i64 x5l23), (24, .int .i64 pe_Curve_0), (26, .pointer (some ⟨b1, 3, none⟩))] (by kernel_rfl) ?_
          refine Ok.op rfl (OpOk.step (v := .int .i64 pe_Curve_2) (Yields.load 0 rfl rfl Try.underlying3 rfl (by kernel_rfl)) rfl rfl ?_)
          refine Ok.batch 1 [(1, .int .i64 pt), (2, .pointer (some ⟨b1, 0, none⟩)), (5, .int .i64 x5l23), (24, .int .i64 pe_Curve_0), (27, .int .i64 pe_Curve_2), (28, .int .i64 x5l23)] (by kernel_rfl) ?_
          refine Ok.op rfl (OpOk.call (v := .int .i64 (bendI pe_Curve_0 pe_Curve_2 x5l23)) (enters (by kernel_rfl) (fun _ => by kernel_rfl)) (rbend_c pe_Curve_0 pe_Curve_2 x5l23) rfl rfl ?_)
          refine Ok.batch 2 [(1, .int .i64 pt), (2, .pointer (some ⟨b1, 0, none⟩)), (5, .int .i64 x5l23), (31, .bool (decide ((bendI pe_Curve_0 pe_Curve_2 x5l23) < pt)))] (by kernel_rfl) ?_
          refine Ok.nil ?_
          refine Ok.thenN ?_
          refine Ok.cond (b := decide ((bendI pe_Curve_0 pe_Curve_2 x5l23) < pt)) rfl (fun hc => ?_) (fun hc => ?_)
          · replace hF := hF.1 hc
            refine Ok.skip ?_
            refine Ok.thenN ?_
            refine Ok.block ?_
            refine Ok.region ?_
            refine Ok.batch 3 [(1, .int .i64 pt), (2, .pointer (some ⟨b1, 0, none⟩)), (5, .int .i64 (IntKind.wrap .i64 (x5l23 + 1)))] (by kernel_rfl) ?_
            refine Ok.nil ?_
            refine Ok.blockN ?_
            refine Ok.thenN ?_
            exact fun a W hA hW => ⟨k23, Nat.lt_succ_self _, (IntKind.wrap .i64 (x5l23 + 1)), hA.sub (by kernel_rfl), hW, hF⟩
          · replace hF := hF.2 hc
            refine Ok.exit ?_
            refine Ok.thenE ?_
            refine Ok.thenE ?_
            refine Ok.blockHit ?_
            refine Ok.thenN ?_
            refine Ok.seq ?_
            refine Ok.region ?_
            refine Ok.batch 2 [(2, .pointer (some ⟨b1, 0, none⟩)), (5, .int .i64 x5l23), (35, .pointer (some ⟨b1, 2, none⟩))] (by kernel_rfl) ?_
            refine Ok.op rfl (OpOk.step (v := .int .i64 pe_Curve_1) (Yields.load 0 rfl rfl Try.underlying3 rfl (by kernel_rfl)) rfl rfl ?_)
            refine Ok.batch 2 [(5, .int .i64 x5l23), (36, .int .i64 pe_Curve_1), (38, .pointer (some ⟨b1, 4, none⟩))] (by kernel_rfl) ?_
            refine Ok.op rfl (OpOk.step (v := .int .i64 pe_Curve_3) (Yields.load 0 rfl rfl Try.underlying3 rfl (by kernel_rfl)) rfl rfl ?_)
            refine Ok.batch 1 [(36, .int .i64 pe_Curve_1), (39, .int .i64 pe_Curve_3), (40, .int .i64 x5l23)] (by kernel_rfl) ?_
            refine Ok.op rfl (OpOk.call (v := .int .i64 (bendI pe_Curve_1 pe_Curve_3 x5l23)) (enters (by kernel_rfl) (fun _ => by kernel_rfl)) (rbend_c pe_Curve_1 pe_Curve_3 x5l23) rfl rfl ?_)
            refine Ok.batch 1 [(4, .int .i64 (bendI pe_Curve_1 pe_Curve_3 x5l23))] (by kernel_rfl) ?_
            refine Ok.nil ?_
            refine Ok.thenN ?_
            refine Ok.ret ?_
            exact Ok.res1 (.inl rfl) rfl (.tmp rfl) ⟨bendI pe_Curve_1 pe_Curve_3 x5l23, rfl, hF⟩
theorem onebyone {c0 c1 c2 c3 t f : Int} {K : Int → Prop} (hf : t ≤ bendI c0 c2 f) (hf' : f ≤ 4096) (hb : ∀ i, 0 ≤ i → i < f → bendI c0 c2 i < t) (hK : K (bendI c1 c3 f)) :
    ∀ (n : Nat) (lo : Int), 0 ≤ lo → lo ≤ f → f - lo < n → reasel23 c0 c1 c2 c3 t K n lo := by
  intro n
  induction n with
  | zero => intro lo _ _ h; omega
  | succ n ih =>
    intro lo g1 g2 g3
    show reasel23b c0 c1 c2 c3 t K lo _
    unfold reasel23b
    rw [i64_in (lo + 1) (by omega)]
    refine ⟨fun h => ?_, fun h => ?_⟩
    · have h := of_decide_eq_true h
      refine ih _ (by omega) ?_ (by omega)
      rcases Int.lt_or_le lo f with h5 | h5
      · omega
      · obtain rfl : lo = f := by omega
        omega
    · have h := of_decide_eq_false h
      rcases Int.lt_or_le lo f with h5 | h5
      · exact absurd (hb lo g1 h5) h
      · obtain rfl : lo = f := by omega
        exact hK
theorem rease_F (e : E) (t : Int) (hp : easeP e t) : reaseF e.1 e.2.1.1 e.2.1.2.1 e.2.1.2.2.1 e.2.1.2.2.2 e.2.2 t (fun r => r = easeI e t) := by
  obtain ⟨hm, ht, ht'⟩ := hp
  unfold reaseF easeI
  refine ⟨fun h => ?_, fun h => ⟨fun h2 => ?_, fun h2 => ?_⟩⟩
  · have h3 : e.1 = 1 := by simpa using h
    rw [if_neg (by omega), if_neg (by omega)]
  · have h3 : e.1 = 3 := by simpa using h2
    have := may_steps hm h3
    exact ⟨by omega, by rw [if_pos h3]⟩
  · have h3 : ¬ e.1 = 1 := by simpa using h
    have h4 : ¬ e.1 = 3 := by simpa using h2
    have h5 : e.1 = 2 := by have := may_kind hm; omega
    obtain ⟨a1, -, a3, -⟩ := may_curve hm h5
    obtain ⟨f1, f2, f3, f4⟩ := first_is (t := t) a1.1 a1.2 a3.1 a3.2 ht'
    rw [if_neg h4, if_pos h5]
    obtain ⟨n, hn⟩ : ∃ n : Nat, (4096 : Int) < n := ⟨4097, by omega⟩
    exact ⟨n, onebyone f3 f2 f4 (by rfl) n _ (by omega) f1 (by omega)⟩
set_option linter.unusedVariables false in
theorem rease_c {g : Ghost} (xe : Int × (Int × Int × Int × Int) × Int) (xt : Int)  (hp : easeP xe xt) : CallsG Try.prog 17 #[.agg #[.int .i64 xe.1, .int .i64 xe.2.1.1, .int .i64 xe.2.1.2.1, .int .i64 xe.2.1.2.2.1, .int .i64 xe.2.1.2.2.2, .int .i64 xe.2.2], .int .i64 xt] g (.int .i64 (easeI xe xt)) :=
  (rease_ok xe.1 xe.2.1.1 xe.2.1.2.1 xe.2.1.2.2.1 xe.2.1.2.2.2 xe.2.2 xt _ (rease_F xe xt hp)).gives (by rintro _ ⟨_, rfl, rfl⟩; rfl)
def easeF (pe_Kind : Int) (pe_Curve_0 : Int) (pe_Curve_1 : Int) (pe_Curve_2 : Int) (pe_Curve_3 : Int) (pe_N : Int) (pt : Int) (K : Int → Int → Prop) : Prop :=
  ((!(mayB (pe_Kind, (pe_Curve_0, pe_Curve_1, pe_Curve_2, pe_Curve_3), pe_N))) = true → K 0 3) ∧ ((!(mayB (pe_Kind, (pe_Curve_0, pe_Curve_1, pe_Curve_2, pe_Curve_3), pe_N))) = false → ((!(inB pt 0 1000)) = true → K 0 1) ∧ ((!(inB pt 0 1000)) = false → easeP (pe_Kind, (pe_Curve_0, pe_Curve_1, pe_Curve_2, pe_Curve_3), pe_N) pt ∧ K (easeI (pe_Kind, (pe_Curve_0, pe_Curve_1, pe_Curve_2, pe_Curve_3), pe_N) pt) 0))
set_option maxHeartbeats 4000000 in
set_option maxRecDepth 100000 in
set_option linter.unusedVariables false in
theorem ease_ok {g : Ghost} (pe_Kind : Int) (pe_Curve_0 : Int) (pe_Curve_1 : Int) (pe_Curve_2 : Int) (pe_Curve_3 : Int) (pe_N : Int) (pt : Int) (K : Int → Int → Prop)
    (hF : easeF pe_Kind pe_Curve_0 pe_Curve_1 pe_Curve_2 pe_Curve_3 pe_N pt K) : CallsK Try.prog 15 #[.agg #[.int .i64 pe_Kind, .int .i64 pe_Curve_0, .int .i64 pe_Curve_1, .int .i64 pe_Curve_2, .int .i64 pe_Curve_3, .int .i64 pe_N], .int .i64 pt] g (fun v => ∃ r0 : Int, ∃ r1 : Int, v = .tuple #[.int .i64 r0, .int .i64 r1] ∧ K r0 r1) := by
  refine CallsK.enter 15 [(0, .agg #[.int .i64 pe_Kind, .int .i64 pe_Curve_0, .int .i64 pe_Curve_1, .int .i64 pe_Curve_2, .int .i64 pe_Curve_3, .int .i64 pe_N]), (1, .int .i64 pt)] Try.func15 rfl (by kernel_rfl) (by kernel_rfl) (by kernel_rfl) fun w0 => ?_
  refine Ok.seq ?_
  refine Ok.region ?_
  refine Ok.op rfl (OpOk.box (v := .agg #[.int .i64 pe_Kind, .int .i64 pe_Curve_0, .int .i64 pe_Curve_1, .int .i64 pe_Curve_2, .int .i64 pe_Curve_3, .int .i64 pe_N]) (cs := #[.int .i64 pe_Kind, .int .i64 pe_Curve_0, .int .i64 pe_Curve_1, .int .i64 pe_Curve_2, .int .i64 pe_Curve_3, .int .i64 pe_N]) rfl (by kernel_rfl) rfl fun b1 => ?_)
  refine Ok.batch 2 [(1, .int .i64 pt), (2, .pointer (some ⟨b1, 0, none⟩))] (by kernel_rfl) ?_
  refine Ok.nil ?_
  refine Ok.thenN ?_
  refine Ok.seq ?_
  refine Ok.seq ?_
  refine Ok.region ?_
  refine Ok.op rfl (OpOk.step (v := .agg #[.int .i64 pe_Kind, .int .i64 pe_Curve_0, .int .i64 pe_Curve_1, .int .i64 pe_Curve_2, .int .i64 pe_Curve_3, .int .i64 pe_N]) (Yields.loadAgg 0 6 #[.int .i64 pe_Kind, .int .i64 pe_Curve_0, .int .i64 pe_Curve_1, .int .i64 pe_Curve_2, .int .i64 pe_Curve_3, .int .i64 pe_N] rfl rfl Try.underlying25 rfl (by kernel_rfl) (by kernel_rfl) (by kernel_rfl)) rfl rfl ?_)
  refine Ok.op rfl (OpOk.call (v := .bool (mayB (pe_Kind, (pe_Curve_0, pe_Curve_1, pe_Curve_2, pe_Curve_3), pe_N))) (enters (by kernel_rfl) (fun _ => by kernel_rfl)) (easing_c (pe_Kind, (pe_Curve_0, pe_Curve_1, pe_Curve_2, pe_Curve_3), pe_N)) rfl rfl ?_)
  refine Ok.batch 1 [(1, .int .i64 pt), (2, .pointer (some ⟨b1, 0, none⟩)), (8, .bool (!(mayB (pe_Kind, (pe_Curve_0, pe_Curve_1, pe_Curve_2, pe_Curve_3), pe_N))))] (by kernel_rfl) ?_
  refine Ok.nil ?_
  refine Ok.thenN ?_
  refine Ok.cond (b := !(mayB (pe_Kind, (pe_Curve_0, pe_Curve_1, pe_Curve_2, pe_Curve_3), pe_N))) rfl (fun hc => ?_) (fun hc => ?_)
  · replace hF := hF.1 hc
    refine Ok.seq ?_
    refine Ok.region ?_
    refine Ok.batch 2 [(4, .int .i64 0), (5, .int .i64 3)] (by kernel_rfl) ?_
    refine Ok.nil ?_
    refine Ok.thenN ?_
    refine Ok.ret ?_
    refine Ok.thenR ?_
    exact Ok.res2 (.inl rfl) rfl (.tmp rfl) (.tmp rfl) ⟨0, 3, rfl, hF⟩
  · replace hF := hF.2 hc
    refine Ok.skip ?_
    refine Ok.thenN ?_
    refine Ok.seq ?_
    refine Ok.seq ?_
    refine Ok.region ?_
    refine Ok.batch 1 [(1, .int .i64 pt), (2, .pointer (some ⟨b1, 0, none⟩)), (9, .int .i64 pt)] (by kernel_rfl) ?_
    refine Ok.op rfl (OpOk.call (v := .bool (inB pt 0 1000)) (enters (by kernel_rfl) (fun _ => by kernel_rfl)) (in_c pt 0 1000) rfl rfl ?_)
    refine Ok.batch 1 [(1, .int .i64 pt), (2, .pointer (some ⟨b1, 0, none⟩)), (11, .bool (!(inB pt 0 1000)))] (by kernel_rfl) ?_
    refine Ok.nil ?_
    refine Ok.thenN ?_
    refine Ok.cond (b := !(inB pt 0 1000)) rfl (fun hc => ?_) (fun hc => ?_)
    · replace hF := hF.1 hc
      refine Ok.seq ?_
      refine Ok.region ?_
      refine Ok.batch 2 [(4, .int .i64 0), (5, .int .i64 1)] (by kernel_rfl) ?_
      refine Ok.nil ?_
      refine Ok.thenN ?_
      refine Ok.ret ?_
      refine Ok.thenR ?_
      exact Ok.res2 (.inl rfl) rfl (.tmp rfl) (.tmp rfl) ⟨0, 1, rfl, hF⟩
    · replace hF := hF.2 hc
      refine Ok.skip ?_
      refine Ok.thenN ?_
      refine Ok.seq ?_
      refine Ok.region ?_
      refine Ok.op rfl (OpOk.step (v := .agg #[.int .i64 pe_Kind, .int .i64 pe_Curve_0, .int .i64 pe_Curve_1, .int .i64 pe_Curve_2, .int .i64 pe_Curve_3, .int .i64 pe_N]) (Yields.loadAgg 0 6 #[.int .i64 pe_Kind, .int .i64 pe_Curve_0, .int .i64 pe_Curve_1, .int .i64 pe_Curve_2, .int .i64 pe_Curve_3, .int .i64 pe_N] rfl rfl Try.underlying25 rfl (by kernel_rfl) (by kernel_rfl) (by kernel_rfl)) rfl rfl ?_)
      refine Ok.batch 1 [(12, .agg #[.int .i64 pe_Kind, .int .i64 pe_Curve_0, .int .i64 pe_Curve_1, .int .i64 pe_Curve_2, .int .i64 pe_Curve_3, .int .i64 pe_N]), (13, .int .i64 pt)] (by kernel_rfl) ?_
      obtain ⟨hp, hF⟩ := hF
      refine Ok.op rfl (OpOk.call (v := .int .i64 (easeI (pe_Kind, (pe_Curve_0, pe_Curve_1, pe_Curve_2, pe_Curve_3), pe_N) pt)) (enters (by kernel_rfl) (fun _ => by kernel_rfl)) (eased_c (pe_Kind, (pe_Curve_0, pe_Curve_1, pe_Curve_2, pe_Curve_3), pe_N) pt hp) rfl rfl ?_)
      refine Ok.batch 2 [(4, .int .i64 (easeI (pe_Kind, (pe_Curve_0, pe_Curve_1, pe_Curve_2, pe_Curve_3), pe_N) pt)), (5, .int .i64 0)] (by kernel_rfl) ?_
      refine Ok.nil ?_
      refine Ok.thenN ?_
      refine Ok.ret ?_
      exact Ok.res2 (.inl rfl) rfl (.tmp rfl) (.tmp rfl) ⟨easeI (pe_Kind, (pe_Curve_0, pe_Curve_1, pe_Curve_2, pe_Curve_3), pe_N) pt, 0, rfl, hF⟩
def easeR (e : E) (t : Int) : Int × Int := if mayB e = false then (0, 3) else if inB t 0 1000 = false then (0, 1) else (easeI e t, 0)
theorem ease_F (e : E) (t : Int) : easeF e.1 e.2.1.1 e.2.1.2.1 e.2.1.2.2.1 e.2.1.2.2.2 e.2.2 t (fun r s => r = (easeR e t).1 ∧ s = (easeR e t).2) := by
  unfold easeF easeR
  refine ⟨fun h => ?_, fun h => ⟨fun h2 => ?_, fun h2 => ⟨⟨?_, ?_⟩, ?_⟩⟩⟩
  · have h1 : mayB e = false := by simpa using h
    simp [h1]
  · have h1 : mayB e = true := by simpa using h
    have h3 : inB t 0 1000 = false := by simpa using h2
    simp [h1, h3]
  · simpa using h
  · exact inB_true.1 (by simpa using h2)
  · have h1 : mayB e = true := by simpa using h
    have h3 : inB t 0 1000 = true := by simpa using h2
    simp [h1, h3]
set_option linter.unusedVariables false in
theorem ease_c {g : Ghost} (xe : Int × (Int × Int × Int × Int) × Int) (xt : Int)  : CallsG Try.prog 15 #[.agg #[.int .i64 xe.1, .int .i64 xe.2.1.1, .int .i64 xe.2.1.2.1, .int .i64 xe.2.1.2.2.1, .int .i64 xe.2.1.2.2.2, .int .i64 xe.2.2], .int .i64 xt] g (.tuple #[.int .i64 ((easeR xe xt).1), .int .i64 ((easeR xe xt).2)]) :=
  (ease_ok xe.1 xe.2.1.1 xe.2.1.2.1 xe.2.1.2.2.1 xe.2.1.2.2.2 xe.2.2 xt _ (ease_F xe xt)).gives (by rintro _ ⟨_, _, rfl, rfl, rfl⟩; rfl)
def steppedj5 (K : Bool → Prop) (x0j5 : Bool) : Prop :=
  K x0j5
def steppedF (K : Bool → Prop) : Prop :=
  (((((easeR (3, (0, 0, 0, 0), 4) 600).2) == 0)) = true → steppedj5 K (((easeR (3, (0, 0, 0, 0), 4) 600).1) == 500)) ∧ (((((easeR (3, (0, 0, 0, 0), 4) 600).2) == 0)) = false → steppedj5 K false)
set_option maxHeartbeats 4000000 in
set_option maxRecDepth 100000 in
set_option linter.unusedVariables false in
theorem stepped_ok {g : Ghost}  (K : Bool → Prop)
    (hF : steppedF K) : CallsK Try.prog 14 #[] g (fun v => ∃ r0 : Bool, v = .bool r0 ∧ K r0) := by
  refine CallsK.enter 14 [] Try.func14 rfl (by kernel_rfl) (by kernel_rfl) (by kernel_rfl) fun w0 => ?_
  refine Ok.seq ?_
  refine Ok.region ?_
  refine Ok.batch 1 [] (by kernel_rfl) ?_
  refine Ok.nil ?_
  refine Ok.thenN ?_
  refine Ok.seq ?_
  refine Ok.region ?_
  refine Ok.batch 1 [(4, .agg #[.int .i64 3, .int .i64 0, .int .i64 0, .int .i64 0, .int .i64 0, .int .i64 4])] (by kernel_rfl) ?_
  refine Ok.op rfl (OpOk.call (v := .tuple #[.int .i64 ((easeR (3, (0, 0, 0, 0), 4) 600).1), .int .i64 ((easeR (3, (0, 0, 0, 0), 4) 600).2)]) (enters (by kernel_rfl) (fun _ => by kernel_rfl)) (ease_c (3, (0, 0, 0, 0), 4) 600) rfl rfl ?_)
  refine Ok.batch 5 [(1, .int .i64 ((easeR (3, (0, 0, 0, 0), 4) 600).1)), (2, .int .i64 ((easeR (3, (0, 0, 0, 0), 4) 600).2))] (by kernel_rfl) ?_
  refine Ok.nil ?_
  refine Ok.thenN ?_
  refine Ok.cut (fun a W => ∃ (x0j5 : Bool), StA 14 [(0, .bool x0j5)] a ∧ StW w0 [] g W ∧ steppedj5 K x0j5) ?_ ?_
  ·
    refine Ok.region ?_
    refine Ok.batch 3 [(1, .int .i64 ((easeR (3, (0, 0, 0, 0), 4) 600).1)), (10, .bool (((easeR (3, (0, 0, 0, 0), 4) 600).2) == 0))] (by kernel_rfl) ?_
    refine Ok.boolAt 10 ((((easeR (3, (0, 0, 0, 0), 4) 600).2) == 0)) rfl (fun hc => ?_) (fun hc => ?_)
    · replace hF := hF.1 hc
      refine Ok.batch 4 [(0, .bool (((easeR (3, (0, 0, 0, 0), 4) 600).1) == 500))] (by kernel_rfl) ?_
      refine Ok.nil ?_
      refine Ok.thenN ?_
      exact fun a W hA hW => ⟨(((easeR (3, (0, 0, 0, 0), 4) 600).1) == 500), hA.sub (by kernel_rfl), hW, hF⟩
    · replace hF := hF.2 hc
      refine Ok.batch 4 [(0, .bool false)] (by kernel_rfl) ?_
      refine Ok.nil ?_
      refine Ok.thenN ?_
      exact fun a W hA hW => ⟨false, hA.sub (by kernel_rfl), hW, hF⟩
  ·
    rintro a W ⟨x0j5, hA, hW, hF⟩
    refine (?_ : Ok _ _ _ _ _ _) a W hA hW
    clear hA hW
    refine Ok.ret ?_
    exact Ok.res1 (.inl rfl) rfl (.tmp rfl) ⟨x0j5, rfl, hF⟩
theorem stepped_F : steppedF (fun r => r = true) := by
  have h : easeR (3, (0, 0, 0, 0), 4) 600 = (500, 0) := by decide
  unfold steppedF steppedj5
  simp [h]
set_option linter.unusedVariables false in
theorem stepped_c {g : Ghost}   : CallsG Try.prog 14 #[] g (.bool true) :=
  (stepped_ok  _ (stepped_F )).gives (by rintro _ ⟨_, rfl, rfl⟩; rfl)
def lawj11 (K : Bool → Prop) (x4j11 : Bool) : Prop :=
  K x4j11
def lawj19 (K : Bool → Prop) (x4j19 : Bool) : Prop :=
  K x4j19
def lawj23 (K : Bool → Prop) (x4j23 : Bool) : Prop :=
  K x4j23
def lawj16 (pk_Kind : Int) (pk_Curve_0 : Int) (pk_Curve_1 : Int) (pk_Curve_2 : Int) (pk_Curve_3 : Int) (pk_N : Int) (pt : Int) (K : Bool → Prop) (x32j16 : Bool) : Prop :=
  ((x32j16) = true → ((true) = true → (((((easeR (pk_Kind, (pk_Curve_0, pk_Curve_1, pk_Curve_2, pk_Curve_3), pk_N) pt).1) == 0)) = true → lawj19 K (((easeR (pk_Kind, (pk_Curve_0, pk_Curve_1, pk_Curve_2, pk_Curve_3), pk_N) pt).2) == 1)) ∧ (((((easeR (pk_Kind, (pk_Curve_0, pk_Curve_1, pk_Curve_2, pk_Curve_3), pk_N) pt).1) == 0)) = false → lawj19 K false)) ∧ ((true) = false → lawj19 K false)) ∧ ((x32j16) = false → ((true) = true → (((((easeR (pk_Kind, (pk_Curve_0, pk_Curve_1, pk_Curve_2, pk_Curve_3), pk_N) pt).2) == 0)) = true → easeP (pk_Kind, (pk_Curve_0, pk_Curve_1, pk_Curve_2, pk_Curve_3), pk_N) pt ∧ lawj23 K (((easeR (pk_Kind, (pk_Curve_0, pk_Curve_1, pk_Curve_2, pk_Curve_3), pk_N) pt).1) == (easeI (pk_Kind, (pk_Curve_0, pk_Curve_1, pk_Curve_2, pk_Curve_3), pk_N) pt))) ∧ (((((easeR (pk_Kind, (pk_Curve_0, pk_Curve_1, pk_Curve_2, pk_Curve_3), pk_N) pt).2) == 0)) = false → lawj23 K false)) ∧ ((true) = false → lawj23 K false))
def lawF (pk_Kind : Int) (pk_Curve_0 : Int) (pk_Curve_1 : Int) (pk_Curve_2 : Int) (pk_Curve_3 : Int) (pk_N : Int) (pt : Int) (K : Bool → Prop) : Prop :=
  ((!(mayB (pk_Kind, (pk_Curve_0, pk_Curve_1, pk_Curve_2, pk_Curve_3), pk_N))) = true → ((true) = true → (((((easeR (pk_Kind, (pk_Curve_0, pk_Curve_1, pk_Curve_2, pk_Curve_3), pk_N) pt).1) == 0)) = true → lawj11 K (((easeR (pk_Kind, (pk_Curve_0, pk_Curve_1, pk_Curve_2, pk_Curve_3), pk_N) pt).2) == 3)) ∧ (((((easeR (pk_Kind, (pk_Curve_0, pk_Curve_1, pk_Curve_2, pk_Curve_3), pk_N) pt).1) == 0)) = false → lawj11 K false)) ∧ ((true) = false → lawj11 K false)) ∧ ((!(mayB (pk_Kind, (pk_Curve_0, pk_Curve_1, pk_Curve_2, pk_Curve_3), pk_N))) = false → ((decide (pt < 0)) = true → lawj16 pk_Kind pk_Curve_0 pk_Curve_1 pk_Curve_2 pk_Curve_3 pk_N pt K true) ∧ ((decide (pt < 0)) = false → lawj16 pk_Kind pk_Curve_0 pk_Curve_1 pk_Curve_2 pk_Curve_3 pk_N pt K (decide (pt > 1000))))
set_option maxHeartbeats 4000000 in
set_option maxRecDepth 100000 in
set_option linter.unusedVariables false in
theorem law_ok {g : Ghost} (pk_Kind : Int) (pk_Curve_0 : Int) (pk_Curve_1 : Int) (pk_Curve_2 : Int) (pk_Curve_3 : Int) (pk_N : Int) (pt : Int) (K : Bool → Prop)
    (hF : lawF pk_Kind pk_Curve_0 pk_Curve_1 pk_Curve_2 pk_Curve_3 pk_N pt K) : CallsK Try.prog 4 #[.agg #[.int .i64 pk_Kind, .int .i64 pk_Curve_0, .int .i64 pk_Curve_1, .int .i64 pk_Curve_2, .int .i64 pk_Curve_3, .int .i64 pk_N], .int .i64 pt] g (fun v => ∃ r0 : Bool, v = .bool r0 ∧ K r0) := by
  refine CallsK.enter 54 [(0, .agg #[.int .i64 pk_Kind, .int .i64 pk_Curve_0, .int .i64 pk_Curve_1, .int .i64 pk_Curve_2, .int .i64 pk_Curve_3, .int .i64 pk_N]), (1, .int .i64 pt)] Try.func4 rfl (by kernel_rfl) (by kernel_rfl) (by kernel_rfl) fun w0 => ?_
  refine Ok.seq ?_
  refine Ok.region ?_
  refine Ok.op rfl (OpOk.box (v := .agg #[.int .i64 pk_Kind, .int .i64 pk_Curve_0, .int .i64 pk_Curve_1, .int .i64 pk_Curve_2, .int .i64 pk_Curve_3, .int .i64 pk_N]) (cs := #[.int .i64 pk_Kind, .int .i64 pk_Curve_0, .int .i64 pk_Curve_1, .int .i64 pk_Curve_2, .int .i64 pk_Curve_3, .int .i64 pk_N]) rfl (by kernel_rfl) rfl fun b1 => ?_)
  refine Ok.batch 1 [(1, .int .i64 pt), (2, .pointer (some ⟨b1, 0, none⟩))] (by kernel_rfl) ?_
  refine Ok.nil ?_
  refine Ok.thenN ?_
  refine Ok.seq ?_
  refine Ok.region ?_
  refine Ok.op rfl (OpOk.call (v := .bool true) (enters (by kernel_rfl) (fun _ => by kernel_rfl)) (stepped_c ) rfl rfl ?_)
  refine Ok.batch 1 [(1, .int .i64 pt), (2, .pointer (some ⟨b1, 0, none⟩)), (5, .bool true)] (by kernel_rfl) ?_
  refine Ok.nil ?_
  refine Ok.thenN ?_
  refine Ok.seq ?_
  refine Ok.region ?_
  refine Ok.op rfl (OpOk.step (v := .agg #[.int .i64 pk_Kind, .int .i64 pk_Curve_0, .int .i64 pk_Curve_1, .int .i64 pk_Curve_2, .int .i64 pk_Curve_3, .int .i64 pk_N]) (Yields.loadAgg 0 6 #[.int .i64 pk_Kind, .int .i64 pk_Curve_0, .int .i64 pk_Curve_1, .int .i64 pk_Curve_2, .int .i64 pk_Curve_3, .int .i64 pk_N] rfl rfl Try.underlying25 rfl (by kernel_rfl) (by kernel_rfl) (by kernel_rfl)) rfl rfl ?_)
  refine Ok.batch 1 [(1, .int .i64 pt), (2, .pointer (some ⟨b1, 0, none⟩)), (5, .bool true), (10, .agg #[.int .i64 pk_Kind, .int .i64 pk_Curve_0, .int .i64 pk_Curve_1, .int .i64 pk_Curve_2, .int .i64 pk_Curve_3, .int .i64 pk_N]), (11, .int .i64 pt)] (by kernel_rfl) ?_
  refine Ok.op rfl (OpOk.call (v := .tuple #[.int .i64 ((easeR (pk_Kind, (pk_Curve_0, pk_Curve_1, pk_Curve_2, pk_Curve_3), pk_N) pt).1), .int .i64 ((easeR (pk_Kind, (pk_Curve_0, pk_Curve_1, pk_Curve_2, pk_Curve_3), pk_N) pt).2)]) (enters (by kernel_rfl) (fun _ => by kernel_rfl)) (ease_c (pk_Kind, (pk_Curve_0, pk_Curve_1, pk_Curve_2, pk_Curve_3), pk_N) pt) rfl rfl ?_)
  refine Ok.batch 5 [(1, .int .i64 pt), (2, .pointer (some ⟨b1, 0, none⟩)), (5, .bool true), (6, .int .i64 ((easeR (pk_Kind, (pk_Curve_0, pk_Curve_1, pk_Curve_2, pk_Curve_3), pk_N) pt).1)), (7, .int .i64 ((easeR (pk_Kind, (pk_Curve_0, pk_Curve_1, pk_Curve_2, pk_Curve_3), pk_N) pt).2))] (by kernel_rfl) ?_
  refine Ok.nil ?_
  refine Ok.thenN ?_
  refine Ok.seq ?_
  refine Ok.seq ?_
  refine Ok.region ?_
  refine Ok.op rfl (OpOk.step (v := .agg #[.int .i64 pk_Kind, .int .i64 pk_Curve_0, .int .i64 pk_Curve_1, .int .i64 pk_Curve_2, .int .i64 pk_Curve_3, .int .i64 pk_N]) (Yields.loadAgg 0 6 #[.int .i64 pk_Kind, .int .i64 pk_Curve_0, .int .i64 pk_Curve_1, .int .i64 pk_Curve_2, .int .i64 pk_Curve_3, .int .i64 pk_N] rfl rfl Try.underlying25 rfl (by kernel_rfl) (by kernel_rfl) (by kernel_rfl)) rfl rfl ?_)
  refine Ok.op rfl (OpOk.call (v := .bool (mayB (pk_Kind, (pk_Curve_0, pk_Curve_1, pk_Curve_2, pk_Curve_3), pk_N))) (enters (by kernel_rfl) (fun _ => by kernel_rfl)) (rmay_c (pk_Kind, (pk_Curve_0, pk_Curve_1, pk_Curve_2, pk_Curve_3), pk_N)) rfl rfl ?_)
  refine Ok.batch 1 [(1, .int .i64 pt), (2, .pointer (some ⟨b1, 0, none⟩)), (5, .bool true), (6, .int .i64 ((easeR (pk_Kind, (pk_Curve_0, pk_Curve_1, pk_Curve_2, pk_Curve_3), pk_N) pt).1)), (7, .int .i64 ((easeR (pk_Kind, (pk_Curve_0, pk_Curve_1, pk_Curve_2, pk_Curve_3), pk_N) pt).2)), (17, .bool (!(mayB (pk_Kind, (pk_Curve_0, pk_Curve_1, pk_Curve_2, pk_Curve_3), pk_N))))] (by kernel_rfl) ?_
  refine Ok.nil ?_
  refine Ok.thenN ?_
  refine Ok.cond (b := !(mayB (pk_Kind, (pk_Curve_0, pk_Curve_1, pk_Curve_2, pk_Curve_3), pk_N))) rfl (fun hc => ?_) (fun hc => ?_)
  · replace hF := hF.1 hc
    refine Ok.cut (fun a W => ∃ (x4j11 : Bool), StA 54 [(4, .bool x4j11)] a ∧ StW w0 [] g W ∧ lawj11 K x4j11) ?_ ?_
    ·
      refine Ok.region ?_
      refine Ok.batch 2 [(6, .int .i64 ((easeR (pk_Kind, (pk_Curve_0, pk_Curve_1, pk_Curve_2, pk_Curve_3), pk_N) pt).1)), (7, .int .i64 ((easeR (pk_Kind, (pk_Curve_0, pk_Curve_1, pk_Curve_2, pk_Curve_3), pk_N) pt).2)), (19, .bool true)] (by kernel_rfl) ?_
      refine Ok.boolAt 19 (true) rfl (fun hc => ?_) (fun hc => ?_)
      · replace hF := hF.1 hc
        refine Ok.batch 4 [(7, .int .i64 ((easeR (pk_Kind, (pk_Curve_0, pk_Curve_1, pk_Curve_2, pk_Curve_3), pk_N) pt).2)), (23, .bool (((easeR (pk_Kind, (pk_Curve_0, pk_Curve_1, pk_Curve_2, pk_Curve_3), pk_N) pt).1) == 0))] (by kernel_rfl) ?_
        refine Ok.boolAt 23 ((((easeR (pk_Kind, (pk_Curve_0, pk_Curve_1, pk_Curve_2, pk_Curve_3), pk_N) pt).1) == 0)) rfl (fun hc => ?_) (fun hc => ?_)
        · replace hF := hF.1 hc
          refine Ok.batch 4 [(4, .bool (((easeR (pk_Kind, (pk_Curve_0, pk_Curve_1, pk_Curve_2, pk_Curve_3), pk_N) pt).2) == 3))] (by kernel_rfl) ?_
          refine Ok.nil ?_
          refine Ok.thenN ?_
          exact fun a W hA hW => ⟨(((easeR (pk_Kind, (pk_Curve_0, pk_Curve_1, pk_Curve_2, pk_Curve_3), pk_N) pt).2) == 3), hA.sub (by kernel_rfl), hW.sub (.cons _ .slnil), hF⟩
        · replace hF := hF.2 hc
          refine Ok.batch 4 [(4, .bool false)] (by kernel_rfl) ?_
          refine Ok.nil ?_
          refine Ok.thenN ?_
          exact fun a W hA hW => ⟨false, hA.sub (by kernel_rfl), hW.sub (.cons _ .slnil), hF⟩
      · replace hF := hF.2 hc
        refine Ok.batch 8 [(4, .bool false)] (by kernel_rfl) ?_
        refine Ok.nil ?_
        refine Ok.thenN ?_
        exact fun a W hA hW => ⟨false, hA.sub (by kernel_rfl), hW.sub (.cons _ .slnil), hF⟩
    ·
      rintro a W ⟨x4j11, hA, hW, hF⟩
      refine (?_ : Ok _ _ _ _ _ _) a W hA hW
      clear hA hW
      refine Ok.ret ?_
      refine Ok.thenR ?_
      exact Ok.res1 (.inl rfl) rfl (.tmp rfl) ⟨x4j11, rfl, hF⟩
  · replace hF := hF.2 hc
    refine Ok.skip ?_
    refine Ok.thenN ?_
    refine Ok.seq ?_
    refine Ok.cut (fun a W => ∃ (x32j16 : Bool), StA 54 [(1, .int .i64 pt), (2, .pointer (some ⟨b1, 0, none⟩)), (5, .bool true), (6, .int .i64 ((easeR (pk_Kind, (pk_Curve_0, pk_Curve_1, pk_Curve_2, pk_Curve_3), pk_N) pt).1)), (7, .int .i64 ((easeR (pk_Kind, (pk_Curve_0, pk_Curve_1, pk_Curve_2, pk_Curve_3), pk_N) pt).2)), (32, .bool x32j16)] a ∧ StW w0 [.blk b1 (.cells #[.int .i64 pk_Kind, .int .i64 pk_Curve_0, .int .i64 pk_Curve_1, .int .i64 pk_Curve_2, .int .i64 pk_Curve_3, .int .i64 pk_N] 25)] g W ∧ lawj16 pk_Kind pk_Curve_0 pk_Curve_1 pk_Curve_2 pk_Curve_3 pk_N pt K x32j16) ?_ ?_
    ·
      refine Ok.region ?_
      refine Ok.batch 3 [(1, .int .i64 pt), (2, .pointer (some ⟨b1, 0, none⟩)), (5, .bool true), (6, .int .i64 ((easeR (pk_Kind, (pk_Curve_0, pk_Curve_1, pk_Curve_2, pk_Curve_3), pk_N) pt).1)), (7, .int .i64 ((easeR (pk_Kind, (pk_Curve_0, pk_Curve_1, pk_Curve_2, pk_Curve_3), pk_N) pt).2)), (29, .bool (decide (pt < 0)))] (by kernel_rfl) ?_
      refine Ok.boolAt 29 (decide (pt < 0)) rfl (fun hc => ?_) (fun hc => ?_)
      · replace hF := hF.1 hc
        refine Ok.batch 3 [(1, .int .i64 pt), (2, .pointer (some ⟨b1, 0, none⟩)), (5, .bool true), (6, .int .i64 ((easeR (pk_Kind, (pk_Curve_0, pk_Curve_1, pk_Curve_2, pk_Curve_3), pk_N) pt).1)), (7, .int .i64 ((easeR (pk_Kind, (pk_Curve_0, pk_Curve_1, pk_Curve_2, pk_Curve_3), pk_N) pt).2)), (32, .bool true)] (by kernel_rfl) ?_
        refine Ok.nil ?_
        refine Ok.thenN ?_
        exact fun a W hA hW => ⟨true, hA.sub (by kernel_rfl), hW, hF⟩
      · replace hF := hF.2 hc
        refine Ok.batch 3 [(1, .int .i64 pt), (2, .pointer (some ⟨b1, 0, none⟩)), (5, .bool true), (6, .int .i64 ((easeR (pk_Kind, (pk_Curve_0, pk_Curve_1, pk_Curve_2, pk_Curve_3), pk_N) pt).1)), (7, .int .i64 ((easeR (pk_Kind, (pk_Curve_0, pk_Curve_1, pk_Curve_2, pk_Curve_3), pk_N) pt).2)), (32, .bool (decide (pt > 1000)))] (by kernel_rfl) ?_
        refine Ok.nil ?_
        refine Ok.thenN ?_
        exact fun a W hA hW => ⟨(decide (pt > 1000)), hA.sub (by kernel_rfl), hW, hF⟩
    ·
      rintro a W ⟨x32j16, hA, hW, hF⟩
      refine (?_ : Ok _ _ _ _ _ _) a W hA hW
      clear hA hW
      refine Ok.cond (b := x32j16) rfl (fun hc => ?_) (fun hc => ?_)
      · replace hF := hF.1 hc
        refine Ok.cut (fun a W => ∃ (x4j19 : Bool), StA 54 [(4, .bool x4j19)] a ∧ StW w0 [] g W ∧ lawj19 K x4j19) ?_ ?_
        ·
          refine Ok.region ?_
          refine Ok.batch 2 [(6, .int .i64 ((easeR (pk_Kind, (pk_Curve_0, pk_Curve_1, pk_Curve_2, pk_Curve_3), pk_N) pt).1)), (7, .int .i64 ((easeR (pk_Kind, (pk_Curve_0, pk_Curve_1, pk_Curve_2, pk_Curve_3), pk_N) pt).2)), (34, .bool true)] (by kernel_rfl) ?_
          refine Ok.boolAt 34 (true) rfl (fun hc => ?_) (fun hc => ?_)
          · replace hF := hF.1 hc
            refine Ok.batch 4 [(7, .int .i64 ((easeR (pk_Kind, (pk_Curve_0, pk_Curve_1, pk_Curve_2, pk_Curve_3), pk_N) pt).2)), (38, .bool (((easeR (pk_Kind, (pk_Curve_0, pk_Curve_1, pk_Curve_2, pk_Curve_3), pk_N) pt).1) == 0))] (by kernel_rfl) ?_
            refine Ok.boolAt 38 ((((easeR (pk_Kind, (pk_Curve_0, pk_Curve_1, pk_Curve_2, pk_Curve_3), pk_N) pt).1) == 0)) rfl (fun hc => ?_) (fun hc => ?_)
            · replace hF := hF.1 hc
              refine Ok.batch 4 [(4, .bool (((easeR (pk_Kind, (pk_Curve_0, pk_Curve_1, pk_Curve_2, pk_Curve_3), pk_N) pt).2) == 1))] (by kernel_rfl) ?_
              refine Ok.nil ?_
              refine Ok.thenN ?_
              exact fun a W hA hW => ⟨(((easeR (pk_Kind, (pk_Curve_0, pk_Curve_1, pk_Curve_2, pk_Curve_3), pk_N) pt).2) == 1), hA.sub (by kernel_rfl), hW.sub (.cons _ .slnil), hF⟩
            · replace hF := hF.2 hc
              refine Ok.batch 4 [(4, .bool false)] (by kernel_rfl) ?_
              refine Ok.nil ?_
              refine Ok.thenN ?_
              exact fun a W hA hW => ⟨false, hA.sub (by kernel_rfl), hW.sub (.cons _ .slnil), hF⟩
          · replace hF := hF.2 hc
            refine Ok.batch 8 [(4, .bool false)] (by kernel_rfl) ?_
            refine Ok.nil ?_
            refine Ok.thenN ?_
            exact fun a W hA hW => ⟨false, hA.sub (by kernel_rfl), hW.sub (.cons _ .slnil), hF⟩
        ·
          rintro a W ⟨x4j19, hA, hW, hF⟩
          refine (?_ : Ok _ _ _ _ _ _) a W hA hW
          clear hA hW
          refine Ok.ret ?_
          refine Ok.thenR ?_
          exact Ok.res1 (.inl rfl) rfl (.tmp rfl) ⟨x4j19, rfl, hF⟩
      · replace hF := hF.2 hc
        refine Ok.skip ?_
        refine Ok.thenN ?_
        refine Ok.cut (fun a W => ∃ (x4j23 : Bool), StA 54 [(4, .bool x4j23)] a ∧ StW w0 [] g W ∧ lawj23 K x4j23) ?_ ?_
        ·
          refine Ok.region ?_
          refine Ok.batch 2 [(1, .int .i64 pt), (2, .pointer (some ⟨b1, 0, none⟩)), (6, .int .i64 ((easeR (pk_Kind, (pk_Curve_0, pk_Curve_1, pk_Curve_2, pk_Curve_3), pk_N) pt).1)), (7, .int .i64 ((easeR (pk_Kind, (pk_Curve_0, pk_Curve_1, pk_Curve_2, pk_Curve_3), pk_N) pt).2)), (43, .bool true)] (by kernel_rfl) ?_
          refine Ok.boolAt 43 (true) rfl (fun hc => ?_) (fun hc => ?_)
          · replace hF := hF.1 hc
            refine Ok.batch 4 [(1, .int .i64 pt), (2, .pointer (some ⟨b1, 0, none⟩)), (6, .int .i64 ((easeR (pk_Kind, (pk_Curve_0, pk_Curve_1, pk_Curve_2, pk_Curve_3), pk_N) pt).1)), (47, .bool (((easeR (pk_Kind, (pk_Curve_0, pk_Curve_1, pk_Curve_2, pk_Curve_3), pk_N) pt).2) == 0))] (by kernel_rfl) ?_
            refine Ok.boolAt 47 ((((easeR (pk_Kind, (pk_Curve_0, pk_Curve_1, pk_Curve_2, pk_Curve_3), pk_N) pt).2) == 0)) rfl (fun hc => ?_) (fun hc => ?_)
            · replace hF := hF.1 hc
              refine Ok.batch 1 [(1, .int .i64 pt), (2, .pointer (some ⟨b1, 0, none⟩)), (47, .bool true), (48, .int .i64 ((easeR (pk_Kind, (pk_Curve_0, pk_Curve_1, pk_Curve_2, pk_Curve_3), pk_N) pt).1))] (by kernel_rfl) ?_
              refine Ok.opYes (j := 5) (d := 47) (want := true) (b := true) rfl (by kernel_rfl) (by kernel_rfl) rfl (OpOk.step (v := .agg #[.int .i64 pk_Kind, .int .i64 pk_Curve_0, .int .i64 pk_Curve_1, .int .i64 pk_Curve_2, .int .i64 pk_Curve_3, .int .i64 pk_N]) (Yields.loadAgg 0 6 #[.int .i64 pk_Kind, .int .i64 pk_Curve_0, .int .i64 pk_Curve_1, .int .i64 pk_Curve_2, .int .i64 pk_Curve_3, .int .i64 pk_N] rfl rfl Try.underlying25 rfl (by kernel_rfl) (by kernel_rfl) (by kernel_rfl)) rfl rfl ?_)
              refine Ok.batch 1 [(47, .bool true), (48, .int .i64 ((easeR (pk_Kind, (pk_Curve_0, pk_Curve_1, pk_Curve_2, pk_Curve_3), pk_N) pt).1)), (49, .agg #[.int .i64 pk_Kind, .int .i64 pk_Curve_0, .int .i64 pk_Curve_1, .int .i64 pk_Curve_2, .int .i64 pk_Curve_3, .int .i64 pk_N]), (50, .int .i64 pt)] (by kernel_rfl) ?_
              obtain ⟨hp, hF⟩ := hF
              refine Ok.opYes (j := 5) (d := 47) (want := true) (b := true) rfl (by kernel_rfl) (by kernel_rfl) rfl (OpOk.call (v := .int .i64 (easeI (pk_Kind, (pk_Curve_0, pk_Curve_1, pk_Curve_2, pk_Curve_3), pk_N) pt)) (enters (by kernel_rfl) (fun _ => by kernel_rfl)) (rease_c (pk_Kind, (pk_Curve_0, pk_Curve_1, pk_Curve_2, pk_Curve_3), pk_N) pt hp) rfl rfl ?_)
              refine Ok.batch 3 [(4, .bool (((easeR (pk_Kind, (pk_Curve_0, pk_Curve_1, pk_Curve_2, pk_Curve_3), pk_N) pt).1) == (easeI (pk_Kind, (pk_Curve_0, pk_Curve_1, pk_Curve_2, pk_Curve_3), pk_N) pt)))] (by kernel_rfl) ?_
              refine Ok.nil ?_
              refine Ok.thenN ?_
              exact fun a W hA hW => ⟨(((easeR (pk_Kind, (pk_Curve_0, pk_Curve_1, pk_Curve_2, pk_Curve_3), pk_N) pt).1) == (easeI (pk_Kind, (pk_Curve_0, pk_Curve_1, pk_Curve_2, pk_Curve_3), pk_N) pt)), hA.sub (by kernel_rfl), hW.sub (.cons _ .slnil), hF⟩
            · replace hF := hF.2 hc
              refine Ok.batch 7 [(4, .bool false)] (by kernel_rfl) ?_
              refine Ok.nil ?_
              refine Ok.thenN ?_
              exact fun a W hA hW => ⟨false, hA.sub (by kernel_rfl), hW.sub (.cons _ .slnil), hF⟩
          · replace hF := hF.2 hc
            refine Ok.batch 11 [(4, .bool false)] (by kernel_rfl) ?_
            refine Ok.nil ?_
            refine Ok.thenN ?_
            exact fun a W hA hW => ⟨false, hA.sub (by kernel_rfl), hW.sub (.cons _ .slnil), hF⟩
        ·
          rintro a W ⟨x4j23, hA, hW, hF⟩
          refine (?_ : Ok _ _ _ _ _ _) a W hA hW
          clear hA hW
          refine Ok.ret ?_
          exact Ok.res1 (.inl rfl) rfl (.tmp rfl) ⟨x4j23, rfl, hF⟩
theorem law_F (e : E) (t : Int) : lawF e.1 e.2.1.1 e.2.1.2.1 e.2.1.2.2.1 e.2.1.2.2.2 e.2.2 t (fun r => r = true) := by
  unfold lawF lawj16 lawj11 lawj19 lawj23
  refine ⟨fun h => ?_, fun h => ?_⟩
  · have h1 : mayB e = false := by simpa using h
    simp [easeR, h1]
  · have h1 : mayB e = true := by simpa using h
    by_cases g1 : t < 0
    · have h3 : inB t 0 1000 = false := inB_false.2 (by omega)
      simp [easeR, h1, h3, g1]
    · by_cases g2 : t > 1000
      · have h3 : inB t 0 1000 = false := inB_false.2 (by omega)
        simp [easeR, h1, h3, g1, g2]
      · have h3 : inB t 0 1000 = true := inB_true.2 (by omega)
        simp [easeR, h1, h3, g1, g2, easeP]
        omega
set_option linter.unusedVariables false in
theorem law_c {g : Ghost} (xk : Int × (Int × Int × Int × Int) × Int) (xt : Int)  : CallsG Try.prog 4 #[.agg #[.int .i64 xk.1, .int .i64 xk.2.1.1, .int .i64 xk.2.1.2.1, .int .i64 xk.2.1.2.2.1, .int .i64 xk.2.1.2.2.2, .int .i64 xk.2.2], .int .i64 xt] g (.bool true) :=
  (law_ok xk.1 xk.2.1.1 xk.2.1.2.1 xk.2.1.2.2.1 xk.2.1.2.2.2 xk.2.2 xt _ (law_F xk xt)).gives (by rintro _ ⟨_, rfl, rfl⟩; rfl)
end Go.Proofs.Ytejkloinamgpaaa.An
