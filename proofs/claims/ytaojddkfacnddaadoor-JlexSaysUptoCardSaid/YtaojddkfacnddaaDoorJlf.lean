/- The script reader: the reference's tokens and quotes. -/
import Derived.Test.YtaojddkfacnddaaDoorJle
namespace Go.Proofs.YtaojddkfacnddaaDoor.Jl
open Go Go.Eng Go.RowKit Bld Fl
set_option linter.unusedVariables false
theorem bf1 (c : UInt8) : btwM (IntKind.wrap .i64 (c.toNat : Int)) 48 57 = jdigM (c.toNat : Int) := beq_iff_eq.1 (byte_all (p := fun c => btwM (IntKind.wrap .i64 (c.toNat : Int)) 48 57 == jdigM (c.toNat : Int)) (by decide +kernel) c)
theorem bf2 (c : UInt8) (h : jdigM (c.toNat : Int) = true) : jletM (c.toNat : Int) = false := by
  have := byte_all (p := fun c => !jdigM (c.toNat : Int) || !jletM (c.toNat : Int)) (by decide +kernel) c
  rw [h] at this
  simpa using this
theorem bf3 (c : UInt8) : rnbM (c.toNat : Int) = jnbM (c.toNat : Int) := beq_iff_eq.1 (byte_all (p := fun c => rnbM (c.toNat : Int) == jnbM (c.toNat : Int)) (by decide +kernel) c)
theorem bf4 (c : UInt8) (h : jnbM (c.toNat : Int) = true) : c ≠ 32 := fun e => by
  rw [e] at h; exact absurd h (by decide)
theorem jnb_or (x : Int) : jnbM x = (jletM x || jdigM x) := rfl
theorem esc_o (s : List UInt8) (i : Int) (o : List TK) : (jescS (s, i, o)).1 = (jescS (s, i, [])).1 ∧ (jescS (s, i, o)).2.1 = (jescS (s, i, [])).2.1 := by
  unfold jescS
  have h : ∀ n, (jpeekS (s, i, o) n).1 = (jpeekS (s, i, []) n).1 := fun n => rfl
  have h2 : ∀ n, hexI (s, i, o) n = hexI (s, i, []) n := fun n => rfl
  simp only [h, h2]
  repeat' split
  all_goals exact ⟨rfl, rfl⟩
theorem txN_o (s : List UInt8) (o : List TK) : ∀ (k : Nat) (i : Int) (acc : List Int), txN s o k i acc = ((txN s [] k i acc).1, (txN s [] k i acc).2.1, (s, (txN s [] k i acc).2.2.2.1, o))
  | 0, i, acc => rfl
  | k + 1, i, acc => by
    rw [txN, txN, (esc_o s (i + 1) o).1, (esc_o s (i + 1) o).2, txN_o s o k _ (acc ++ [(jescS (s, i + 1, [])).1]), txN_o s o k (i + 1) (acc ++ [((s.getD i.toNat 0).toNat : Int)])]
    repeat' split
    all_goals rfl
theorem txN_err (s : List UInt8) (o : List TK) : ∀ (k : Nat) (i : Int) (acc : List Int), ((txN s o k i acc).2.1 = 0 ∧ ∃ t, (txN s o k i acc).1 = (3, 0, 0, t, 0)) ∨ ((txN s o k i acc).2.1 = 4)
  | 0, i, acc => .inr rfl
  | k + 1, i, acc => by
    rw [txN]
    repeat' split
    all_goals first | exact .inl ⟨rfl, _, rfl⟩ | exact .inr rfl | exact txN_err s o k _ _
theorem sk_ws {s : List UInt8} {i : Int} (o : List TK) (h0 : 0 ≤ i) (h1 : i < (s.length : Int)) (h : wsB (s.getD i.toNat 0) = true) : jskipS (s, i, o) = jskipS (s, i + 1, o) := by
  unfold jskipS
  have : i + (skN (s.drop i.toNat) false : Nat) = i + 1 + (skN (s.drop (i + 1).toNat) false : Nat) := by
    rw [drop_get (l := s) (k := i.toNat) 0 (by omega), skN, if_t h, show (i + 1).toNat = i.toNat + 1 by omega]; omega
  show (s, i + (skN (s.drop i.toNat) false : Nat), o) = (s, i + 1 + (skN (s.drop (i + 1).toNat) false : Nat), o)
  rw [this]
theorem hp47 (c : UInt8) (l : List UInt8) : hpM (c :: l) [47, 47] = (((c.toNat : Int) == 47) && (((l.headD 0).toNat : Int) == 47)) := by
  rw [hp2]
  cases l with
  | nil => simp
  | cons d l =>
    have : ((c :: d :: l).take 2 == [47, 47]) = (((c.toNat : Int) == 47) && ((d.toNat : Int) == 47)) := by
      rw [Bool.eq_iff_iff, beq_iff_eq, Bool.and_eq_true, beq_iff_eq, beq_iff_eq]
      constructor
      · intro h
        simp only [List.take_succ_cons, List.take_zero, List.cons.injEq, and_true] at h
        rw [h.1, h.2]; exact ⟨rfl, rfl⟩
      · intro ⟨h1, h2⟩
        rw [UInt8.toNat_inj.1 (show c.toNat = (47 : UInt8).toNat by show c.toNat = 47; omega), UInt8.toNat_inj.1 (show d.toNat = (47 : UInt8).toNat by show d.toNat = 47; omega)]; rfl
    rw [this, decide_eq_true (show 2 ≤ (c :: d :: l).length by simp only [List.length_cons]; omega), Bool.true_and]
    rfl
theorem run_nil {is : Int → Bool} {c : UInt8} {l : List UInt8} (h : is (c.toNat : Int) = false) : runN is (c :: l) = 0 := by rw [runN, if_f h]
theorem run_cons {is : Int → Bool} {c : UInt8} {l : List UInt8} (h : is (c.toNat : Int) = true) : runN is (c :: l) = 1 + runN is l := by rw [runN, if_t h]
def rtdj31 (K : (List (Int × Int × Int × List UInt8 × Int)) → Int → Prop) (x8j31 : Int) (yb6_0j31 : Int) (yb6_3j31 : List UInt8) (yb6_4j31 : Int) (x5l17 : Int) (yown4_0l17 : List (Int × Int × Int × List UInt8 × Int)) (C17 : Int → (List (Int × Int × Int × List UInt8 × Int)) → Prop) : Prop :=
  ((((yown4_0l17.length : Int) == 1000)) = true → K ([] : List (Int × Int × Int × List UInt8 × Int)) 2) ∧ ((((yown4_0l17.length : Int) == 1000)) = false → (yown4_0l17 ++ ([(yb6_0j31, x5l17, x8j31, yb6_3j31, yb6_4j31)] : List (Int × Int × Int × List UInt8 × Int))).length ≤ 2932031007402 ∧ C17 x8j31 (yown4_0l17 ++ ([(yb6_0j31, x5l17, x8j31, yb6_3j31, yb6_4j31)] : List (Int × Int × Int × List UInt8 × Int))))
def rtdj46 (xs : List UInt8) (x5l44 : Int) (yown4_0l17 : List (Int × Int × Int × List UInt8 × Int)) (C17 : Int → (List (Int × Int × Int × List UInt8 × Int)) → Prop) (C44 : Int → Prop) : Prop :=
  ((((decide (x5l44 < (xs.length : Int))) && (((xs.getD (Int.toNat x5l44) 0).toNat : Int) != 10))) = true → C44 (IntKind.wrap .i64 (x5l44 + 1))) ∧ ((((decide (x5l44 < (xs.length : Int))) && (((xs.getD (Int.toNat x5l44) 0).toNat : Int) != 10))) = false → C17 x5l44 yown4_0l17)
def rtdl44b (xs : List UInt8) (yown4_0l17 : List (Int × Int × Int × List UInt8 × Int)) (C17 : Int → (List (Int × Int × Int × List UInt8 × Int)) → Prop) (x5l44 : Int) (C44 : Int → Prop) : Prop :=
  ((decide (x5l44 < (xs.length : Int))) = true → (0 : Int) ≤ x5l44 ∧ Int.toNat x5l44 < xs.length ∧ rtdj46 xs x5l44 yown4_0l17 C17 C44) ∧ ((decide (x5l44 < (xs.length : Int))) = false → rtdj46 xs x5l44 yown4_0l17 C17 C44)
def rtdl44 (xs : List UInt8) (yown4_0l17 : List (Int × Int × Int × List UInt8 × Int)) (C17 : Int → (List (Int × Int × Int × List UInt8 × Int)) → Prop) : Nat → Int → Prop
  | 0, _ => False
  | k + 1, x5l44 => rtdl44b xs yown4_0l17 C17 x5l44 (rtdl44 xs yown4_0l17 C17 k)
def rtdj80 (xs : List UInt8) (K : (List (Int × Int × Int × List UInt8 × Int)) → Int → Prop) (x8l61 : Int) (yb6_4l61 : Int) (x5l17 : Int) (yown4_0l17 : List (Int × Int × Int × List UInt8 × Int)) (C17 : Int → (List (Int × Int × Int × List UInt8 × Int)) → Prop) : Prop :=
  ((((decide (x8l61 < (xs.length : Int))) && (rnbM ((xs.getD (Int.toNat x8l61) 0).toNat : Int)))) = true → K ([] : List (Int × Int × Int × List UInt8 × Int)) 4) ∧ ((((decide (x8l61 < (xs.length : Int))) && (rnbM ((xs.getD (Int.toNat x8l61) 0).toNat : Int)))) = false → rtdj31 K x8l61 2 ([] : List UInt8) yb6_4l61 x5l17 yown4_0l17 C17)
def rtdj63 (xs : List UInt8) (K : (List (Int × Int × Int × List UInt8 × Int)) → Int → Prop) (x8l61 : Int) (yb6_4l61 : Int) (x5l17 : Int) (yown4_0l17 : List (Int × Int × Int × List UInt8 × Int)) (C17 : Int → (List (Int × Int × Int × List UInt8 × Int)) → Prop) (C61 : Int → Int → Prop) : Prop :=
  ((((decide (x8l61 < (xs.length : Int))) && (btwM (IntKind.wrap .i64 ((xs.getD (Int.toNat x8l61) 0).toNat : Int)) 48 57))) = true → (0 : Int) ≤ x8l61 ∧ Int.toNat x8l61 < xs.length ∧ ((decide ((IntKind.wrap .i64 ((IntKind.wrap .i64 (10 * yb6_4l61)) + (IntKind.wrap .i64 (IntKind.wrap .u8 (((xs.getD (Int.toNat x8l61) 0).toNat : Int) - 48))))) > 9007199254740992)) = true → K ([] : List (Int × Int × Int × List UInt8 × Int)) 2) ∧ ((decide ((IntKind.wrap .i64 ((IntKind.wrap .i64 (10 * yb6_4l61)) + (IntKind.wrap .i64 (IntKind.wrap .u8 (((xs.getD (Int.toNat x8l61) 0).toNat : Int) - 48))))) > 9007199254740992)) = false → C61 (IntKind.wrap .i64 (x8l61 + 1)) (IntKind.wrap .i64 ((IntKind.wrap .i64 (10 * yb6_4l61)) + (IntKind.wrap .i64 (IntKind.wrap .u8 (((xs.getD (Int.toNat x8l61) 0).toNat : Int) - 48))))))) ∧ ((((decide (x8l61 < (xs.length : Int))) && (btwM (IntKind.wrap .i64 ((xs.getD (Int.toNat x8l61) 0).toNat : Int)) 48 57))) = false → ((decide (x8l61 < (xs.length : Int))) = true → (0 : Int) ≤ x8l61 ∧ Int.toNat x8l61 < xs.length ∧ rtdj80 xs K x8l61 yb6_4l61 x5l17 yown4_0l17 C17) ∧ ((decide (x8l61 < (xs.length : Int))) = false → rtdj80 xs K x8l61 yb6_4l61 x5l17 yown4_0l17 C17))
def rtdl61b (xs : List UInt8) (K : (List (Int × Int × Int × List UInt8 × Int)) → Int → Prop) (x5l17 : Int) (yown4_0l17 : List (Int × Int × Int × List UInt8 × Int)) (C17 : Int → (List (Int × Int × Int × List UInt8 × Int)) → Prop) (x8l61 : Int) (yb6_4l61 : Int) (C61 : Int → Int → Prop) : Prop :=
  ((decide (x8l61 < (xs.length : Int))) = true → (0 : Int) ≤ x8l61 ∧ Int.toNat x8l61 < xs.length ∧ rtdj63 xs K x8l61 yb6_4l61 x5l17 yown4_0l17 C17 C61) ∧ ((decide (x8l61 < (xs.length : Int))) = false → rtdj63 xs K x8l61 yb6_4l61 x5l17 yown4_0l17 C17 C61)
def rtdl61 (xs : List UInt8) (K : (List (Int × Int × Int × List UInt8 × Int)) → Int → Prop) (x5l17 : Int) (yown4_0l17 : List (Int × Int × Int × List UInt8 × Int)) (C17 : Int → (List (Int × Int × Int × List UInt8 × Int)) → Prop) : Nat → Int → Int → Prop
  | 0, _, _ => False
  | k + 1, x8l61, yb6_4l61 => rtdl61b xs K x5l17 yown4_0l17 C17 x8l61 yb6_4l61 (rtdl61 xs K x5l17 yown4_0l17 C17 k)
def rtdj94 (xs : List UInt8) (K : (List (Int × Int × Int × List UInt8 × Int)) → Int → Prop) (x8l92 : Int) (x5l17 : Int) (yown4_0l17 : List (Int × Int × Int × List UInt8 × Int)) (C17 : Int → (List (Int × Int × Int × List UInt8 × Int)) → Prop) (C92 : Int → Prop) : Prop :=
  ((((decide (x8l92 < (xs.length : Int))) && (rnbM ((xs.getD (Int.toNat x8l92) 0).toNat : Int)))) = true → C92 (IntKind.wrap .i64 (x8l92 + 1))) ∧ ((((decide (x8l92 < (xs.length : Int))) && (rnbM ((xs.getD (Int.toNat x8l92) 0).toNat : Int)))) = false → (0 : Int) ≤ x5l17 ∧ (x5l17 : Int) ≤ x8l92 ∧ x8l92 ≤ (xs.length : Int) ∧ rwordP ((xs.take (Int.toNat x8l92)).drop (Int.toNat x5l17)) ∧ (((rwordS ((xs.take (Int.toNat x8l92)).drop (Int.toNat x5l17)))) = true → rtdj31 K x8l92 5 ((xs.take (Int.toNat x8l92)).drop (Int.toNat x5l17)) 0 x5l17 yown4_0l17 C17) ∧ (((rwordS ((xs.take (Int.toNat x8l92)).drop (Int.toNat x5l17)))) = false → rtdj31 K x8l92 1 ((xs.take (Int.toNat x8l92)).drop (Int.toNat x5l17)) 0 x5l17 yown4_0l17 C17))
def rtdl92b (xs : List UInt8) (K : (List (Int × Int × Int × List UInt8 × Int)) → Int → Prop) (x5l17 : Int) (yown4_0l17 : List (Int × Int × Int × List UInt8 × Int)) (C17 : Int → (List (Int × Int × Int × List UInt8 × Int)) → Prop) (x8l92 : Int) (C92 : Int → Prop) : Prop :=
  ((decide (x8l92 < (xs.length : Int))) = true → (0 : Int) ≤ x8l92 ∧ Int.toNat x8l92 < xs.length ∧ rtdj94 xs K x8l92 x5l17 yown4_0l17 C17 C92) ∧ ((decide (x8l92 < (xs.length : Int))) = false → rtdj94 xs K x8l92 x5l17 yown4_0l17 C17 C92)
def rtdl92 (xs : List UInt8) (K : (List (Int × Int × Int × List UInt8 × Int)) → Int → Prop) (x5l17 : Int) (yown4_0l17 : List (Int × Int × Int × List UInt8 × Int)) (C17 : Int → (List (Int × Int × Int × List UInt8 × Int)) → Prop) : Nat → Int → Prop
  | 0, _ => False
  | k + 1, x8l92 => rtdl92b xs K x5l17 yown4_0l17 C17 x8l92 (rtdl92 xs K x5l17 yown4_0l17 C17 k)
def rtdl17b (xs : List UInt8) (K : (List (Int × Int × Int × List UInt8 × Int)) → Int → Prop) (x5l17 : Int) (yown4_0l17 : List (Int × Int × Int × List UInt8 × Int)) (C17 : Int → (List (Int × Int × Int × List UInt8 × Int)) → Prop) : Prop :=
  ((decide (x5l17 < (xs.length : Int))) = true → (0 : Int) ≤ x5l17 ∧ Int.toNat x5l17 < xs.length ∧ ((((((((xs.getD (Int.toNat x5l17) 0).toNat : Int) == 32) || (((xs.getD (Int.toNat x5l17) 0).toNat : Int) == 9)) || (((xs.getD (Int.toNat x5l17) 0).toNat : Int) == 10)) || (((xs.getD (Int.toNat x5l17) 0).toNat : Int) == 13))) = true → C17 (IntKind.wrap .i64 (x5l17 + 1)) yown4_0l17) ∧ ((((((((xs.getD (Int.toNat x5l17) 0).toNat : Int) == 32) || (((xs.getD (Int.toNat x5l17) 0).toNat : Int) == 9)) || (((xs.getD (Int.toNat x5l17) 0).toNat : Int) == 10)) || (((xs.getD (Int.toNat x5l17) 0).toNat : Int) == 13))) = false → (0 : Int) ≤ x5l17 ∧ (x5l17 : Int) ≤ (xs.length : Int) ∧ (xs.length : Int) ≤ (xs.length : Int) ∧ (((hpM (xs.drop (Int.toNat x5l17)) ([47, 47] : List UInt8))) = true → ∃ k, rtdl44 xs yown4_0l17 C17 k x5l17) ∧ (((hpM (xs.drop (Int.toNat x5l17)) ([47, 47] : List UInt8))) = false → (((btwM (IntKind.wrap .i64 ((xs.getD (Int.toNat x5l17) 0).toNat : Int)) 48 57)) = true → ∃ k, rtdl61 xs K x5l17 yown4_0l17 C17 k x5l17 0) ∧ (((btwM (IntKind.wrap .i64 ((xs.getD (Int.toNat x5l17) 0).toNat : Int)) 48 57)) = false → (((rnbM ((xs.getD (Int.toNat x5l17) 0).toNat : Int))) = true → ∃ k, rtdl92 xs K x5l17 yown4_0l17 C17 k x5l17) ∧ (((rnbM ((xs.getD (Int.toNat x5l17) 0).toNat : Int))) = false → (((((xs.getD (Int.toNat x5l17) 0).toNat : Int) == 34)) = true → rtaP xs x5l17 ∧ ((decide (((rtaS xs x5l17).2) < 0)) = true → K ([] : List (Int × Int × Int × List UInt8 × Int)) 4) ∧ ((decide (((rtaS xs x5l17).2) < 0)) = false → rtdj31 K ((rtaS xs x5l17).2) 3 ((rtaS xs x5l17).1) 0 x5l17 yown4_0l17 C17)) ∧ (((((xs.getD (Int.toNat x5l17) 0).toNat : Int) == 34)) = false → (0 : Int) ≤ x5l17 ∧ (x5l17 : Int) ≤ (xs.length : Int) ∧ (xs.length : Int) ≤ (xs.length : Int) ∧ rsaP (xs.drop (Int.toNat x5l17)) ∧ ((((rsaS (xs.drop (Int.toNat x5l17))) == ([] : List UInt8))) = true → K ([] : List (Int × Int × Int × List UInt8 × Int)) 4) ∧ ((((rsaS (xs.drop (Int.toNat x5l17))) == ([] : List UInt8))) = false → rtdj31 K (IntKind.wrap .i64 (x5l17 + ((rsaS (xs.drop (Int.toNat x5l17))).length : Int))) 4 (rsaS (xs.drop (Int.toNat x5l17))) 0 x5l17 yown4_0l17 C17))))))) ∧ ((decide (x5l17 < (xs.length : Int))) = false → K yown4_0l17 0)
def rtdl17 (xs : List UInt8) (K : (List (Int × Int × Int × List UInt8 × Int)) → Int → Prop) : Nat → Int → (List (Int × Int × Int × List UInt8 × Int)) → Prop
  | 0, _, _ => False
  | k + 1, x5l17, yown4_0l17 => rtdl17b xs K x5l17 yown4_0l17 (rtdl17 xs K k)
def rtdF (xs : List UInt8) (K : (List (Int × Int × Int × List UInt8 × Int)) → Int → Prop) : Prop :=
  ((decide ((xs.length : Int) > 2000)) = true → K ([] : List (Int × Int × Int × List UInt8 × Int)) 2) ∧ ((decide ((xs.length : Int) > 2000)) = false → ∃ k, rtdl17 xs K k 0 ([] : List (Int × Int × Int × List UInt8 × Int)))
set_option maxHeartbeats 4000000 in
set_option maxRecDepth 100000 in
set_option linter.unusedVariables false in
theorem rtd_ok {g : Ghost} (xs : List UInt8) (hG1 : SomeInt g 1) (K : (List (Int × Int × Int × List UInt8 × Int)) → Int → Prop)
    (hF : rtdF xs K) : CallsH Tryd.prog 6 #[.string ⟨⟨xs⟩⟩] g [] (fun g' H' v => ∃ (r0 : List (Int × Int × Int × List UInt8 × Int)), ∃ (r1 : Int), ∃ (ar0_0 : Option Addr) (cr0_0 : Nat), v = .tuple #[.slice ar0_0 r0.length cr0_0, .int .i64 r1] ∧ Rep g' (.slice (.pair (.int .i64) (.pair (.int .i64) (.pair (.int .i64) (.pair (.str) (.int .i64)))))) [.slice ar0_0 r0.length cr0_0] r0 ∧ H' = [] ∧ K r0 r1) := by
  refine CallsH.enter 160 [(0, .string ⟨⟨xs⟩⟩)] Tryd.func6 rfl (by kernel_rfl) (by kernel_rfl) (by kernel_rfl) fun w0 => ?_
  refine Ok.seq ?_
  refine Ok.region ?_
  refine Ok.batch 1 [(0, .string ⟨⟨xs⟩⟩)] (by kernel_rfl) ?_
  refine Ok.batch 1 [(0, .string ⟨⟨xs⟩⟩)] (by kernel_rfl) ?_
  refine Ok.nil ?_
  refine Ok.thenN ?_
  refine Ok.seq ?_
  refine Ok.seq ?_
  refine Ok.region ?_
  refine Ok.batch 3 [(0, .string ⟨⟨xs⟩⟩), (11, .bool (decide ((xs.length : Int) > 2000)))] (by kernel_rfl) ?_
  refine Ok.nil ?_
  refine Ok.thenN ?_
  refine Ok.cond (b := decide ((xs.length : Int) > 2000)) rfl (fun hc1 => ?_) (fun hc1 => ?_)
  · replace hF := hF.1 hc1
    refine Ok.seq ?_
    refine Ok.region ?_
    refine Ok.batch 1 [(2, .slice none 0 0)] (by kernel_rfl) ?_
    have hL2 : RepL g (.pair (.int .i64) (.pair (.int .i64) (.pair (.int .i64) (.pair (.str) (.int .i64))))) [] [] := rfl
    refine Ok.ownNil 39 5 ?_
    refine Ok.batch 1 [(2, .slice none ([] : List (Int × Int × Int × List UInt8 × Int)).length 0), (3, .int .i64 2)] (by kernel_rfl) ?_
    refine Ok.nil ?_
    refine Ok.thenN ?_
    refine Ok.ret ?_
    refine Ok.thenR ?_
    refine Ok.freeze (H' := []) 0 rfl hL2 rfl fun g3 hx3 hRf3 => ?_
    replace hG1 := hG1.mono hx3.1
    exact Ok.resH (vs := [.slice none ([] : List (Int × Int × Int × List UInt8 × Int)).length 0, .int .i64 2]) (.inl rfl) rfl (.cons (.tmp rfl) (.cons (.tmp rfl) .nil)) hx3 ⟨([] : List (Int × Int × Int × List UInt8 × Int)), 2, none, 0, rfl, hRf3, rfl, hF⟩
  · replace hF := hF.2 hc1
    refine Ok.skip ?_
    refine Ok.thenN ?_
    refine Ok.seq ?_
    refine Ok.region ?_
    refine Ok.batch 1 [(0, .string ⟨⟨xs⟩⟩), (4, .slice none 0 0)] (by kernel_rfl) ?_
    have hL4 : RepL g (.pair (.int .i64) (.pair (.int .i64) (.pair (.int .i64) (.pair (.str) (.int .i64))))) [] [] := rfl
    refine Ok.ownNil 39 5 ?_
    refine Ok.nil ?_
    refine Ok.thenN ?_
    refine Ok.seq ?_
    refine Ok.seq ?_
    refine Ok.region ?_
    refine Ok.batch 1 [(0, .string ⟨⟨xs⟩⟩), (4, .slice none ([] : List (Int × Int × Int × List UInt8 × Int)).length 0), (5, .int .i64 0)] (by kernel_rfl) ?_
    refine Ok.nil ?_
    refine Ok.thenN ?_
    refine Ok.block ?_
    obtain ⟨k, hF⟩ := hF
    refine Ok.loop (fun k a W => ∃ gl17 : Ghost, Gext w0 g gl17 ∧ ∃ (x5l17 : Int) (ayown4_0l17 : Option Addr) (cyown4_0l17 : Nat) (yown4_0l17 : List (Int × Int × Int × List UInt8 × Int)) (xsyown4_0l17 : List Value), RepL gl17 (.pair (.int .i64) (.pair (.int .i64) (.pair (.int .i64) (.pair (.str) (.int .i64))))) xsyown4_0l17 yown4_0l17 ∧ StA 160 [(0, .string ⟨⟨xs⟩⟩), (4, .slice ayown4_0l17 yown4_0l17.length cyown4_0l17), (5, .int .i64 x5l17)] a ∧ StW w0 [.own (.slice ayown4_0l17 yown4_0l17.length cyown4_0l17) 39 5 yown4_0l17.length xsyown4_0l17] gl17 W ∧ rtdl17 xs K k x5l17 yown4_0l17) k ?_ ?_
    ·
      exact fun a W hA hW => ⟨g, (Gext.refl w0 g), 0, none, 0, ([] : List (Int × Int × Int × List UInt8 × Int)), [], hL4, hA.sub (by kernel_rfl), hW, hF⟩
    ·
      clear hF
      rintro k17 a W ⟨gl17, hxl17, x5l17, ayown4_0l17, cyown4_0l17, yown4_0l17, xsyown4_0l17, hLyown4_0l17, hA, hW, hF⟩
      cases k17 with
      | zero => exact (hF : False).elim
      | succ k17 =>
        refine (?_ : Ok _ _ _ _ _ _) a W hA hW
        clear hA hW
        replace hG1 := hG1.mono hxl17.1
        refine Ok.seq ?_
        refine Ok.seq ?_
        refine Ok.region ?_
        refine Ok.batch 4 [(0, .string ⟨⟨xs⟩⟩), (4, .slice ayown4_0l17 yown4_0l17.length cyown4_0l17), (5, .int .i64 x5l17), (15, .bool (decide (x5l17 < (xs.length : Int))))] (by kernel_rfl) ?_
        refine Ok.nil ?_
        refine Ok.thenN ?_
        refine Ok.cond (b := decide (x5l17 < (xs.length : Int))) rfl (fun hc5 => ?_) (fun hc5 => ?_)
        · replace hF := hF.1 hc5
          refine Ok.skip ?_
          refine Ok.thenN ?_
          refine Ok.block ?_
          refine Ok.seq ?_
          refine Ok.region ?_
          refine Ok.batch 2 [(0, .string ⟨⟨xs⟩⟩), (4, .slice ayown4_0l17 yown4_0l17.length cyown4_0l17), (5, .int .i64 x5l17), (17, .agg #[.int .i64 0, .int .i64 x5l17, .int .i64 0, .string ⟨⟨([] : List UInt8)⟩⟩, .int .i64 0])] (by kernel_rfl) ?_
          refine Ok.op rfl (OpOk.alloc (z := .agg #[.int .i64 0, .int .i64 0, .int .i64 0, .string ⟨⟨([] : List UInt8)⟩⟩, .int .i64 0]) (cs := #[.int .i64 0, .int .i64 0, .int .i64 0, .string ⟨⟨([] : List UInt8)⟩⟩, .int .i64 0]) (by kernel_rfl) (by kernel_rfl) rfl fun b6 => ?_)
          refine Ok.op rfl (OpOk.store (k := 5) (v := .agg #[.int .i64 0, .int .i64 x5l17, .int .i64 0, .string ⟨⟨([] : List UInt8)⟩⟩, .int .i64 0]) (H' := [.blk b6 (.cells #[.int .i64 0, .int .i64 x5l17, .int .i64 0, .string ⟨⟨([] : List UInt8)⟩⟩, .int .i64 0] 39), .own (.slice ayown4_0l17 yown4_0l17.length cyown4_0l17) 39 5 yown4_0l17.length xsyown4_0l17]) 0 rfl rfl rfl (by kernel_rfl) (by kernel_rfl) (by kernel_rfl) (by kernel_rfl) (by kernel_rfl) ?_)
          refine Ok.nil ?_
          refine Ok.thenN ?_
          refine Ok.seq ?_
          refine Ok.region ?_
          refine Ok.batch 2 [(0, .string ⟨⟨xs⟩⟩), (4, .slice ayown4_0l17 yown4_0l17.length cyown4_0l17), (5, .int .i64 x5l17), (6, .pointer (some ⟨b6, 0, none⟩)), (18, .string ⟨⟨xs⟩⟩), (19, .int .i64 x5l17)] (by kernel_rfl) ?_
          obtain ⟨h07, h17, hF⟩ := hF
          have he7 := get_of (l := xs) (0 : UInt8) h17
          generalize hg7 : (xs.getD (Int.toNat x5l17) 0) = e7 at he7 hF ⊢
          refine Ok.op rfl (OpOk.step (v := .int .u8 (e7.toNat : Int)) (Yields.indexStr (k := .i64) (i := x5l17) (s := xs) (b := e7) (by kernel_rfl) (by kernel_rfl) Tryd.underlying9 h07 he7) rfl rfl ?_)
          refine Ok.batch 1 [(0, .string ⟨⟨xs⟩⟩), (4, .slice ayown4_0l17 yown4_0l17.length cyown4_0l17), (5, .int .i64 x5l17), (6, .pointer (some ⟨b6, 0, none⟩)), (7, .int .u8 (e7.toNat : Int))] (by kernel_rfl) ?_
          refine Ok.nil ?_
          refine Ok.thenN ?_
          refine Ok.seq ?_
          refine Ok.region ?_
          refine Ok.batch 2 [(0, .string ⟨⟨xs⟩⟩), (4, .slice ayown4_0l17 yown4_0l17.length cyown4_0l17), (5, .int .i64 x5l17), (6, .pointer (some ⟨b6, 0, none⟩)), (7, .int .u8 (e7.toNat : Int)), (8, .int .i64 x5l17)] (by kernel_rfl) ?_
          refine Ok.nil ?_
          refine Ok.thenN ?_
          refine Ok.cut (fun a W => ∃ gj31 : Ghost, Gext w0 gl17 gj31 ∧ ∃ (x8j31 : Int) (yb6_0j31 : Int) (yb6_3j31 : List UInt8) (yb6_4j31 : Int), StA 160 [(0, .string ⟨⟨xs⟩⟩), (4, .slice ayown4_0l17 yown4_0l17.length cyown4_0l17), (6, .pointer (some ⟨b6, 0, none⟩)), (8, .int .i64 x8j31)] a ∧ StW w0 [.blk b6 (.cells #[.int .i64 yb6_0j31, .int .i64 x5l17, .int .i64 0, .string ⟨⟨yb6_3j31⟩⟩, .int .i64 yb6_4j31] 39), .own (.slice ayown4_0l17 yown4_0l17.length cyown4_0l17) 39 5 yown4_0l17.length xsyown4_0l17] gj31 W ∧ rtdj31 K x8j31 yb6_0j31 yb6_3j31 yb6_4j31 x5l17 yown4_0l17 (rtdl17 xs K k17)) ?_ ?_
          ·
            refine Ok.block ?_
            refine Ok.seq ?_
            refine Ok.region ?_
            refine Ok.batch 3 [(0, .string ⟨⟨xs⟩⟩), (4, .slice ayown4_0l17 yown4_0l17.length cyown4_0l17), (5, .int .i64 x5l17), (6, .pointer (some ⟨b6, 0, none⟩)), (7, .int .u8 (e7.toNat : Int)), (8, .int .i64 x5l17), (39, .bool ((e7.toNat : Int) == 32))] (by kernel_rfl) ?_
            refine Ok.midway 3 [(0, .string ⟨⟨xs⟩⟩), (4, .slice ayown4_0l17 yown4_0l17.length cyown4_0l17), (5, .int .i64 x5l17), (6, .pointer (some ⟨b6, 0, none⟩)), (7, .int .u8 (e7.toNat : Int)), (8, .int .i64 x5l17), (42, .bool (((e7.toNat : Int) == 32) || ((e7.toNat : Int) == 9)))] (fun hR13 => ?_) ?_
            · refine Ok.boolAt 39 (((e7.toNat : Int) == 32)) rfl (fun hc14 => ?_) (fun hc14 => ?_)
              · skip
                refine Ok.batch 3 [(0, .string ⟨⟨xs⟩⟩), (4, .slice ayown4_0l17 yown4_0l17.length cyown4_0l17), (5, .int .i64 x5l17), (6, .pointer (some ⟨b6, 0, none⟩)), (7, .int .u8 (e7.toNat : Int)), (8, .int .i64 x5l17), (42, .bool true)] (by kernel_rfl) ?_
                refine Ok.reval 42 rfl (show (.bool true : Value) = .bool (((e7.toNat : Int) == 32) || ((e7.toNat : Int) == 9)) from congrArg Value.bool (mor_t hc14)) ?_
                refine Ok.batch 0 [(0, .string ⟨⟨xs⟩⟩), (4, .slice ayown4_0l17 yown4_0l17.length cyown4_0l17), (5, .int .i64 x5l17), (6, .pointer (some ⟨b6, 0, none⟩)), (7, .int .u8 (e7.toNat : Int)), (8, .int .i64 x5l17), (42, .bool (((e7.toNat : Int) == 32) || ((e7.toNat : Int) == 9)))] (by kernel_rfl) ?_
                exact hR13
              · skip
                refine Ok.batch 3 [(0, .string ⟨⟨xs⟩⟩), (4, .slice ayown4_0l17 yown4_0l17.length cyown4_0l17), (5, .int .i64 x5l17), (6, .pointer (some ⟨b6, 0, none⟩)), (7, .int .u8 (e7.toNat : Int)), (8, .int .i64 x5l17), (42, .bool ((e7.toNat : Int) == 9))] (by kernel_rfl) ?_
                refine Ok.reval 42 rfl (show (.bool ((e7.toNat : Int) == 9) : Value) = .bool (((e7.toNat : Int) == 32) || ((e7.toNat : Int) == 9)) from congrArg Value.bool (mor_f hc14)) ?_
                refine Ok.batch 0 [(0, .string ⟨⟨xs⟩⟩), (4, .slice ayown4_0l17 yown4_0l17.length cyown4_0l17), (5, .int .i64 x5l17), (6, .pointer (some ⟨b6, 0, none⟩)), (7, .int .u8 (e7.toNat : Int)), (8, .int .i64 x5l17), (42, .bool (((e7.toNat : Int) == 32) || ((e7.toNat : Int) == 9)))] (by kernel_rfl) ?_
                exact hR13
            refine Ok.batch 1 [(0, .string ⟨⟨xs⟩⟩), (4, .slice ayown4_0l17 yown4_0l17.length cyown4_0l17), (5, .int .i64 x5l17), (6, .pointer (some ⟨b6, 0, none⟩)), (7, .int .u8 (e7.toNat : Int)), (8, .int .i64 x5l17), (43, .bool (((e7.toNat : Int) == 32) || ((e7.toNat : Int) == 9)))] (by kernel_rfl) ?_
            refine Ok.midway 3 [(0, .string ⟨⟨xs⟩⟩), (4, .slice ayown4_0l17 yown4_0l17.length cyown4_0l17), (5, .int .i64 x5l17), (6, .pointer (some ⟨b6, 0, none⟩)), (7, .int .u8 (e7.toNat : Int)), (8, .int .i64 x5l17), (46, .bool ((((e7.toNat : Int) == 32) || ((e7.toNat : Int) == 9)) || ((e7.toNat : Int) == 10)))] (fun hR15 => ?_) ?_
            · refine Ok.boolAt 43 ((((e7.toNat : Int) == 32) || ((e7.toNat : Int) == 9))) rfl (fun hc16 => ?_) (fun hc16 => ?_)
              · skip
                refine Ok.batch 3 [(0, .string ⟨⟨xs⟩⟩), (4, .slice ayown4_0l17 yown4_0l17.length cyown4_0l17), (5, .int .i64 x5l17), (6, .pointer (some ⟨b6, 0, none⟩)), (7, .int .u8 (e7.toNat : Int)), (8, .int .i64 x5l17), (46, .bool true)] (by kernel_rfl) ?_
                refine Ok.reval 46 rfl (show (.bool true : Value) = .bool ((((e7.toNat : Int) == 32) || ((e7.toNat : Int) == 9)) || ((e7.toNat : Int) == 10)) from congrArg Value.bool (mor_t hc16)) ?_
                refine Ok.batch 0 [(0, .string ⟨⟨xs⟩⟩), (4, .slice ayown4_0l17 yown4_0l17.length cyown4_0l17), (5, .int .i64 x5l17), (6, .pointer (some ⟨b6, 0, none⟩)), (7, .int .u8 (e7.toNat : Int)), (8, .int .i64 x5l17), (46, .bool ((((e7.toNat : Int) == 32) || ((e7.toNat : Int) == 9)) || ((e7.toNat : Int) == 10)))] (by kernel_rfl) ?_
                exact hR15
              · skip
                refine Ok.batch 3 [(0, .string ⟨⟨xs⟩⟩), (4, .slice ayown4_0l17 yown4_0l17.length cyown4_0l17), (5, .int .i64 x5l17), (6, .pointer (some ⟨b6, 0, none⟩)), (7, .int .u8 (e7.toNat : Int)), (8, .int .i64 x5l17), (46, .bool ((e7.toNat : Int) == 10))] (by kernel_rfl) ?_
                refine Ok.reval 46 rfl (show (.bool ((e7.toNat : Int) == 10) : Value) = .bool ((((e7.toNat : Int) == 32) || ((e7.toNat : Int) == 9)) || ((e7.toNat : Int) == 10)) from congrArg Value.bool (mor_f hc16)) ?_
                refine Ok.batch 0 [(0, .string ⟨⟨xs⟩⟩), (4, .slice ayown4_0l17 yown4_0l17.length cyown4_0l17), (5, .int .i64 x5l17), (6, .pointer (some ⟨b6, 0, none⟩)), (7, .int .u8 (e7.toNat : Int)), (8, .int .i64 x5l17), (46, .bool ((((e7.toNat : Int) == 32) || ((e7.toNat : Int) == 9)) || ((e7.toNat : Int) == 10)))] (by kernel_rfl) ?_
                exact hR15
            refine Ok.batch 1 [(0, .string ⟨⟨xs⟩⟩), (4, .slice ayown4_0l17 yown4_0l17.length cyown4_0l17), (5, .int .i64 x5l17), (6, .pointer (some ⟨b6, 0, none⟩)), (7, .int .u8 (e7.toNat : Int)), (8, .int .i64 x5l17), (47, .bool ((((e7.toNat : Int) == 32) || ((e7.toNat : Int) == 9)) || ((e7.toNat : Int) == 10)))] (by kernel_rfl) ?_
            refine Ok.midway 3 [(0, .string ⟨⟨xs⟩⟩), (4, .slice ayown4_0l17 yown4_0l17.length cyown4_0l17), (5, .int .i64 x5l17), (6, .pointer (some ⟨b6, 0, none⟩)), (7, .int .u8 (e7.toNat : Int)), (8, .int .i64 x5l17), (50, .bool (((((e7.toNat : Int) == 32) || ((e7.toNat : Int) == 9)) || ((e7.toNat : Int) == 10)) || ((e7.toNat : Int) == 13)))] (fun hR17 => ?_) ?_
            · refine Ok.boolAt 47 (((((e7.toNat : Int) == 32) || ((e7.toNat : Int) == 9)) || ((e7.toNat : Int) == 10))) rfl (fun hc18 => ?_) (fun hc18 => ?_)
              · skip
                refine Ok.batch 3 [(0, .string ⟨⟨xs⟩⟩), (4, .slice ayown4_0l17 yown4_0l17.length cyown4_0l17), (5, .int .i64 x5l17), (6, .pointer (some ⟨b6, 0, none⟩)), (7, .int .u8 (e7.toNat : Int)), (8, .int .i64 x5l17), (50, .bool true)] (by kernel_rfl) ?_
                refine Ok.reval 50 rfl (show (.bool true : Value) = .bool (((((e7.toNat : Int) == 32) || ((e7.toNat : Int) == 9)) || ((e7.toNat : Int) == 10)) || ((e7.toNat : Int) == 13)) from congrArg Value.bool (mor_t hc18)) ?_
                refine Ok.batch 0 [(0, .string ⟨⟨xs⟩⟩), (4, .slice ayown4_0l17 yown4_0l17.length cyown4_0l17), (5, .int .i64 x5l17), (6, .pointer (some ⟨b6, 0, none⟩)), (7, .int .u8 (e7.toNat : Int)), (8, .int .i64 x5l17), (50, .bool (((((e7.toNat : Int) == 32) || ((e7.toNat : Int) == 9)) || ((e7.toNat : Int) == 10)) || ((e7.toNat : Int) == 13)))] (by kernel_rfl) ?_
                exact hR17
              · skip
                refine Ok.batch 3 [(0, .string ⟨⟨xs⟩⟩), (4, .slice ayown4_0l17 yown4_0l17.length cyown4_0l17), (5, .int .i64 x5l17), (6, .pointer (some ⟨b6, 0, none⟩)), (7, .int .u8 (e7.toNat : Int)), (8, .int .i64 x5l17), (50, .bool ((e7.toNat : Int) == 13))] (by kernel_rfl) ?_
                refine Ok.reval 50 rfl (show (.bool ((e7.toNat : Int) == 13) : Value) = .bool (((((e7.toNat : Int) == 32) || ((e7.toNat : Int) == 9)) || ((e7.toNat : Int) == 10)) || ((e7.toNat : Int) == 13)) from congrArg Value.bool (mor_f hc18)) ?_
                refine Ok.batch 0 [(0, .string ⟨⟨xs⟩⟩), (4, .slice ayown4_0l17 yown4_0l17.length cyown4_0l17), (5, .int .i64 x5l17), (6, .pointer (some ⟨b6, 0, none⟩)), (7, .int .u8 (e7.toNat : Int)), (8, .int .i64 x5l17), (50, .bool (((((e7.toNat : Int) == 32) || ((e7.toNat : Int) == 9)) || ((e7.toNat : Int) == 10)) || ((e7.toNat : Int) == 13)))] (by kernel_rfl) ?_
                exact hR17
            refine Ok.batch 1 [(0, .string ⟨⟨xs⟩⟩), (4, .slice ayown4_0l17 yown4_0l17.length cyown4_0l17), (5, .int .i64 x5l17), (6, .pointer (some ⟨b6, 0, none⟩)), (7, .int .u8 (e7.toNat : Int)), (8, .int .i64 x5l17), (36, .bool (((((e7.toNat : Int) == 32) || ((e7.toNat : Int) == 9)) || ((e7.toNat : Int) == 10)) || ((e7.toNat : Int) == 13)))] (by kernel_rfl) ?_
            refine Ok.nil ?_
            refine Ok.thenN ?_
            refine Ok.cond (b := (((((e7.toNat : Int) == 32) || ((e7.toNat : Int) == 9)) || ((e7.toNat : Int) == 10)) || ((e7.toNat : Int) == 13))) rfl (fun hc19 => ?_) (fun hc19 => ?_)
            · replace hF := hF.1 hc19
              refine Ok.seq ?_
              refine Ok.region ?_
              refine Ok.batch 3 [(0, .string ⟨⟨xs⟩⟩), (4, .slice ayown4_0l17 yown4_0l17.length cyown4_0l17), (5, .int .i64 (IntKind.wrap .i64 (x5l17 + 1)))] (by kernel_rfl) ?_
              refine Ok.nil ?_
              refine Ok.thenN ?_
              refine Ok.exit ?_
              refine Ok.blockMiss rfl ?_
              refine Ok.thenE ?_
              refine Ok.blockHit ?_
              refine Ok.thenN ?_
              subst hg7
              exact fun a W hA hW => ⟨k17, Nat.lt_succ_self _, gl17, hxl17, IntKind.wrap .i64 (x5l17 + 1), ayown4_0l17, cyown4_0l17, yown4_0l17, xsyown4_0l17, hLyown4_0l17, hA.sub (by kernel_rfl), hW.sub (.cons _ (.cons_cons _ .slnil)), hF⟩
            · replace hF := hF.2 hc19
              refine Ok.seq ?_
              refine Ok.region ?_
              refine Ok.batch 2 [(0, .string ⟨⟨xs⟩⟩), (4, .slice ayown4_0l17 yown4_0l17.length cyown4_0l17), (5, .int .i64 x5l17), (6, .pointer (some ⟨b6, 0, none⟩)), (7, .int .u8 (e7.toNat : Int)), (8, .int .i64 x5l17), (54, .string ⟨⟨xs⟩⟩), (55, .int .i64 x5l17)] (by kernel_rfl) ?_
              obtain ⟨h020, h120, h220, hF⟩ := hF
              refine Ok.op rfl (OpOk.step (v := .string ⟨⟨xs.drop (Int.toNat x5l17)⟩⟩) (Yields.sliceStr (s := xs) (l := x5l17) (h := (xs.length : Int)) (by kernel_rfl) Tryd.underlying9 (.inl ⟨_, _, rfl, rfl⟩) (.inr ⟨rfl, rfl⟩) h020 h120 h220 (xs.drop (Int.toNat x5l17)) (by rw [show ((xs.length : Int)).toNat = xs.length from Int.toNat_natCast _, List.take_length])) rfl rfl ?_)
              refine Ok.op rfl (OpOk.callG (v := .bool (hpM (xs.drop (Int.toNat x5l17)) ([47, 47] : List UInt8))) (enters (by kernel_rfl) (fun _ => by kernel_rfl)) (fun W hW => hp_c (xs.drop (Int.toNat x5l17)) ([47, 47] : List UInt8)) rfl ?_)
              refine Ok.batch 1 [(0, .string ⟨⟨xs⟩⟩), (4, .slice ayown4_0l17 yown4_0l17.length cyown4_0l17), (5, .int .i64 x5l17), (6, .pointer (some ⟨b6, 0, none⟩)), (7, .int .u8 (e7.toNat : Int)), (8, .int .i64 x5l17), (53, .bool (hpM (xs.drop (Int.toNat x5l17)) ([47, 47] : List UInt8)))] (by kernel_rfl) ?_
              refine Ok.nil ?_
              refine Ok.thenN ?_
              refine Ok.cond (b := (hpM (xs.drop (Int.toNat x5l17)) ([47, 47] : List UInt8))) rfl (fun hc21 => ?_) (fun hc21 => ?_)
              · replace hF := hF.1 hc21
                refine Ok.seq ?_
                refine Ok.block ?_
                obtain ⟨k, hF⟩ := hF
                refine Ok.loop (fun k a W => ∃ gl44 : Ghost, Gext w0 gl17 gl44 ∧ ∃ (x5l44 : Int), StA 160 [(0, .string ⟨⟨xs⟩⟩), (4, .slice ayown4_0l17 yown4_0l17.length cyown4_0l17), (5, .int .i64 x5l44)] a ∧ StW w0 [.own (.slice ayown4_0l17 yown4_0l17.length cyown4_0l17) 39 5 yown4_0l17.length xsyown4_0l17] gl44 W ∧ rtdl44 xs yown4_0l17 (rtdl17 xs K k17) k x5l44) k ?_ ?_
                ·
                  exact fun a W hA hW => ⟨gl17, (Gext.refl w0 gl17), x5l17, hA.sub (by kernel_rfl), hW.sub (.cons _ (.cons_cons _ .slnil)), hF⟩
                ·
                  clear hF
                  rintro k44 a W ⟨gl44, hxl44, x5l44, hA, hW, hF⟩
                  cases k44 with
                  | zero => exact (hF : False).elim
                  | succ k44 =>
                    refine (?_ : Ok _ _ _ _ _ _) a W hA hW
                    clear hA hW
                    replace hLyown4_0l17 := hLyown4_0l17.mono hxl44.1
                    replace hG1 := hG1.mono hxl44.1
                    refine Ok.seq ?_
                    refine Ok.cut (fun a W => ∃ gj46 : Ghost, Gext w0 gl44 gj46 ∧ StA 160 [(0, .string ⟨⟨xs⟩⟩), (4, .slice ayown4_0l17 yown4_0l17.length cyown4_0l17), (5, .int .i64 x5l44), (67, .bool ((decide (x5l44 < (xs.length : Int))) && (((xs.getD (Int.toNat x5l44) 0).toNat : Int) != 10)))] a ∧ StW w0 [.own (.slice ayown4_0l17 yown4_0l17.length cyown4_0l17) 39 5 yown4_0l17.length xsyown4_0l17] gj46 W ∧ rtdj46 xs x5l44 yown4_0l17 (rtdl17 xs K k17) (rtdl44 xs yown4_0l17 (rtdl17 xs K k17) k44)) ?_ ?_
                    ·
                      refine Ok.region ?_
                      refine Ok.batch 5 [(0, .string ⟨⟨xs⟩⟩), (4, .slice ayown4_0l17 yown4_0l17.length cyown4_0l17), (5, .int .i64 x5l44), (62, .bool (decide (x5l44 < (xs.length : Int))))] (by kernel_rfl) ?_
                      refine Ok.boolAt 62 (decide (x5l44 < (xs.length : Int))) rfl (fun hc23 => ?_) (fun hc23 => ?_)
                      · replace hF := hF.1 hc23
                        refine Ok.batch 2 [(0, .string ⟨⟨xs⟩⟩), (4, .slice ayown4_0l17 yown4_0l17.length cyown4_0l17), (5, .int .i64 x5l44), (62, .bool true), (63, .string ⟨⟨xs⟩⟩), (64, .int .i64 x5l44)] (by kernel_rfl) ?_
                        obtain ⟨h024, h124, hF⟩ := hF
                        have he24 := get_of (l := xs) (0 : UInt8) h124
                        generalize hg24 : (xs.getD (Int.toNat x5l44) 0) = e24 at he24 hF ⊢
                        refine Ok.opYes (j := 4) (d := 62) (want := true) (b := true) rfl (by kernel_rfl) (by kernel_rfl) rfl (OpOk.step (v := .int .u8 (e24.toNat : Int)) (Yields.indexStr (k := .i64) (i := x5l44) (s := xs) (b := e24) (by kernel_rfl) (by kernel_rfl) Tryd.underlying9 h024 he24) rfl rfl ?_)
                        refine Ok.batch 2 [(0, .string ⟨⟨xs⟩⟩), (4, .slice ayown4_0l17 yown4_0l17.length cyown4_0l17), (5, .int .i64 x5l44), (67, .bool ((e24.toNat : Int) != 10))] (by kernel_rfl) ?_
                        refine Ok.nil ?_
                        refine Ok.thenN ?_
                        subst hg24
                        refine Ok.reval 67 rfl (show (.bool (((xs.getD (Int.toNat x5l44) 0).toNat : Int) != 10) : Value) = .bool ((decide (x5l44 < (xs.length : Int))) && (((xs.getD (Int.toNat x5l44) 0).toNat : Int) != 10)) from congrArg (Value.bool) (mand_t hc23)) ?_
                        exact fun a W hA hW => ⟨gl44, (Gext.refl w0 gl44), hA.sub (by kernel_rfl), hW, hF⟩
                      · replace hF := hF.2 hc23
                        refine Ok.batch 5 [(0, .string ⟨⟨xs⟩⟩), (4, .slice ayown4_0l17 yown4_0l17.length cyown4_0l17), (5, .int .i64 x5l44), (67, .bool false)] (by kernel_rfl) ?_
                        refine Ok.nil ?_
                        refine Ok.thenN ?_
                        refine Ok.reval 67 rfl (show (.bool false : Value) = .bool ((decide (x5l44 < (xs.length : Int))) && (((xs.getD (Int.toNat x5l44) 0).toNat : Int) != 10)) from congrArg (Value.bool) (mand_f hc23)) ?_
                        exact fun a W hA hW => ⟨gl44, (Gext.refl w0 gl44), hA.sub (by kernel_rfl), hW, hF⟩
                    ·
                      clear hF
                      rintro a W ⟨gj46, hxj46, hA, hW, hF⟩
                      refine (?_ : Ok _ _ _ _ _ _) a W hA hW
                      clear hA hW
                      replace hLyown4_0l17 := hLyown4_0l17.mono hxj46.1
                      replace hG1 := hG1.mono hxj46.1
                      refine Ok.cond (b := ((decide (x5l44 < (xs.length : Int))) && (((xs.getD (Int.toNat x5l44) 0).toNat : Int) != 10))) rfl (fun hc22 => ?_) (fun hc22 => ?_)
                      · replace hF := hF.1 hc22
                        refine Ok.skip ?_
                        refine Ok.thenN ?_
                        refine Ok.block ?_
                        refine Ok.region ?_
                        refine Ok.batch 3 [(0, .string ⟨⟨xs⟩⟩), (4, .slice ayown4_0l17 yown4_0l17.length cyown4_0l17), (5, .int .i64 (IntKind.wrap .i64 (x5l44 + 1)))] (by kernel_rfl) ?_
                        refine Ok.nil ?_
                        refine Ok.blockN ?_
                        refine Ok.thenN ?_
                        exact fun a W hA hW => ⟨k44, Nat.lt_succ_self _, gj46, (hxl44.trans hxj46), IntKind.wrap .i64 (x5l44 + 1), hA.sub (by kernel_rfl), hW, hF⟩
                      · replace hF := hF.2 hc22
                        refine Ok.exit ?_
                        refine Ok.thenE ?_
                        refine Ok.thenE ?_
                        refine Ok.blockHit ?_
                        refine Ok.thenN ?_
                        refine Ok.exit ?_
                        refine Ok.blockMiss rfl ?_
                        refine Ok.thenE ?_
                        refine Ok.blockHit ?_
                        refine Ok.thenN ?_
                        subst hg7
                        exact fun a W hA hW => ⟨k17, Nat.lt_succ_self _, gj46, ((hxl17.trans hxl44).trans hxj46), x5l44, ayown4_0l17, cyown4_0l17, yown4_0l17, xsyown4_0l17, hLyown4_0l17, hA.sub (by kernel_rfl), hW, hF⟩
              · replace hF := hF.2 hc21
                refine Ok.seq ?_
                refine Ok.region ?_
                refine Ok.batch 2 [(0, .string ⟨⟨xs⟩⟩), (4, .slice ayown4_0l17 yown4_0l17.length cyown4_0l17), (5, .int .i64 x5l17), (6, .pointer (some ⟨b6, 0, none⟩)), (7, .int .u8 (e7.toNat : Int)), (8, .int .i64 x5l17), (72, .int .i64 (IntKind.wrap .i64 (e7.toNat : Int)))] (by kernel_rfl) ?_
                refine Ok.op rfl (OpOk.callG (v := .bool (btwM (IntKind.wrap .i64 (e7.toNat : Int)) 48 57)) (enters (by kernel_rfl) (fun _ => by kernel_rfl)) (fun W hW => btw_c (IntKind.wrap .i64 (e7.toNat : Int)) 48 57) rfl ?_)
                refine Ok.batch 1 [(0, .string ⟨⟨xs⟩⟩), (4, .slice ayown4_0l17 yown4_0l17.length cyown4_0l17), (5, .int .i64 x5l17), (6, .pointer (some ⟨b6, 0, none⟩)), (7, .int .u8 (e7.toNat : Int)), (8, .int .i64 x5l17), (70, .bool (btwM (IntKind.wrap .i64 (e7.toNat : Int)) 48 57))] (by kernel_rfl) ?_
                refine Ok.nil ?_
                refine Ok.thenN ?_
                refine Ok.cond (b := (btwM (IntKind.wrap .i64 (e7.toNat : Int)) 48 57)) rfl (fun hc25 => ?_) (fun hc25 => ?_)
                · replace hF := hF.1 hc25
                  refine Ok.seq ?_
                  refine Ok.region ?_
                  refine Ok.batch 1 [(0, .string ⟨⟨xs⟩⟩), (4, .slice ayown4_0l17 yown4_0l17.length cyown4_0l17), (6, .pointer (some ⟨b6, 0, none⟩)), (8, .int .i64 x5l17), (74, .pointer (some ⟨b6, 0, none⟩))] (by kernel_rfl) ?_
                  refine Ok.op rfl (OpOk.store (k := 1) (v := .int .i64 2) (H' := [.blk b6 (.cells #[.int .i64 2, .int .i64 x5l17, .int .i64 0, .string ⟨⟨([] : List UInt8)⟩⟩, .int .i64 0] 39), .own (.slice ayown4_0l17 yown4_0l17.length cyown4_0l17) 39 5 yown4_0l17.length xsyown4_0l17]) 0 rfl rfl rfl (by kernel_rfl) (by kernel_rfl) (by kernel_rfl) (by kernel_rfl) (by kernel_rfl) ?_)
                  refine Ok.nil ?_
                  refine Ok.thenN ?_
                  refine Ok.seq ?_
                  refine Ok.block ?_
                  obtain ⟨k, hF⟩ := hF
                  refine Ok.loop (fun k a W => ∃ gl61 : Ghost, Gext w0 gl17 gl61 ∧ ∃ (x8l61 : Int) (yb6_4l61 : Int), StA 160 [(0, .string ⟨⟨xs⟩⟩), (4, .slice ayown4_0l17 yown4_0l17.length cyown4_0l17), (6, .pointer (some ⟨b6, 0, none⟩)), (8, .int .i64 x8l61)] a ∧ StW w0 [.blk b6 (.cells #[.int .i64 2, .int .i64 x5l17, .int .i64 0, .string ⟨⟨([] : List UInt8)⟩⟩, .int .i64 yb6_4l61] 39), .own (.slice ayown4_0l17 yown4_0l17.length cyown4_0l17) 39 5 yown4_0l17.length xsyown4_0l17] gl61 W ∧ rtdl61 xs K x5l17 yown4_0l17 (rtdl17 xs K k17) k x8l61 yb6_4l61) k ?_ ?_
                  ·
                    exact fun a W hA hW => ⟨gl17, (Gext.refl w0 gl17), x5l17, 0, hA.sub (by kernel_rfl), hW, hF⟩
                  ·
                    clear hF
                    rintro k61 a W ⟨gl61, hxl61, x8l61, yb6_4l61, hA, hW, hF⟩
                    cases k61 with
                    | zero => exact (hF : False).elim
                    | succ k61 =>
                      refine (?_ : Ok _ _ _ _ _ _) a W hA hW
                      clear hA hW
                      replace hLyown4_0l17 := hLyown4_0l17.mono hxl61.1
                      replace hG1 := hG1.mono hxl61.1
                      refine Ok.seq ?_
                      refine Ok.cut (fun a W => ∃ gj63 : Ghost, Gext w0 gl61 gj63 ∧ StA 160 [(0, .string ⟨⟨xs⟩⟩), (4, .slice ayown4_0l17 yown4_0l17.length cyown4_0l17), (6, .pointer (some ⟨b6, 0, none⟩)), (8, .int .i64 x8l61), (85, .bool ((decide (x8l61 < (xs.length : Int))) && (btwM (IntKind.wrap .i64 ((xs.getD (Int.toNat x8l61) 0).toNat : Int)) 48 57)))] a ∧ StW w0 [.blk b6 (.cells #[.int .i64 2, .int .i64 x5l17, .int .i64 0, .string ⟨⟨([] : List UInt8)⟩⟩, .int .i64 yb6_4l61] 39), .own (.slice ayown4_0l17 yown4_0l17.length cyown4_0l17) 39 5 yown4_0l17.length xsyown4_0l17] gj63 W ∧ rtdj63 xs K x8l61 yb6_4l61 x5l17 yown4_0l17 (rtdl17 xs K k17) (rtdl61 xs K x5l17 yown4_0l17 (rtdl17 xs K k17) k61)) ?_ ?_
                      ·
                        refine Ok.region ?_
                        refine Ok.batch 5 [(0, .string ⟨⟨xs⟩⟩), (4, .slice ayown4_0l17 yown4_0l17.length cyown4_0l17), (6, .pointer (some ⟨b6, 0, none⟩)), (8, .int .i64 x8l61), (79, .bool (decide (x8l61 < (xs.length : Int))))] (by kernel_rfl) ?_
                        refine Ok.boolAt 79 (decide (x8l61 < (xs.length : Int))) rfl (fun hc36 => ?_) (fun hc36 => ?_)
                        · replace hF := hF.1 hc36
                          refine Ok.batch 2 [(0, .string ⟨⟨xs⟩⟩), (4, .slice ayown4_0l17 yown4_0l17.length cyown4_0l17), (6, .pointer (some ⟨b6, 0, none⟩)), (8, .int .i64 x8l61), (79, .bool true), (80, .string ⟨⟨xs⟩⟩), (81, .int .i64 x8l61)] (by kernel_rfl) ?_
                          obtain ⟨h037, h137, hF⟩ := hF
                          have he37 := get_of (l := xs) (0 : UInt8) h137
                          generalize hg37 : (xs.getD (Int.toNat x8l61) 0) = e37 at he37 hF ⊢
                          refine Ok.opYes (j := 4) (d := 79) (want := true) (b := true) rfl (by kernel_rfl) (by kernel_rfl) rfl (OpOk.step (v := .int .u8 (e37.toNat : Int)) (Yields.indexStr (k := .i64) (i := x8l61) (s := xs) (b := e37) (by kernel_rfl) (by kernel_rfl) Tryd.underlying9 h037 he37) rfl rfl ?_)
                          refine Ok.batch 1 [(0, .string ⟨⟨xs⟩⟩), (4, .slice ayown4_0l17 yown4_0l17.length cyown4_0l17), (6, .pointer (some ⟨b6, 0, none⟩)), (8, .int .i64 x8l61), (79, .bool true), (83, .int .i64 (IntKind.wrap .i64 (e37.toNat : Int)))] (by kernel_rfl) ?_
                          refine Ok.opYes (j := 4) (d := 79) (want := true) (b := true) rfl (by kernel_rfl) (by kernel_rfl) rfl (OpOk.callG (v := .bool (btwM (IntKind.wrap .i64 (e37.toNat : Int)) 48 57)) (enters (by kernel_rfl) (fun _ => by kernel_rfl)) (fun W hW => btw_c (IntKind.wrap .i64 (e37.toNat : Int)) 48 57) rfl ?_)
                          refine Ok.batch 1 [(0, .string ⟨⟨xs⟩⟩), (4, .slice ayown4_0l17 yown4_0l17.length cyown4_0l17), (6, .pointer (some ⟨b6, 0, none⟩)), (8, .int .i64 x8l61), (85, .bool (btwM (IntKind.wrap .i64 (e37.toNat : Int)) 48 57))] (by kernel_rfl) ?_
                          refine Ok.nil ?_
                          refine Ok.thenN ?_
                          subst hg37
                          refine Ok.reval 85 rfl (show (.bool (btwM (IntKind.wrap .i64 ((xs.getD (Int.toNat x8l61) 0).toNat : Int)) 48 57) : Value) = .bool ((decide (x8l61 < (xs.length : Int))) && (btwM (IntKind.wrap .i64 ((xs.getD (Int.toNat x8l61) 0).toNat : Int)) 48 57)) from congrArg (Value.bool) (mand_t hc36)) ?_
                          exact fun a W hA hW => ⟨gl61, (Gext.refl w0 gl61), hA.sub (by kernel_rfl), hW, hF⟩
                        · replace hF := hF.2 hc36
                          refine Ok.batch 6 [(0, .string ⟨⟨xs⟩⟩), (4, .slice ayown4_0l17 yown4_0l17.length cyown4_0l17), (6, .pointer (some ⟨b6, 0, none⟩)), (8, .int .i64 x8l61), (85, .bool false)] (by kernel_rfl) ?_
                          refine Ok.nil ?_
                          refine Ok.thenN ?_
                          refine Ok.reval 85 rfl (show (.bool false : Value) = .bool ((decide (x8l61 < (xs.length : Int))) && (btwM (IntKind.wrap .i64 ((xs.getD (Int.toNat x8l61) 0).toNat : Int)) 48 57)) from congrArg (Value.bool) (mand_f hc36)) ?_
                          exact fun a W hA hW => ⟨gl61, (Gext.refl w0 gl61), hA.sub (by kernel_rfl), hW, hF⟩
                      ·
                        clear hF
                        rintro a W ⟨gj63, hxj63, hA, hW, hF⟩
                        refine (?_ : Ok _ _ _ _ _ _) a W hA hW
                        clear hA hW
                        replace hLyown4_0l17 := hLyown4_0l17.mono hxj63.1
                        replace hG1 := hG1.mono hxj63.1
                        refine Ok.cond (b := ((decide (x8l61 < (xs.length : Int))) && (btwM (IntKind.wrap .i64 ((xs.getD (Int.toNat x8l61) 0).toNat : Int)) 48 57))) rfl (fun hc26 => ?_) (fun hc26 => ?_)
                        · replace hF := hF.1 hc26
                          refine Ok.skip ?_
                          refine Ok.thenN ?_
                          refine Ok.block ?_
                          refine Ok.seq ?_
                          refine Ok.mix [0, 1, 2, 3, 4, 5, 6, 7, 8, 9] [] [.own (.slice ayown4_0l17 yown4_0l17.length cyown4_0l17) 39 5 yown4_0l17.length xsyown4_0l17] [(0, true), (1, true), (2, true), (3, true), (4, true), (5, true), (6, true), (7, true), (8, true), (9, true), (10, false)] (by kernel_rfl) (by kernel_rfl) (.cons _ (.cons_cons _ .slnil)) ?_
                          refine OkM.batch 1 [(0, .string ⟨⟨xs⟩⟩), (4, .slice ayown4_0l17 yown4_0l17.length cyown4_0l17), (6, .pointer (some ⟨b6, 0, none⟩)), (8, .int .i64 x8l61), (86, .pointer (some ⟨b6, 4, none⟩))] (by kernel_rfl) ?_
                          refine OkM.head rfl rfl (show _ = [.blk b6 (.cells #[.int .i64 2, .int .i64 x5l17, .int .i64 0, .string ⟨⟨([] : List UInt8)⟩⟩, .int .i64 yb6_4l61] 39), .own (.slice ayown4_0l17 yown4_0l17.length cyown4_0l17) 39 5 yown4_0l17.length xsyown4_0l17] from rfl) (OpQ.step (v := .int .i64 yb6_4l61) (Yields.load 0 rfl rfl Tryd.underlying3 rfl (by kernel_rfl)) rfl rfl ?_)
                          refine OkM.batch 3 [(0, .string ⟨⟨xs⟩⟩), (4, .slice ayown4_0l17 yown4_0l17.length cyown4_0l17), (6, .pointer (some ⟨b6, 0, none⟩)), (8, .int .i64 x8l61), (88, .int .i64 (IntKind.wrap .i64 (10 * yb6_4l61))), (89, .string ⟨⟨xs⟩⟩), (90, .int .i64 x8l61)] (by kernel_rfl) ?_
                          obtain ⟨h027, h127, hF⟩ := hF
                          have he27 := get_of (l := xs) (0 : UInt8) h127
                          generalize hg27 : (xs.getD (Int.toNat x8l61) 0) = e27 at he27 hF ⊢
                          refine OkM.head rfl rfl (show _ = [.blk b6 (.cells #[.int .i64 2, .int .i64 x5l17, .int .i64 0, .string ⟨⟨([] : List UInt8)⟩⟩, .int .i64 yb6_4l61] 39), .own (.slice ayown4_0l17 yown4_0l17.length cyown4_0l17) 39 5 yown4_0l17.length xsyown4_0l17] from rfl) (OpQ.step (v := .int .u8 (e27.toNat : Int)) (Yields.indexStr (k := .i64) (i := x8l61) (s := xs) (b := e27) (by kernel_rfl) (by kernel_rfl) Tryd.underlying9 h027 he27) rfl rfl ?_)
                          refine OkM.batch 4 [(0, .string ⟨⟨xs⟩⟩), (4, .slice ayown4_0l17 yown4_0l17.length cyown4_0l17), (6, .pointer (some ⟨b6, 0, none⟩)), (8, .int .i64 x8l61), (94, .int .i64 (IntKind.wrap .i64 ((IntKind.wrap .i64 (10 * yb6_4l61)) + (IntKind.wrap .i64 (IntKind.wrap .u8 ((e27.toNat : Int) - 48)))))), (95, .pointer (some ⟨b6, 4, none⟩))] (by kernel_rfl) ?_
                          refine OkM.tail rfl rfl (OpOk.store (k := 1) (v := .int .i64 (IntKind.wrap .i64 ((IntKind.wrap .i64 (10 * yb6_4l61)) + (IntKind.wrap .i64 (IntKind.wrap .u8 ((e27.toNat : Int) - 48)))))) (H' := [.blk b6 (.cells #[.int .i64 2, .int .i64 x5l17, .int .i64 0, .string ⟨⟨([] : List UInt8)⟩⟩, .int .i64 (IntKind.wrap .i64 ((IntKind.wrap .i64 (10 * yb6_4l61)) + (IntKind.wrap .i64 (IntKind.wrap .u8 ((e27.toNat : Int) - 48)))))] 39), .own (.slice ayown4_0l17 yown4_0l17.length cyown4_0l17) 39 5 yown4_0l17.length xsyown4_0l17]) 0 rfl rfl rfl (by kernel_rfl) (by kernel_rfl) (by kernel_rfl) (by kernel_rfl) (by kernel_rfl) ?_)
                          refine OkM.leaf (i := 10) (show _ = [.own (.slice ayown4_0l17 yown4_0l17.length cyown4_0l17) 39 5 yown4_0l17.length xsyown4_0l17] from rfl) (Gle.refl _) (.cons _ (.cons_cons _ .slnil)) ?_
                          refine OkM.nil ?_
                          refine Ok.thenN ?_
                          refine Ok.seq ?_
                          refine Ok.seq ?_
                          refine Ok.region ?_
                          refine Ok.batch 1 [(0, .string ⟨⟨xs⟩⟩), (4, .slice ayown4_0l17 yown4_0l17.length cyown4_0l17), (6, .pointer (some ⟨b6, 0, none⟩)), (8, .int .i64 x8l61), (96, .pointer (some ⟨b6, 4, none⟩))] (by kernel_rfl) ?_
                          refine Ok.op rfl (OpOk.step (v := .int .i64 (IntKind.wrap .i64 ((IntKind.wrap .i64 (10 * yb6_4l61)) + (IntKind.wrap .i64 (IntKind.wrap .u8 ((e27.toNat : Int) - 48)))))) (Yields.load 0 rfl rfl Tryd.underlying3 rfl (by kernel_rfl)) rfl rfl ?_)
                          refine Ok.batch 1 [(0, .string ⟨⟨xs⟩⟩), (4, .slice ayown4_0l17 yown4_0l17.length cyown4_0l17), (6, .pointer (some ⟨b6, 0, none⟩)), (8, .int .i64 x8l61), (98, .bool (decide ((IntKind.wrap .i64 ((IntKind.wrap .i64 (10 * yb6_4l61)) + (IntKind.wrap .i64 (IntKind.wrap .u8 ((e27.toNat : Int) - 48))))) > 9007199254740992)))] (by kernel_rfl) ?_
                          refine Ok.nil ?_
                          refine Ok.thenN ?_
                          refine Ok.cond (b := decide ((IntKind.wrap .i64 ((IntKind.wrap .i64 (10 * yb6_4l61)) + (IntKind.wrap .i64 (IntKind.wrap .u8 ((e27.toNat : Int) - 48))))) > 9007199254740992)) rfl (fun hc28 => ?_) (fun hc28 => ?_)
                          · replace hF := hF.1 hc28
                            refine Ok.seq ?_
                            refine Ok.region ?_
                            refine Ok.batch 1 [(2, .slice none 0 0)] (by kernel_rfl) ?_
                            have hL29 : RepL gj63 (.pair (.int .i64) (.pair (.int .i64) (.pair (.int .i64) (.pair (.str) (.int .i64))))) [] [] := rfl
                            refine Ok.ownNil 39 5 ?_
                            refine Ok.batch 1 [(2, .slice none ([] : List (Int × Int × Int × List UInt8 × Int)).length 0), (3, .int .i64 2)] (by kernel_rfl) ?_
                            refine Ok.nil ?_
                            refine Ok.thenN ?_
                            refine Ok.ret ?_
                            refine Ok.thenR ?_
                            refine Ok.blockR ?_
                            refine Ok.thenR ?_
                            refine Ok.blockR ?_
                            refine Ok.thenR ?_
                            refine Ok.blockR ?_
                            refine Ok.thenR ?_
                            refine Ok.blockR ?_
                            refine Ok.thenR ?_
                            refine Ok.blockR ?_
                            refine Ok.thenR ?_
                            refine Ok.freeze (H' := [.blk b6 (.cells #[.int .i64 2, .int .i64 x5l17, .int .i64 0, .string ⟨⟨([] : List UInt8)⟩⟩, .int .i64 (IntKind.wrap .i64 ((IntKind.wrap .i64 (10 * yb6_4l61)) + (IntKind.wrap .i64 (IntKind.wrap .u8 ((e27.toNat : Int) - 48)))))] 39), .own (.slice ayown4_0l17 yown4_0l17.length cyown4_0l17) 39 5 yown4_0l17.length xsyown4_0l17]) 0 rfl hL29 rfl fun g30 hx30 hRf30 => ?_
                            replace hLyown4_0l17 := hLyown4_0l17.mono hx30.1
                            replace hG1 := hG1.mono hx30.1
                            exact Ok.resP (vs := [.slice none ([] : List (Int × Int × Int × List UInt8 × Int)).length 0, .int .i64 2]) [] [] (by decide) rfl (.inl rfl) rfl (.cons (.tmp rfl) (.cons (.tmp rfl) .nil)) (((hxl17.trans hxl61).trans hxj63).trans hx30) ⟨([] : List (Int × Int × Int × List UInt8 × Int)), 2, none, 0, rfl, hRf30, rfl, hF⟩
                          · replace hF := hF.2 hc28
                            refine Ok.skip ?_
                            refine Ok.thenN ?_
                            refine Ok.region ?_
                            refine Ok.batch 3 [(0, .string ⟨⟨xs⟩⟩), (4, .slice ayown4_0l17 yown4_0l17.length cyown4_0l17), (6, .pointer (some ⟨b6, 0, none⟩)), (8, .int .i64 (IntKind.wrap .i64 (x8l61 + 1)))] (by kernel_rfl) ?_
                            refine Ok.nil ?_
                            refine Ok.blockN ?_
                            refine Ok.thenN ?_
                            subst hg27
                            exact fun a W hA hW => ⟨k61, Nat.lt_succ_self _, gj63, (hxl61.trans hxj63), IntKind.wrap .i64 (x8l61 + 1), IntKind.wrap .i64 ((IntKind.wrap .i64 (10 * yb6_4l61)) + (IntKind.wrap .i64 (IntKind.wrap .u8 (((xs.getD (Int.toNat x8l61) 0).toNat : Int) - 48)))), hA.sub (by kernel_rfl), hW, hF⟩
                        · replace hF := hF.2 hc26
                          refine Ok.exit ?_
                          refine Ok.thenE ?_
                          refine Ok.thenE ?_
                          refine Ok.blockHit ?_
                          refine Ok.thenN ?_
                          refine Ok.cut (fun a W => ∃ gj80 : Ghost, Gext w0 gj63 gj80 ∧ StA 160 [(0, .string ⟨⟨xs⟩⟩), (4, .slice ayown4_0l17 yown4_0l17.length cyown4_0l17), (6, .pointer (some ⟨b6, 0, none⟩)), (8, .int .i64 x8l61), (110, .bool ((decide (x8l61 < (xs.length : Int))) && (rnbM ((xs.getD (Int.toNat x8l61) 0).toNat : Int))))] a ∧ StW w0 [.blk b6 (.cells #[.int .i64 2, .int .i64 x5l17, .int .i64 0, .string ⟨⟨([] : List UInt8)⟩⟩, .int .i64 yb6_4l61] 39), .own (.slice ayown4_0l17 yown4_0l17.length cyown4_0l17) 39 5 yown4_0l17.length xsyown4_0l17] gj80 W ∧ rtdj80 xs K x8l61 yb6_4l61 x5l17 yown4_0l17 (rtdl17 xs K k17)) ?_ ?_
                          ·
                            refine Ok.region ?_
                            refine Ok.batch 5 [(0, .string ⟨⟨xs⟩⟩), (4, .slice ayown4_0l17 yown4_0l17.length cyown4_0l17), (6, .pointer (some ⟨b6, 0, none⟩)), (8, .int .i64 x8l61), (105, .bool (decide (x8l61 < (xs.length : Int))))] (by kernel_rfl) ?_
                            refine Ok.boolAt 105 (decide (x8l61 < (xs.length : Int))) rfl (fun hc34 => ?_) (fun hc34 => ?_)
                            · replace hF := hF.1 hc34
                              refine Ok.batch 2 [(0, .string ⟨⟨xs⟩⟩), (4, .slice ayown4_0l17 yown4_0l17.length cyown4_0l17), (6, .pointer (some ⟨b6, 0, none⟩)), (8, .int .i64 x8l61), (105, .bool true), (106, .string ⟨⟨xs⟩⟩), (107, .int .i64 x8l61)] (by kernel_rfl) ?_
                              obtain ⟨h035, h135, hF⟩ := hF
                              have he35 := get_of (l := xs) (0 : UInt8) h135
                              generalize hg35 : (xs.getD (Int.toNat x8l61) 0) = e35 at he35 hF ⊢
                              refine Ok.opYes (j := 4) (d := 105) (want := true) (b := true) rfl (by kernel_rfl) (by kernel_rfl) rfl (OpOk.step (v := .int .u8 (e35.toNat : Int)) (Yields.indexStr (k := .i64) (i := x8l61) (s := xs) (b := e35) (by kernel_rfl) (by kernel_rfl) Tryd.underlying9 h035 he35) rfl rfl ?_)
                              refine Ok.opYes (j := 4) (d := 105) (want := true) (b := true) rfl (by kernel_rfl) (by kernel_rfl) rfl (OpOk.callG (v := .bool (rnbM (e35.toNat : Int))) (enters (by kernel_rfl) (fun _ => by kernel_rfl)) (fun W hW => rnb_c (e35.toNat : Int)) rfl ?_)
                              refine Ok.batch 1 [(0, .string ⟨⟨xs⟩⟩), (4, .slice ayown4_0l17 yown4_0l17.length cyown4_0l17), (6, .pointer (some ⟨b6, 0, none⟩)), (8, .int .i64 x8l61), (110, .bool (rnbM (e35.toNat : Int)))] (by kernel_rfl) ?_
                              refine Ok.nil ?_
                              refine Ok.thenN ?_
                              subst hg35
                              refine Ok.reval 110 rfl (show (.bool (rnbM ((xs.getD (Int.toNat x8l61) 0).toNat : Int)) : Value) = .bool ((decide (x8l61 < (xs.length : Int))) && (rnbM ((xs.getD (Int.toNat x8l61) 0).toNat : Int))) from congrArg (Value.bool) (mand_t hc34)) ?_
                              exact fun a W hA hW => ⟨gj63, (Gext.refl w0 gj63), hA.sub (by kernel_rfl), hW, hF⟩
                            · replace hF := hF.2 hc34
                              refine Ok.batch 5 [(0, .string ⟨⟨xs⟩⟩), (4, .slice ayown4_0l17 yown4_0l17.length cyown4_0l17), (6, .pointer (some ⟨b6, 0, none⟩)), (8, .int .i64 x8l61), (110, .bool false)] (by kernel_rfl) ?_
                              refine Ok.nil ?_
                              refine Ok.thenN ?_
                              refine Ok.reval 110 rfl (show (.bool false : Value) = .bool ((decide (x8l61 < (xs.length : Int))) && (rnbM ((xs.getD (Int.toNat x8l61) 0).toNat : Int))) from congrArg (Value.bool) (mand_f hc34)) ?_
                              exact fun a W hA hW => ⟨gj63, (Gext.refl w0 gj63), hA.sub (by kernel_rfl), hW, hF⟩
                          ·
                            clear hF
                            rintro a W ⟨gj80, hxj80, hA, hW, hF⟩
                            refine (?_ : Ok _ _ _ _ _ _) a W hA hW
                            clear hA hW
                            replace hLyown4_0l17 := hLyown4_0l17.mono hxj80.1
                            replace hG1 := hG1.mono hxj80.1
                            refine Ok.cond (b := ((decide (x8l61 < (xs.length : Int))) && (rnbM ((xs.getD (Int.toNat x8l61) 0).toNat : Int)))) rfl (fun hc31 => ?_) (fun hc31 => ?_)
                            · replace hF := hF.1 hc31
                              refine Ok.seq ?_
                              refine Ok.region ?_
                              refine Ok.batch 1 [(2, .slice none 0 0)] (by kernel_rfl) ?_
                              have hL32 : RepL gj80 (.pair (.int .i64) (.pair (.int .i64) (.pair (.int .i64) (.pair (.str) (.int .i64))))) [] [] := rfl
                              refine Ok.ownNil 39 5 ?_
                              refine Ok.batch 1 [(2, .slice none ([] : List (Int × Int × Int × List UInt8 × Int)).length 0), (3, .int .i64 4)] (by kernel_rfl) ?_
                              refine Ok.nil ?_
                              refine Ok.thenN ?_
                              refine Ok.ret ?_
                              refine Ok.blockR ?_
                              refine Ok.thenR ?_
                              refine Ok.blockR ?_
                              refine Ok.thenR ?_
                              refine Ok.blockR ?_
                              refine Ok.thenR ?_
                              refine Ok.freeze (H' := [.blk b6 (.cells #[.int .i64 2, .int .i64 x5l17, .int .i64 0, .string ⟨⟨([] : List UInt8)⟩⟩, .int .i64 yb6_4l61] 39), .own (.slice ayown4_0l17 yown4_0l17.length cyown4_0l17) 39 5 yown4_0l17.length xsyown4_0l17]) 0 rfl hL32 rfl fun g33 hx33 hRf33 => ?_
                              replace hLyown4_0l17 := hLyown4_0l17.mono hx33.1
                              replace hG1 := hG1.mono hx33.1
                              exact Ok.resP (vs := [.slice none ([] : List (Int × Int × Int × List UInt8 × Int)).length 0, .int .i64 4]) [] [] (by decide) rfl (.inl rfl) rfl (.cons (.tmp rfl) (.cons (.tmp rfl) .nil)) ((((hxl17.trans hxl61).trans hxj63).trans hxj80).trans hx33) ⟨([] : List (Int × Int × Int × List UInt8 × Int)), 4, none, 0, rfl, hRf33, rfl, hF⟩
                            · replace hF := hF.2 hc31
                              refine Ok.skip ?_
                              refine Ok.blockN ?_
                              refine Ok.thenN ?_
                              exact fun a W hA hW => ⟨gj80, ((hxl61.trans hxj63).trans hxj80), x8l61, 2, ([] : List UInt8), yb6_4l61, hA.sub (by kernel_rfl), hW, hF⟩
                · replace hF := hF.2 hc25
                  refine Ok.seq ?_
                  refine Ok.region ?_
                  refine Ok.batch 1 [(0, .string ⟨⟨xs⟩⟩), (4, .slice ayown4_0l17 yown4_0l17.length cyown4_0l17), (5, .int .i64 x5l17), (6, .pointer (some ⟨b6, 0, none⟩)), (7, .int .u8 (e7.toNat : Int)), (8, .int .i64 x5l17), (112, .int .u8 (e7.toNat : Int))] (by kernel_rfl) ?_
                  refine Ok.op rfl (OpOk.callG (v := .bool (rnbM (e7.toNat : Int))) (enters (by kernel_rfl) (fun _ => by kernel_rfl)) (fun W hW => rnb_c (e7.toNat : Int)) rfl ?_)
                  refine Ok.batch 1 [(0, .string ⟨⟨xs⟩⟩), (4, .slice ayown4_0l17 yown4_0l17.length cyown4_0l17), (5, .int .i64 x5l17), (6, .pointer (some ⟨b6, 0, none⟩)), (7, .int .u8 (e7.toNat : Int)), (8, .int .i64 x5l17), (111, .bool (rnbM (e7.toNat : Int)))] (by kernel_rfl) ?_
                  refine Ok.nil ?_
                  refine Ok.thenN ?_
                  refine Ok.cond (b := (rnbM (e7.toNat : Int))) rfl (fun hc38 => ?_) (fun hc38 => ?_)
                  · replace hF := hF.1 hc38
                    refine Ok.seq ?_
                    refine Ok.block ?_
                    obtain ⟨k, hF⟩ := hF
                    refine Ok.loop (fun k a W => ∃ gl92 : Ghost, Gext w0 gl17 gl92 ∧ ∃ (x8l92 : Int), StA 160 [(0, .string ⟨⟨xs⟩⟩), (4, .slice ayown4_0l17 yown4_0l17.length cyown4_0l17), (5, .int .i64 x5l17), (6, .pointer (some ⟨b6, 0, none⟩)), (8, .int .i64 x8l92)] a ∧ StW w0 [.blk b6 (.cells #[.int .i64 0, .int .i64 x5l17, .int .i64 0, .string ⟨⟨([] : List UInt8)⟩⟩, .int .i64 0] 39), .own (.slice ayown4_0l17 yown4_0l17.length cyown4_0l17) 39 5 yown4_0l17.length xsyown4_0l17] gl92 W ∧ rtdl92 xs K x5l17 yown4_0l17 (rtdl17 xs K k17) k x8l92) k ?_ ?_
                    ·
                      exact fun a W hA hW => ⟨gl17, (Gext.refl w0 gl17), x5l17, hA.sub (by kernel_rfl), hW, hF⟩
                    ·
                      clear hF
                      rintro k92 a W ⟨gl92, hxl92, x8l92, hA, hW, hF⟩
                      cases k92 with
                      | zero => exact (hF : False).elim
                      | succ k92 =>
                        refine (?_ : Ok _ _ _ _ _ _) a W hA hW
                        clear hA hW
                        replace hLyown4_0l17 := hLyown4_0l17.mono hxl92.1
                        replace hG1 := hG1.mono hxl92.1
                        refine Ok.seq ?_
                        refine Ok.cut (fun a W => ∃ gj94 : Ghost, Gext w0 gl92 gj94 ∧ StA 160 [(0, .string ⟨⟨xs⟩⟩), (4, .slice ayown4_0l17 yown4_0l17.length cyown4_0l17), (5, .int .i64 x5l17), (6, .pointer (some ⟨b6, 0, none⟩)), (8, .int .i64 x8l92), (123, .bool ((decide (x8l92 < (xs.length : Int))) && (rnbM ((xs.getD (Int.toNat x8l92) 0).toNat : Int))))] a ∧ StW w0 [.blk b6 (.cells #[.int .i64 0, .int .i64 x5l17, .int .i64 0, .string ⟨⟨([] : List UInt8)⟩⟩, .int .i64 0] 39), .own (.slice ayown4_0l17 yown4_0l17.length cyown4_0l17) 39 5 yown4_0l17.length xsyown4_0l17] gj94 W ∧ rtdj94 xs K x8l92 x5l17 yown4_0l17 (rtdl17 xs K k17) (rtdl92 xs K x5l17 yown4_0l17 (rtdl17 xs K k17) k92)) ?_ ?_
                        ·
                          refine Ok.region ?_
                          refine Ok.batch 5 [(0, .string ⟨⟨xs⟩⟩), (4, .slice ayown4_0l17 yown4_0l17.length cyown4_0l17), (5, .int .i64 x5l17), (6, .pointer (some ⟨b6, 0, none⟩)), (8, .int .i64 x8l92), (118, .bool (decide (x8l92 < (xs.length : Int))))] (by kernel_rfl) ?_
                          refine Ok.boolAt 118 (decide (x8l92 < (xs.length : Int))) rfl (fun hc43 => ?_) (fun hc43 => ?_)
                          · replace hF := hF.1 hc43
                            refine Ok.batch 2 [(0, .string ⟨⟨xs⟩⟩), (4, .slice ayown4_0l17 yown4_0l17.length cyown4_0l17), (5, .int .i64 x5l17), (6, .pointer (some ⟨b6, 0, none⟩)), (8, .int .i64 x8l92), (118, .bool true), (119, .string ⟨⟨xs⟩⟩), (120, .int .i64 x8l92)] (by kernel_rfl) ?_
                            obtain ⟨h044, h144, hF⟩ := hF
                            have he44 := get_of (l := xs) (0 : UInt8) h144
                            generalize hg44 : (xs.getD (Int.toNat x8l92) 0) = e44 at he44 hF ⊢
                            refine Ok.opYes (j := 4) (d := 118) (want := true) (b := true) rfl (by kernel_rfl) (by kernel_rfl) rfl (OpOk.step (v := .int .u8 (e44.toNat : Int)) (Yields.indexStr (k := .i64) (i := x8l92) (s := xs) (b := e44) (by kernel_rfl) (by kernel_rfl) Tryd.underlying9 h044 he44) rfl rfl ?_)
                            refine Ok.opYes (j := 4) (d := 118) (want := true) (b := true) rfl (by kernel_rfl) (by kernel_rfl) rfl (OpOk.callG (v := .bool (rnbM (e44.toNat : Int))) (enters (by kernel_rfl) (fun _ => by kernel_rfl)) (fun W hW => rnb_c (e44.toNat : Int)) rfl ?_)
                            refine Ok.batch 1 [(0, .string ⟨⟨xs⟩⟩), (4, .slice ayown4_0l17 yown4_0l17.length cyown4_0l17), (5, .int .i64 x5l17), (6, .pointer (some ⟨b6, 0, none⟩)), (8, .int .i64 x8l92), (123, .bool (rnbM (e44.toNat : Int)))] (by kernel_rfl) ?_
                            refine Ok.nil ?_
                            refine Ok.thenN ?_
                            subst hg44
                            refine Ok.reval 123 rfl (show (.bool (rnbM ((xs.getD (Int.toNat x8l92) 0).toNat : Int)) : Value) = .bool ((decide (x8l92 < (xs.length : Int))) && (rnbM ((xs.getD (Int.toNat x8l92) 0).toNat : Int))) from congrArg (Value.bool) (mand_t hc43)) ?_
                            exact fun a W hA hW => ⟨gl92, (Gext.refl w0 gl92), hA.sub (by kernel_rfl), hW, hF⟩
                          · replace hF := hF.2 hc43
                            refine Ok.batch 5 [(0, .string ⟨⟨xs⟩⟩), (4, .slice ayown4_0l17 yown4_0l17.length cyown4_0l17), (5, .int .i64 x5l17), (6, .pointer (some ⟨b6, 0, none⟩)), (8, .int .i64 x8l92), (123, .bool false)] (by kernel_rfl) ?_
                            refine Ok.nil ?_
                            refine Ok.thenN ?_
                            refine Ok.reval 123 rfl (show (.bool false : Value) = .bool ((decide (x8l92 < (xs.length : Int))) && (rnbM ((xs.getD (Int.toNat x8l92) 0).toNat : Int))) from congrArg (Value.bool) (mand_f hc43)) ?_
                            exact fun a W hA hW => ⟨gl92, (Gext.refl w0 gl92), hA.sub (by kernel_rfl), hW, hF⟩
                        ·
                          clear hF
                          rintro a W ⟨gj94, hxj94, hA, hW, hF⟩
                          refine (?_ : Ok _ _ _ _ _ _) a W hA hW
                          clear hA hW
                          replace hLyown4_0l17 := hLyown4_0l17.mono hxj94.1
                          replace hG1 := hG1.mono hxj94.1
                          refine Ok.cond (b := ((decide (x8l92 < (xs.length : Int))) && (rnbM ((xs.getD (Int.toNat x8l92) 0).toNat : Int)))) rfl (fun hc39 => ?_) (fun hc39 => ?_)
                          · replace hF := hF.1 hc39
                            refine Ok.skip ?_
                            refine Ok.thenN ?_
                            refine Ok.block ?_
                            refine Ok.region ?_
                            refine Ok.batch 3 [(0, .string ⟨⟨xs⟩⟩), (4, .slice ayown4_0l17 yown4_0l17.length cyown4_0l17), (5, .int .i64 x5l17), (6, .pointer (some ⟨b6, 0, none⟩)), (8, .int .i64 (IntKind.wrap .i64 (x8l92 + 1)))] (by kernel_rfl) ?_
                            refine Ok.nil ?_
                            refine Ok.blockN ?_
                            refine Ok.thenN ?_
                            exact fun a W hA hW => ⟨k92, Nat.lt_succ_self _, gj94, (hxl92.trans hxj94), IntKind.wrap .i64 (x8l92 + 1), hA.sub (by kernel_rfl), hW, hF⟩
                          · replace hF := hF.2 hc39
                            refine Ok.exit ?_
                            refine Ok.thenE ?_
                            refine Ok.thenE ?_
                            refine Ok.blockHit ?_
                            refine Ok.thenN ?_
                            refine Ok.seq ?_
                            refine Ok.mix [] [] [.own (.slice ayown4_0l17 yown4_0l17.length cyown4_0l17) 39 5 yown4_0l17.length xsyown4_0l17] [(0, true), (1, true), (2, true), (3, true), (4, true), (5, false), (6, true), (7, false)] (by kernel_rfl) (by kernel_rfl) (.cons _ (.cons_cons _ .slnil)) ?_
                            refine OkM.batch 3 [(0, .string ⟨⟨xs⟩⟩), (4, .slice ayown4_0l17 yown4_0l17.length cyown4_0l17), (6, .pointer (some ⟨b6, 0, none⟩)), (8, .int .i64 x8l92), (126, .string ⟨⟨xs⟩⟩), (127, .int .i64 x5l17), (128, .int .i64 x8l92)] (by kernel_rfl) ?_
                            obtain ⟨h040, h140, h240, hF⟩ := hF
                            refine OkM.head rfl rfl (show _ = [.own (.slice ayown4_0l17 yown4_0l17.length cyown4_0l17) 39 5 yown4_0l17.length xsyown4_0l17] from rfl) (OpQ.step (v := .string ⟨⟨(xs.take (Int.toNat x8l92)).drop (Int.toNat x5l17)⟩⟩) (Yields.sliceStr (s := xs) (l := x5l17) (h := x8l92) (by kernel_rfl) Tryd.underlying9 (.inl ⟨_, _, rfl, rfl⟩) (.inl ⟨_, _, rfl, rfl⟩) h040 h140 h240 ((xs.take (Int.toNat x8l92)).drop (Int.toNat x5l17)) rfl) rfl rfl ?_)
                            refine OkM.batch 1 [(0, .string ⟨⟨xs⟩⟩), (4, .slice ayown4_0l17 yown4_0l17.length cyown4_0l17), (6, .pointer (some ⟨b6, 0, none⟩)), (8, .int .i64 x8l92), (129, .string ⟨⟨(xs.take (Int.toNat x8l92)).drop (Int.toNat x5l17)⟩⟩), (130, .pointer (some ⟨b6, 0, none⟩))] (by kernel_rfl) ?_
                            refine OkM.tail rfl rfl (OpOk.store (k := 1) (v := .int .i64 1) (H' := [.blk b6 (.cells #[.int .i64 1, .int .i64 x5l17, .int .i64 0, .string ⟨⟨([] : List UInt8)⟩⟩, .int .i64 0] 39), .own (.slice ayown4_0l17 yown4_0l17.length cyown4_0l17) 39 5 yown4_0l17.length xsyown4_0l17]) 0 rfl rfl rfl (by kernel_rfl) (by kernel_rfl) (by kernel_rfl) (by kernel_rfl) (by kernel_rfl) ?_)
                            refine OkM.leaf (i := 5) (show _ = [.own (.slice ayown4_0l17 yown4_0l17.length cyown4_0l17) 39 5 yown4_0l17.length xsyown4_0l17] from rfl) (Gle.refl _) (.cons _ (.cons_cons _ .slnil)) ?_
                            refine OkM.batch 1 [(0, .string ⟨⟨xs⟩⟩), (4, .slice ayown4_0l17 yown4_0l17.length cyown4_0l17), (6, .pointer (some ⟨b6, 0, none⟩)), (8, .int .i64 x8l92), (129, .string ⟨⟨(xs.take (Int.toNat x8l92)).drop (Int.toNat x5l17)⟩⟩), (131, .pointer (some ⟨b6, 3, none⟩))] (by kernel_rfl) ?_
                            refine OkM.tail rfl rfl (OpOk.store (k := 1) (v := .string ⟨⟨(xs.take (Int.toNat x8l92)).drop (Int.toNat x5l17)⟩⟩) (H' := [.blk b6 (.cells #[.int .i64 1, .int .i64 x5l17, .int .i64 0, .string ⟨⟨(xs.take (Int.toNat x8l92)).drop (Int.toNat x5l17)⟩⟩, .int .i64 0] 39), .own (.slice ayown4_0l17 yown4_0l17.length cyown4_0l17) 39 5 yown4_0l17.length xsyown4_0l17]) 0 rfl rfl rfl (by kernel_rfl) (by kernel_rfl) (by kernel_rfl) (by kernel_rfl) (by kernel_rfl) ?_)
                            refine OkM.leaf (i := 7) (show _ = [.own (.slice ayown4_0l17 yown4_0l17.length cyown4_0l17) 39 5 yown4_0l17.length xsyown4_0l17] from rfl) (Gle.refl _) (.cons _ (.cons_cons _ .slnil)) ?_
                            refine OkM.nil ?_
                            refine Ok.thenN ?_
                            refine Ok.seq ?_
                            refine Ok.region ?_
                            refine Ok.batch 1 [(0, .string ⟨⟨xs⟩⟩), (4, .slice ayown4_0l17 yown4_0l17.length cyown4_0l17), (6, .pointer (some ⟨b6, 0, none⟩)), (8, .int .i64 x8l92), (132, .pointer (some ⟨b6, 3, none⟩))] (by kernel_rfl) ?_
                            refine Ok.op rfl (OpOk.step (v := .string ⟨⟨(xs.take (Int.toNat x8l92)).drop (Int.toNat x5l17)⟩⟩) (Yields.load 0 rfl rfl Tryd.underlying9 rfl (by kernel_rfl)) rfl rfl ?_)
                            obtain ⟨hp41, hF⟩ := hF
                            refine Ok.op rfl (OpOk.callG (v := .bool (rwordS ((xs.take (Int.toNat x8l92)).drop (Int.toNat x5l17)))) (enters (by kernel_rfl) (fun _ => by kernel_rfl)) (fun W hW => rword_c ((xs.take (Int.toNat x8l92)).drop (Int.toNat x5l17)) (hG1.mono hW.sees) hp41) rfl ?_)
                            refine Ok.nil ?_
                            refine Ok.thenN ?_
                            refine Ok.cond (b := (rwordS ((xs.take (Int.toNat x8l92)).drop (Int.toNat x5l17)))) rfl (fun hc42 => ?_) (fun hc42 => ?_)
                            · replace hF := hF.1 hc42
                              refine Ok.region ?_
                              refine Ok.batch 1 [(0, .string ⟨⟨xs⟩⟩), (4, .slice ayown4_0l17 yown4_0l17.length cyown4_0l17), (6, .pointer (some ⟨b6, 0, none⟩)), (8, .int .i64 x8l92), (135, .pointer (some ⟨b6, 0, none⟩))] (by kernel_rfl) ?_
                              refine Ok.op rfl (OpOk.store (k := 1) (v := .int .i64 5) (H' := [.blk b6 (.cells #[.int .i64 5, .int .i64 x5l17, .int .i64 0, .string ⟨⟨(xs.take (Int.toNat x8l92)).drop (Int.toNat x5l17)⟩⟩, .int .i64 0] 39), .own (.slice ayown4_0l17 yown4_0l17.length cyown4_0l17) 39 5 yown4_0l17.length xsyown4_0l17]) 0 rfl rfl rfl (by kernel_rfl) (by kernel_rfl) (by kernel_rfl) (by kernel_rfl) (by kernel_rfl) ?_)
                              refine Ok.nil ?_
                              refine Ok.blockN ?_
                              refine Ok.thenN ?_
                              exact fun a W hA hW => ⟨gj94, (hxl92.trans hxj94), x8l92, 5, (xs.take (Int.toNat x8l92)).drop (Int.toNat x5l17), 0, hA.sub (by kernel_rfl), hW, hF⟩
                            · replace hF := hF.2 hc42
                              refine Ok.skip ?_
                              refine Ok.blockN ?_
                              refine Ok.thenN ?_
                              exact fun a W hA hW => ⟨gj94, (hxl92.trans hxj94), x8l92, 1, (xs.take (Int.toNat x8l92)).drop (Int.toNat x5l17), 0, hA.sub (by kernel_rfl), hW, hF⟩
                  · replace hF := hF.2 hc38
                    refine Ok.seq ?_
                    refine Ok.region ?_
                    refine Ok.batch 3 [(0, .string ⟨⟨xs⟩⟩), (4, .slice ayown4_0l17 yown4_0l17.length cyown4_0l17), (5, .int .i64 x5l17), (6, .pointer (some ⟨b6, 0, none⟩)), (8, .int .i64 x5l17), (136, .bool ((e7.toNat : Int) == 34))] (by kernel_rfl) ?_
                    refine Ok.nil ?_
                    refine Ok.thenN ?_
                    refine Ok.cond (b := ((e7.toNat : Int) == 34)) rfl (fun hc45 => ?_) (fun hc45 => ?_)
                    · replace hF := hF.1 hc45
                      refine Ok.seq ?_
                      refine Ok.region ?_
                      refine Ok.batch 1 [(0, .string ⟨⟨xs⟩⟩), (4, .slice ayown4_0l17 yown4_0l17.length cyown4_0l17), (5, .int .i64 x5l17), (6, .pointer (some ⟨b6, 0, none⟩)), (139, .pointer (some ⟨b6, 0, none⟩))] (by kernel_rfl) ?_
                      refine Ok.op rfl (OpOk.store (k := 1) (v := .int .i64 3) (H' := [.blk b6 (.cells #[.int .i64 3, .int .i64 x5l17, .int .i64 0, .string ⟨⟨([] : List UInt8)⟩⟩, .int .i64 0] 39), .own (.slice ayown4_0l17 yown4_0l17.length cyown4_0l17) 39 5 yown4_0l17.length xsyown4_0l17]) 0 rfl rfl rfl (by kernel_rfl) (by kernel_rfl) (by kernel_rfl) (by kernel_rfl) (by kernel_rfl) ?_)
                      refine Ok.nil ?_
                      refine Ok.thenN ?_
                      refine Ok.seq ?_
                      refine Ok.region ?_
                      refine Ok.batch 2 [(0, .string ⟨⟨xs⟩⟩), (4, .slice ayown4_0l17 yown4_0l17.length cyown4_0l17), (6, .pointer (some ⟨b6, 0, none⟩)), (141, .string ⟨⟨xs⟩⟩), (142, .int .i64 x5l17)] (by kernel_rfl) ?_
                      obtain ⟨hp46, hF⟩ := hF
                      refine Ok.op rfl (OpOk.callG (v := .tuple #[.string ⟨⟨(rtaS xs x5l17).1⟩⟩, .int .i64 ((rtaS xs x5l17).2)]) (enters (by kernel_rfl) (fun _ => by kernel_rfl)) (fun W hW => rta_c xs x5l17 (hG1.mono hW.sees) hp46) rfl ?_)
                      refine Ok.batch 4 [(0, .string ⟨⟨xs⟩⟩), (4, .slice ayown4_0l17 yown4_0l17.length cyown4_0l17), (6, .pointer (some ⟨b6, 0, none⟩)), (144, .string ⟨⟨(rtaS xs x5l17).1⟩⟩), (145, .int .i64 ((rtaS xs x5l17).2)), (146, .pointer (some ⟨b6, 3, none⟩))] (by kernel_rfl) ?_
                      refine Ok.op rfl (OpOk.store (k := 1) (v := .string ⟨⟨(rtaS xs x5l17).1⟩⟩) (H' := [.blk b6 (.cells #[.int .i64 3, .int .i64 x5l17, .int .i64 0, .string ⟨⟨(rtaS xs x5l17).1⟩⟩, .int .i64 0] 39), .own (.slice ayown4_0l17 yown4_0l17.length cyown4_0l17) 39 5 yown4_0l17.length xsyown4_0l17]) 0 rfl rfl rfl (by kernel_rfl) (by kernel_rfl) (by kernel_rfl) (by kernel_rfl) (by kernel_rfl) ?_)
                      refine Ok.batch 1 [(0, .string ⟨⟨xs⟩⟩), (4, .slice ayown4_0l17 yown4_0l17.length cyown4_0l17), (6, .pointer (some ⟨b6, 0, none⟩)), (8, .int .i64 ((rtaS xs x5l17).2))] (by kernel_rfl) ?_
                      refine Ok.nil ?_
                      refine Ok.thenN ?_
                      refine Ok.seq ?_
                      refine Ok.region ?_
                      refine Ok.batch 2 [(0, .string ⟨⟨xs⟩⟩), (4, .slice ayown4_0l17 yown4_0l17.length cyown4_0l17), (6, .pointer (some ⟨b6, 0, none⟩)), (8, .int .i64 ((rtaS xs x5l17).2)), (148, .bool (decide (((rtaS xs x5l17).2) < 0)))] (by kernel_rfl) ?_
                      refine Ok.nil ?_
                      refine Ok.thenN ?_
                      refine Ok.cond (b := decide (((rtaS xs x5l17).2) < 0)) rfl (fun hc47 => ?_) (fun hc47 => ?_)
                      · replace hF := hF.1 hc47
                        refine Ok.seq ?_
                        refine Ok.region ?_
                        refine Ok.batch 1 [(2, .slice none 0 0)] (by kernel_rfl) ?_
                        have hL48 : RepL gl17 (.pair (.int .i64) (.pair (.int .i64) (.pair (.int .i64) (.pair (.str) (.int .i64))))) [] [] := rfl
                        refine Ok.ownNil 39 5 ?_
                        refine Ok.batch 1 [(2, .slice none ([] : List (Int × Int × Int × List UInt8 × Int)).length 0), (3, .int .i64 4)] (by kernel_rfl) ?_
                        refine Ok.nil ?_
                        refine Ok.thenN ?_
                        refine Ok.ret ?_
                        refine Ok.blockR ?_
                        refine Ok.thenR ?_
                        refine Ok.blockR ?_
                        refine Ok.thenR ?_
                        refine Ok.blockR ?_
                        refine Ok.thenR ?_
                        refine Ok.freeze (H' := [.blk b6 (.cells #[.int .i64 3, .int .i64 x5l17, .int .i64 0, .string ⟨⟨(rtaS xs x5l17).1⟩⟩, .int .i64 0] 39), .own (.slice ayown4_0l17 yown4_0l17.length cyown4_0l17) 39 5 yown4_0l17.length xsyown4_0l17]) 0 rfl hL48 rfl fun g49 hx49 hRf49 => ?_
                        replace hLyown4_0l17 := hLyown4_0l17.mono hx49.1
                        replace hG1 := hG1.mono hx49.1
                        exact Ok.resP (vs := [.slice none ([] : List (Int × Int × Int × List UInt8 × Int)).length 0, .int .i64 4]) [] [] (by decide) rfl (.inl rfl) rfl (.cons (.tmp rfl) (.cons (.tmp rfl) .nil)) (hxl17.trans hx49) ⟨([] : List (Int × Int × Int × List UInt8 × Int)), 4, none, 0, rfl, hRf49, rfl, hF⟩
                      · replace hF := hF.2 hc47
                        refine Ok.skip ?_
                        refine Ok.blockN ?_
                        refine Ok.thenN ?_
                        exact fun a W hA hW => ⟨gl17, (Gext.refl w0 gl17), (rtaS xs x5l17).2, 3, (rtaS xs x5l17).1, 0, hA.sub (by kernel_rfl), hW, hF⟩
                    · replace hF := hF.2 hc45
                      refine Ok.seq ?_
                      refine Ok.region ?_
                      refine Ok.batch 2 [(0, .string ⟨⟨xs⟩⟩), (4, .slice ayown4_0l17 yown4_0l17.length cyown4_0l17), (6, .pointer (some ⟨b6, 0, none⟩)), (8, .int .i64 x5l17), (22, .string ⟨⟨xs⟩⟩), (23, .int .i64 x5l17)] (by kernel_rfl) ?_
                      obtain ⟨h050, h150, h250, hF⟩ := hF
                      refine Ok.op rfl (OpOk.step (v := .string ⟨⟨xs.drop (Int.toNat x5l17)⟩⟩) (Yields.sliceStr (s := xs) (l := x5l17) (h := (xs.length : Int)) (by kernel_rfl) Tryd.underlying9 (.inl ⟨_, _, rfl, rfl⟩) (.inr ⟨rfl, rfl⟩) h050 h150 h250 (xs.drop (Int.toNat x5l17)) (by rw [show ((xs.length : Int)).toNat = xs.length from Int.toNat_natCast _, List.take_length])) rfl rfl ?_)
                      obtain ⟨hp51, hF⟩ := hF
                      refine Ok.op rfl (OpOk.callG (v := .string ⟨⟨(rsaS (xs.drop (Int.toNat x5l17)))⟩⟩) (enters (by kernel_rfl) (fun _ => by kernel_rfl)) (fun W hW => rsa_c (xs.drop (Int.toNat x5l17)) (hG1.mono hW.sees) hp51) rfl ?_)
                      refine Ok.batch 1 [(0, .string ⟨⟨xs⟩⟩), (4, .slice ayown4_0l17 yown4_0l17.length cyown4_0l17), (6, .pointer (some ⟨b6, 0, none⟩)), (8, .int .i64 x5l17), (25, .string ⟨⟨(rsaS (xs.drop (Int.toNat x5l17)))⟩⟩), (26, .pointer (some ⟨b6, 0, none⟩))] (by kernel_rfl) ?_
                      refine Ok.op rfl (OpOk.store (k := 1) (v := .int .i64 4) (H' := [.blk b6 (.cells #[.int .i64 4, .int .i64 x5l17, .int .i64 0, .string ⟨⟨([] : List UInt8)⟩⟩, .int .i64 0] 39), .own (.slice ayown4_0l17 yown4_0l17.length cyown4_0l17) 39 5 yown4_0l17.length xsyown4_0l17]) 0 rfl rfl rfl (by kernel_rfl) (by kernel_rfl) (by kernel_rfl) (by kernel_rfl) (by kernel_rfl) ?_)
                      refine Ok.batch 1 [(0, .string ⟨⟨xs⟩⟩), (4, .slice ayown4_0l17 yown4_0l17.length cyown4_0l17), (6, .pointer (some ⟨b6, 0, none⟩)), (8, .int .i64 x5l17), (25, .string ⟨⟨(rsaS (xs.drop (Int.toNat x5l17)))⟩⟩), (27, .pointer (some ⟨b6, 3, none⟩))] (by kernel_rfl) ?_
                      refine Ok.op rfl (OpOk.store (k := 1) (v := .string ⟨⟨(rsaS (xs.drop (Int.toNat x5l17)))⟩⟩) (H' := [.blk b6 (.cells #[.int .i64 4, .int .i64 x5l17, .int .i64 0, .string ⟨⟨(rsaS (xs.drop (Int.toNat x5l17)))⟩⟩, .int .i64 0] 39), .own (.slice ayown4_0l17 yown4_0l17.length cyown4_0l17) 39 5 yown4_0l17.length xsyown4_0l17]) 0 rfl rfl rfl (by kernel_rfl) (by kernel_rfl) (by kernel_rfl) (by kernel_rfl) (by kernel_rfl) ?_)
                      refine Ok.nil ?_
                      refine Ok.thenN ?_
                      refine Ok.seq ?_
                      refine Ok.seq ?_
                      refine Ok.region ?_
                      refine Ok.batch 1 [(0, .string ⟨⟨xs⟩⟩), (4, .slice ayown4_0l17 yown4_0l17.length cyown4_0l17), (6, .pointer (some ⟨b6, 0, none⟩)), (8, .int .i64 x5l17), (28, .pointer (some ⟨b6, 3, none⟩))] (by kernel_rfl) ?_
                      refine Ok.op rfl (OpOk.step (v := .string ⟨⟨(rsaS (xs.drop (Int.toNat x5l17)))⟩⟩) (Yields.load 0 rfl rfl Tryd.underlying9 rfl (by kernel_rfl)) rfl rfl ?_)
                      refine Ok.op rfl (OpOk.step (v := .bool ((rsaS (xs.drop (Int.toNat x5l17))) == ([] : List UInt8))) (Yields.strCmp (f := .eql) (a := (rsaS (xs.drop (Int.toNat x5l17)))) (b := ([] : List UInt8)) (by kernel_rfl) (by kernel_rfl) rfl) rfl rfl ?_)
                      refine Ok.nil ?_
                      refine Ok.thenN ?_
                      refine Ok.cond (b := ((rsaS (xs.drop (Int.toNat x5l17))) == ([] : List UInt8))) rfl (fun hc52 => ?_) (fun hc52 => ?_)
                      · replace hF := hF.1 hc52
                        refine Ok.seq ?_
                        refine Ok.region ?_
                        refine Ok.batch 1 [(2, .slice none 0 0)] (by kernel_rfl) ?_
                        have hL53 : RepL gl17 (.pair (.int .i64) (.pair (.int .i64) (.pair (.int .i64) (.pair (.str) (.int .i64))))) [] [] := rfl
                        refine Ok.ownNil 39 5 ?_
                        refine Ok.batch 1 [(2, .slice none ([] : List (Int × Int × Int × List UInt8 × Int)).length 0), (3, .int .i64 4)] (by kernel_rfl) ?_
                        refine Ok.nil ?_
                        refine Ok.thenN ?_
                        refine Ok.ret ?_
                        refine Ok.thenR ?_
                        refine Ok.blockR ?_
                        refine Ok.thenR ?_
                        refine Ok.blockR ?_
                        refine Ok.thenR ?_
                        refine Ok.blockR ?_
                        refine Ok.thenR ?_
                        refine Ok.freeze (H' := [.blk b6 (.cells #[.int .i64 4, .int .i64 x5l17, .int .i64 0, .string ⟨⟨(rsaS (xs.drop (Int.toNat x5l17)))⟩⟩, .int .i64 0] 39), .own (.slice ayown4_0l17 yown4_0l17.length cyown4_0l17) 39 5 yown4_0l17.length xsyown4_0l17]) 0 rfl hL53 rfl fun g54 hx54 hRf54 => ?_
                        replace hLyown4_0l17 := hLyown4_0l17.mono hx54.1
                        replace hG1 := hG1.mono hx54.1
                        exact Ok.resP (vs := [.slice none ([] : List (Int × Int × Int × List UInt8 × Int)).length 0, .int .i64 4]) [] [] (by decide) rfl (.inl rfl) rfl (.cons (.tmp rfl) (.cons (.tmp rfl) .nil)) (hxl17.trans hx54) ⟨([] : List (Int × Int × Int × List UInt8 × Int)), 4, none, 0, rfl, hRf54, rfl, hF⟩
                      · replace hF := hF.2 hc52
                        refine Ok.skip ?_
                        refine Ok.thenN ?_
                        refine Ok.region ?_
                        refine Ok.batch 2 [(0, .string ⟨⟨xs⟩⟩), (4, .slice ayown4_0l17 yown4_0l17.length cyown4_0l17), (6, .pointer (some ⟨b6, 0, none⟩)), (31, .int .i64 x5l17), (32, .pointer (some ⟨b6, 3, none⟩))] (by kernel_rfl) ?_
                        refine Ok.op rfl (OpOk.step (v := .string ⟨⟨(rsaS (xs.drop (Int.toNat x5l17)))⟩⟩) (Yields.load 0 rfl rfl Tryd.underlying9 rfl (by kernel_rfl)) rfl rfl ?_)
                        refine Ok.batch 3 [(0, .string ⟨⟨xs⟩⟩), (4, .slice ayown4_0l17 yown4_0l17.length cyown4_0l17), (6, .pointer (some ⟨b6, 0, none⟩)), (8, .int .i64 (IntKind.wrap .i64 (x5l17 + ((rsaS (xs.drop (Int.toNat x5l17))).length : Int))))] (by kernel_rfl) ?_
                        refine Ok.nil ?_
                        refine Ok.blockN ?_
                        refine Ok.thenN ?_
                        exact fun a W hA hW => ⟨gl17, (Gext.refl w0 gl17), IntKind.wrap .i64 (x5l17 + ((rsaS (xs.drop (Int.toNat x5l17))).length : Int)), 4, (rsaS (xs.drop (Int.toNat x5l17))), 0, hA.sub (by kernel_rfl), hW, hF⟩
          ·
            clear hF
            rintro a W ⟨gj31, hxj31, x8j31, yb6_0j31, yb6_3j31, yb6_4j31, hA, hW, hF⟩
            refine (?_ : Ok _ _ _ _ _ _) a W hA hW
            clear hA hW
            replace hLyown4_0l17 := hLyown4_0l17.mono hxj31.1
            replace hG1 := hG1.mono hxj31.1
            refine Ok.seq ?_
            refine Ok.seq ?_
            refine Ok.region ?_
            refine Ok.batch 3 [(0, .string ⟨⟨xs⟩⟩), (4, .slice ayown4_0l17 yown4_0l17.length cyown4_0l17), (6, .pointer (some ⟨b6, 0, none⟩)), (8, .int .i64 x8j31), (151, .bool ((yown4_0l17.length : Int) == 1000))] (by kernel_rfl) ?_
            refine Ok.nil ?_
            refine Ok.thenN ?_
            refine Ok.cond (b := ((yown4_0l17.length : Int) == 1000)) rfl (fun hc8 => ?_) (fun hc8 => ?_)
            · replace hF := hF.1 hc8
              refine Ok.seq ?_
              refine Ok.region ?_
              refine Ok.batch 1 [(2, .slice none 0 0)] (by kernel_rfl) ?_
              have hL9 : RepL gj31 (.pair (.int .i64) (.pair (.int .i64) (.pair (.int .i64) (.pair (.str) (.int .i64))))) [] [] := rfl
              refine Ok.ownNil 39 5 ?_
              refine Ok.batch 1 [(2, .slice none ([] : List (Int × Int × Int × List UInt8 × Int)).length 0), (3, .int .i64 2)] (by kernel_rfl) ?_
              refine Ok.nil ?_
              refine Ok.thenN ?_
              refine Ok.ret ?_
              refine Ok.thenR ?_
              refine Ok.blockR ?_
              refine Ok.thenR ?_
              refine Ok.blockR ?_
              refine Ok.thenR ?_
              refine Ok.freeze (H' := [.blk b6 (.cells #[.int .i64 yb6_0j31, .int .i64 x5l17, .int .i64 0, .string ⟨⟨yb6_3j31⟩⟩, .int .i64 yb6_4j31] 39), .own (.slice ayown4_0l17 yown4_0l17.length cyown4_0l17) 39 5 yown4_0l17.length xsyown4_0l17]) 0 rfl hL9 rfl fun g10 hx10 hRf10 => ?_
              replace hLyown4_0l17 := hLyown4_0l17.mono hx10.1
              replace hG1 := hG1.mono hx10.1
              exact Ok.resP (vs := [.slice none ([] : List (Int × Int × Int × List UInt8 × Int)).length 0, .int .i64 2]) [] [] (by decide) rfl (.inl rfl) rfl (.cons (.tmp rfl) (.cons (.tmp rfl) .nil)) ((hxl17.trans hxj31).trans hx10) ⟨([] : List (Int × Int × Int × List UInt8 × Int)), 2, none, 0, rfl, hRf10, rfl, hF⟩
            · replace hF := hF.2 hc8
              refine Ok.skip ?_
              refine Ok.thenN ?_
              refine Ok.seq ?_
              refine Ok.region ?_
              refine Ok.batch 2 [(0, .string ⟨⟨xs⟩⟩), (4, .slice ayown4_0l17 yown4_0l17.length cyown4_0l17), (6, .pointer (some ⟨b6, 0, none⟩)), (8, .int .i64 x8j31), (152, .int .i64 x8j31), (153, .pointer (some ⟨b6, 2, none⟩))] (by kernel_rfl) ?_
              refine Ok.op rfl (OpOk.store (k := 1) (v := .int .i64 x8j31) (H' := [.blk b6 (.cells #[.int .i64 yb6_0j31, .int .i64 x5l17, .int .i64 x8j31, .string ⟨⟨yb6_3j31⟩⟩, .int .i64 yb6_4j31] 39), .own (.slice ayown4_0l17 yown4_0l17.length cyown4_0l17) 39 5 yown4_0l17.length xsyown4_0l17]) 0 rfl rfl rfl (by kernel_rfl) (by kernel_rfl) (by kernel_rfl) (by kernel_rfl) (by kernel_rfl) ?_)
              refine Ok.nil ?_
              refine Ok.thenN ?_
              refine Ok.seq ?_
              refine Ok.region ?_
              refine Ok.batch 1 [(0, .string ⟨⟨xs⟩⟩), (6, .pointer (some ⟨b6, 0, none⟩)), (8, .int .i64 x8j31), (154, .slice ayown4_0l17 yown4_0l17.length cyown4_0l17)] (by kernel_rfl) ?_
              refine Ok.op rfl (OpOk.step (v := .agg #[.int .i64 yb6_0j31, .int .i64 x5l17, .int .i64 x8j31, .string ⟨⟨yb6_3j31⟩⟩, .int .i64 yb6_4j31]) (Yields.loadAgg 0 5 #[.int .i64 yb6_0j31, .int .i64 x5l17, .int .i64 x8j31, .string ⟨⟨yb6_3j31⟩⟩, .int .i64 yb6_4j31] rfl rfl Tryd.underlying39 rfl (by kernel_rfl) (by kernel_rfl) (by kernel_rfl)) rfl rfl ?_)
              have hL11 : RepL gj31 (.pair (.int .i64) (.pair (.int .i64) (.pair (.int .i64) (.pair (.str) (.int .i64))))) ([.int .i64 yb6_0j31, .int .i64 x5l17, .int .i64 x8j31, .string ⟨⟨yb6_3j31⟩⟩, .int .i64 yb6_4j31] : List Value) ([(yb6_0j31, x5l17, x8j31, yb6_3j31, yb6_4j31)] : List (Int × Int × Int × List UInt8 × Int)) := (RepL.consN (c := [.int .i64 yb6_0j31, .int .i64 x5l17, .int .i64 x8j31, .string ⟨⟨yb6_3j31⟩⟩, .int .i64 yb6_4j31]) ⟨[.int .i64 yb6_0j31], [.int .i64 x5l17, .int .i64 x8j31, .string ⟨⟨yb6_3j31⟩⟩, .int .i64 yb6_4j31], rfl, rfl, ⟨[.int .i64 x5l17], [.int .i64 x8j31, .string ⟨⟨yb6_3j31⟩⟩, .int .i64 yb6_4j31], rfl, rfl, ⟨[.int .i64 x8j31], [.string ⟨⟨yb6_3j31⟩⟩, .int .i64 yb6_4j31], rfl, rfl, ⟨[.string ⟨⟨yb6_3j31⟩⟩], [.int .i64 yb6_4j31], rfl, rfl, rfl⟩⟩⟩⟩ rfl)
              refine Ok.op rfl (OpOk.lit (E := 39) (.pair (.int .i64) (.pair (.int .i64) (.pair (.int .i64) (.pair (.str) (.int .i64))))) ([(yb6_0j31, x5l17, x8j31, yb6_3j31, yb6_4j31)] : List (Int × Int × Int × List UInt8 × Int)) ([.int .i64 yb6_0j31, .int .i64 x5l17, .int .i64 x8j31, .string ⟨⟨yb6_3j31⟩⟩, .int .i64 yb6_4j31] : List Value) (by kernel_rfl) (by kernel_rfl) rfl (by kernel_rfl) hL11 rfl fun b11 => ?_)
              obtain ⟨hb12, hF⟩ := hF
              refine Ok.op rfl (OpOk.append' (e := .pair (.int .i64) (.pair (.int .i64) (.pair (.int .i64) (.pair (.str) (.int .i64))))) 48 2932031007402 2 0 rfl rfl rfl rfl hLyown4_0l17 hL11 Tryd.underlying22 (by kernel_rfl) (by kernel_rfl) (by kernel_rfl) hb12 rfl fun a12 c12 xs12 hL12 => ?_)
              refine Ok.batch 1 [(0, .string ⟨⟨xs⟩⟩), (4, .slice a12 (yown4_0l17 ++ ([(yb6_0j31, x5l17, x8j31, yb6_3j31, yb6_4j31)] : List (Int × Int × Int × List UInt8 × Int))).length c12), (8, .int .i64 x8j31)] (by kernel_rfl) ?_
              refine Ok.nil ?_
              refine Ok.thenN ?_
              refine Ok.region ?_
              refine Ok.batch 2 [(0, .string ⟨⟨xs⟩⟩), (4, .slice a12 (yown4_0l17 ++ ([(yb6_0j31, x5l17, x8j31, yb6_3j31, yb6_4j31)] : List (Int × Int × Int × List UInt8 × Int))).length c12), (5, .int .i64 x8j31)] (by kernel_rfl) ?_
              refine Ok.nil ?_
              refine Ok.blockN ?_
              refine Ok.thenN ?_
              subst hg7
              exact fun a W hA hW => ⟨k17, Nat.lt_succ_self _, gj31, (hxl17.trans hxj31), x8j31, a12, c12, (yown4_0l17 ++ ([(yb6_0j31, x5l17, x8j31, yb6_3j31, yb6_4j31)] : List (Int × Int × Int × List UInt8 × Int))), xs12, hL12, hA.sub (by kernel_rfl), hW.sub (.cons _ (.cons _ (.cons_cons _ .slnil))), hF⟩
        · replace hF := hF.2 hc5
          refine Ok.exit ?_
          refine Ok.thenE ?_
          refine Ok.thenE ?_
          refine Ok.blockHit ?_
          refine Ok.thenN ?_
          refine Ok.seq ?_
          refine Ok.region ?_
          refine Ok.batch 3 [(2, .slice ayown4_0l17 yown4_0l17.length cyown4_0l17), (3, .int .i64 0)] (by kernel_rfl) ?_
          refine Ok.nil ?_
          refine Ok.thenN ?_
          refine Ok.ret ?_
          refine Ok.freeze (H' := []) 0 rfl hLyown4_0l17 rfl fun g55 hx55 hRf55 => ?_
          replace hG1 := hG1.mono hx55.1
          exact Ok.resH (vs := [.slice ayown4_0l17 yown4_0l17.length cyown4_0l17, .int .i64 0]) (.inl rfl) rfl (.cons (.tmp rfl) (.cons (.tmp rfl) .nil)) (hxl17.trans hx55) ⟨yown4_0l17, 0, ayown4_0l17, cyown4_0l17, rfl, hRf55, rfl, hF⟩
theorem rtd_F (s : List UInt8) : rtdF s (fun r e => (r, e) = jtokS s) := by
  refine ⟨fun h => by unfold jtokS; rw [if_t h], fun h => ?_⟩
  have hl := of_decide_eq_false h
  have e0 : jtokS s = tkN (s.length + 1) (jskipS (s, 0, [])) := by unfold jtokS; rw [if_f h]
  have loop : ∀ (k : Nat) (i : Int) (o : List TK) (m : Nat), (s.length : Int) ≤ i + k → (s.length : Int) ≤ i + m → 0 ≤ i → i ≤ (s.length : Int) → (o.length : Int) ≤ i → jtokS s = tkN (m + 1) (jskipS (s, i, o)) →
      rtdl17 s (fun r e => (r, e) = jtokS s) (k + 1) i o := by
    intro k
    induction k with
    | zero =>
      intro i o m hk hm h0 h1 ho he
      have hn : decide (i < (s.length : Int)) = false := decide_eq_false (by omega)
      have hz : jskipS (s, i, o) = (s, i, o) := by
        unfold jskipS
        rw [show ((s, i, o) : RD).1.drop (Int.toNat ((s, i, o) : RD).2.1) = [] from List.drop_of_length_le (by show s.length ≤ i.toNat; omega)]
        show (s, i + ((0 : Nat) : Int), o) = _
        rw [show i + ((0 : Nat) : Int) = i by omega]
      rw [hz, tkN, if_f hn] at he
      exact ⟨fun h => (Bool.false_ne_true (hn.symm.trans h)).elim, fun _ => he.symm⟩
    | succ k ih =>
      intro i o m hk hm h0 h1 ho he
      by_cases hi : i < (s.length : Int)
      case neg =>
        have hn : decide (i < (s.length : Int)) = false := decide_eq_false hi
        have hz : jskipS (s, i, o) = (s, i, o) := by
          unfold jskipS
          rw [show ((s, i, o) : RD).1.drop (Int.toNat ((s, i, o) : RD).2.1) = [] from List.drop_of_length_le (by show s.length ≤ i.toNat; omega)]
          show (s, i + ((0 : Nat) : Int), o) = _
          rw [show i + ((0 : Nat) : Int) = i by omega]
        rw [hz, tkN, if_f hn] at he
        exact ⟨fun h => (Bool.false_ne_true (hn.symm.trans h)).elim, fun _ => he.symm⟩
      have hn : decide (i < (s.length : Int)) = true := decide_eq_true hi
      have hd := drop_get (l := s) (k := i.toNat) 0 (by omega)
      have w1 : IntKind.wrap .i64 (i + 1) = i + 1 := w64 (by omega)
      have fin : ∀ (e kind : Int) (text : List UInt8) (num : Int), jskipS (s, i, o) = (s, i, o) → jnxtS (s, i, o) = ((kind, 0, 0, text, num), 0, (s, e, o)) → i < e → e ≤ (s.length : Int) →
          rtdj31 (fun r e => (r, e) = jtokS s) e kind text num i o (rtdl17 s (fun r e => (r, e) = jtokS s) (k + 1)) := by
        intro e kind text num hz hx he1 he2
        rw [hz, tkN, if_t hn] at he
        refine ⟨fun hb => ?_, fun hb => ⟨by rw [List.length_append]; simp only [List.length_cons, List.length_nil]; omega, ?_⟩⟩
        · have hE : tkE (s, i, o) = 2 := by unfold tkE; rw [hx]; exact if_t hb
          rw [hE] at he
          exact he.symm
        · have hE : tkE (s, i, o) = 0 := by unfold tkE; rw [hx]; exact if_f hb
          have hA : tkA (s, i, o) = jskipS (s, e, o ++ [(kind, i, e, text, num)]) := by unfold tkA; rw [hx]
          rw [hE, hA] at he
          replace he : jtokS s = tkN m (jskipS (s, e, o ++ [(kind, i, e, text, num)])) := he
          obtain ⟨m', rfl⟩ : ∃ m', m = m' + 1 := ⟨m - 1, by omega⟩
          exact ih e _ m' (by omega) (by omega) (by omega) he2 (by rw [List.length_append]; simp only [List.length_cons, List.length_nil]; omega) he
      have bad : ∀ (t : TK) (e : Int) (x : RD), jskipS (s, i, o) = (s, i, o) → jnxtS (s, i, o) = (t, e, x) → e ≠ 0 → ([], e) = jtokS s := by
        intro t e x hz hx hne
        rw [hz, tkN, if_t hn] at he
        have hb : (e == 0) = false := by simpa using hne
        have hE : tkE (s, i, o) = e := by
          unfold tkE; rw [hx]
          show (if (e == 0 && _) = true then (2 : Int) else e) = e
          rw [hb, Bool.false_and]; rfl
        rw [hE, if_t (show (e != 0) = true by simpa using hne)] at he
        exact he.symm
      have hpk : (jpeekS (s, i, o) 0).1 = ((s.getD i.toNat 0).toNat : Int) := by
        unfold jpeekS
        rw [show (((s, i, o) : RD).2.1 + 0) = i from Int.add_zero _]
        exact if_t (decide_eq_true hi)
      refine ⟨fun _ => ⟨h0, by omega, fun hw => ?_, fun hw => ⟨h0, by omega, by omega, ?_⟩⟩, fun h => (Bool.false_ne_true (h.symm.trans hn)).elim⟩
      · rw [w1]
        exact ih (i + 1) o m (by omega) (by omega) (by omega) (by omega) (by omega) (by rw [he, sk_ws o h0 hi hw])
      have hwf : wsB (s.getD i.toNat 0) = false := hw
      rw [hd, hp47]
      refine ⟨fun hc => ?_, fun hc => ?_⟩
      · have hc47 : (((s.getD i.toNat 0).toNat : Int) == 10) = false := by
          rw [Bool.and_eq_true, beq_iff_eq] at hc
          rw [hc.1]; rfl
        have inner : ∀ (q : Nat) (j : Int), (s.length : Int) ≤ j + q → i ≤ j → j ≤ (s.length : Int) → i + (skN (s.drop i.toNat) false : Nat) = j + (skN (s.drop j.toNat) true : Nat) →
            rtdl44 s o (rtdl17 s (fun r e => (r, e) = jtokS s) (k + 1)) (q + 1) j := by
          intro q
          have out : ∀ j : Int, i ≤ j → j ≤ (s.length : Int) → i + (skN (s.drop i.toNat) false : Nat) = j + (skN (s.drop j.toNat) true : Nat) → (decide (j < (s.length : Int)) && (((s.getD j.toNat 0).toNat : Int) != 10)) = false →
              rtdl17 s (fun r e => (r, e) = jtokS s) (k + 1) j o := by
            intro j hj1 hj2 hsum hend
            have hne : j ≠ i := fun e => by
              rw [e, decide_eq_true hi, Bool.true_and] at hend
              have : (((s.getD i.toNat 0).toNat : Int) == 10) = true := by simpa using hend
              rw [this] at hc47; cases hc47
            have hsk : jskipS (s, i, o) = jskipS (s, j, o) := by
              have e2 : skN (s.drop j.toNat) true = skN (s.drop j.toNat) false := by
                by_cases hjl : j < (s.length : Int)
                · rw [decide_eq_true hjl, Bool.true_and] at hend
                  have h10 : (((s.getD j.toNat 0).toNat : Int) == 10) = true := by simpa using hend
                  have hws : wsB (s.getD j.toNat 0) = true := by unfold wsB; rw [h10]; simp
                  rw [drop_get (l := s) (k := j.toNat) 0 (by omega), skN, skN, h10, if_t hws]; rfl
                · rw [List.drop_of_length_le (by omega)]; rfl
              rw [e2] at hsum
              show (s, i + (skN (s.drop i.toNat) false : Nat), o) = (s, j + (skN (s.drop j.toNat) false : Nat), o)
              rw [hsum]
            exact ih j o m (by omega) (by omega) (by omega) hj2 (by omega) (by rw [he, hsk])
          induction q with
          | zero =>
            intro j hq hj1 hj2 hsum
            have hjn : decide (j < (s.length : Int)) = false := decide_eq_false (by omega)
            refine ⟨fun h => (Bool.false_ne_true (hjn.symm.trans h)).elim, fun _ => ?_⟩
            exact ⟨fun h => (by rw [hjn] at h; cases h), fun h => out j hj1 hj2 hsum h⟩
          | succ q ihq =>
            intro j hq hj1 hj2 hsum
            have j46 : rtdj46 s j o (rtdl17 s (fun r e => (r, e) = jtokS s) (k + 1)) (rtdl44 s o (rtdl17 s (fun r e => (r, e) = jtokS s) (k + 1)) (q + 1)) := by
              refine ⟨fun h => ?_, fun h => out j hj1 hj2 hsum h⟩
              rw [Bool.and_eq_true] at h
              have hjl := of_decide_eq_true h.1
              have h10 : (((s.getD j.toNat 0).toNat : Int) == 10) = false := by simpa using h.2
              rw [w64 (by omega)]
              refine ihq (j + 1) (by omega) (by omega) (by omega) ?_
              rw [hsum, drop_get (l := s) (k := j.toNat) 0 (by omega), skN, h10, show (j + 1).toNat = j.toNat + 1 by omega]
              show j + ((1 + skN (s.drop (j.toNat + 1)) true : Nat) : Int) = _
              omega
            exact ⟨fun h => ⟨by omega, by have := of_decide_eq_true h; omega, j46⟩, fun _ => j46⟩
        refine ⟨_, inner s.length i (by omega) (by omega) (by omega) ?_⟩
        rw [hd, skN, skN, if_f hwf, if_t hc, hc47]; rfl
      have hz : jskipS (s, i, o) = (s, i, o) := by
        show (s, i + (skN (s.drop i.toNat) false : Nat), o) = _
        rw [hd, skN, if_f hwf, if_f hc]
        show (s, i + ((0 : Nat) : Int), o) = _
        rw [show i + ((0 : Nat) : Int) = i by omega]
      rw [bf1, bf3]
      refine ⟨fun hdg => ?_, fun hdg => ⟨fun hnb => ?_, fun hnb => ⟨fun hq => ?_, fun hq => ?_⟩⟩⟩
      · have hlt : jletM (jpeekS (s, i, o) 0).1 = false := by rw [hpk]; exact bf2 _ hdg
        have hnx : jnxtS (s, i, o) = jnumS (s, i, o) := by unfold jnxtS; rw [if_f hlt, if_t (by rw [hpk]; exact hdg)]
        have htk := run_take (x := (s, i, o)) ⟨by show s.length ≤ 1000000; omega, h0, h1⟩ (fun y0 => jdigM y0)
        have hnum : jnumS (s, i, o) = (match numV ((s.drop i.toNat).take (runN (fun y0 => jdigM y0) (s.drop i.toNat))) 0 with
          | none => ((0, 0, 0, [], 0), 2, (s, i + (runN (fun y0 => jdigM y0) (s.drop i.toNat) : Nat), o))
          | some n => if jletM (jpeekS (s, i + (runN (fun y0 => jdigM y0) (s.drop i.toNat) : Nat), o) 0).1 = true then ((0, 0, 0, [], 0), 4, (s, i + (runN (fun y0 => jdigM y0) (s.drop i.toNat) : Nat), o)) else ((2, 0, 0, [], n), 0, (s, i + (runN (fun y0 => jdigM y0) (s.drop i.toNat) : Nat), o))) := by
          unfold jnumS; rw [htk]; rfl
        have inner : ∀ (q : Nat) (e num : Int), (s.length : Int) ≤ e + q → i ≤ e → e ≤ (s.length : Int) → 0 ≤ num → num ≤ 9007199254740992 → (e = i → num = 0) →
            i + (runN (fun y0 => jdigM y0) (s.drop i.toNat) : Nat) = e + (runN (fun y0 => jdigM y0) (s.drop e.toNat) : Nat) →
            numV ((s.drop i.toNat).take (runN (fun y0 => jdigM y0) (s.drop i.toNat))) 0 = numV ((s.drop e.toNat).take (runN (fun y0 => jdigM y0) (s.drop e.toNat))) num →
            rtdl61 s (fun r e => (r, e) = jtokS s) i o (rtdl17 s (fun r e => (r, e) = jtokS s) (k + 1)) (q + 1) e num := by
          intro q
          have out : ∀ (e num : Int), i ≤ e → e ≤ (s.length : Int) → i + (runN (fun y0 => jdigM y0) (s.drop i.toNat) : Nat) = e + (runN (fun y0 => jdigM y0) (s.drop e.toNat) : Nat) →
              numV ((s.drop i.toNat).take (runN (fun y0 => jdigM y0) (s.drop i.toNat))) 0 = numV ((s.drop e.toNat).take (runN (fun y0 => jdigM y0) (s.drop e.toNat))) num →
              (decide (e < (s.length : Int)) && jdigM ((s.getD e.toNat 0).toNat : Int)) = false →
              rtdj80 s (fun r e => (r, e) = jtokS s) e num i o (rtdl17 s (fun r e => (r, e) = jtokS s) (k + 1)) := by
            intro e num g1 g2 g3 g4 g5
            have hr0 : runN (fun y0 => jdigM y0) (s.drop e.toNat) = 0 := by
              by_cases hel : e < (s.length : Int)
              · rw [decide_eq_true hel, Bool.true_and] at g5
                rw [drop_get (l := s) (k := e.toNat) 0 (by omega), run_nil g5]
              · rw [List.drop_of_length_le (by omega)]; rfl
            have hie : i < e := by
              have : runN (fun y0 => jdigM y0) (s.drop i.toNat) = 1 + runN (fun y0 => jdigM y0) (s.drop (i.toNat + 1)) := by
                rw [hd]; exact run_cons (is := fun y0 => jdigM y0) hdg
              rw [hr0] at g3; omega
            rw [hr0] at g3 g4
            have ge : i + (runN (fun y0 => jdigM y0) (s.drop i.toNat) : Nat) = e := by rw [g3]; show e + ((0 : Nat) : Int) = e; omega
            rw [List.take_zero] at g4
            rw [g4, ge] at hnum
            have hpe : jletM (jpeekS (s, e, o) 0).1 = (decide (e < (s.length : Int)) && rnbM ((s.getD e.toNat 0).toNat : Int)) := by
              unfold jpeekS
              rw [show (((s, e, o) : RD).2.1 + 0) = e from Int.add_zero _]
              show jletM (if decide (e < (s.length : Int)) = true then ((s.getD e.toNat 0).toNat : Int) else 0) = _
              cases hel : decide (e < (s.length : Int))
              · rfl
              · rw [hel, Bool.true_and] at g5
                rw [if_t rfl, Bool.true_and, bf3, jnb_or, g5, Bool.or_false]
            change jnumS (s, i, o) = (if jletM (jpeekS (s, e, o) 0).1 = true then ((0, 0, 0, [], 0), 4, (s, e, o)) else ((2, 0, 0, [], num), 0, (s, e, o))) at hnum
            rw [hpe] at hnum
            refine ⟨fun h => ?_, fun h => fin e 2 [] num hz (by rw [hnx, hnum, if_f h]) hie g2⟩
            exact bad _ 4 _ hz (by rw [hnx, hnum, if_t h]) (by decide)
          induction q with
          | zero =>
            intro e num hq g1 g2 n1 n2 n3 g3 g4
            have hen : decide (e < (s.length : Int)) = false := decide_eq_false (by omega)
            have hf : (decide (e < (s.length : Int)) && jdigM ((s.getD e.toNat 0).toNat : Int)) = false := by rw [hen]; rfl
            refine ⟨fun h => (Bool.false_ne_true (hen.symm.trans h)).elim, fun _ => ?_⟩
            unfold rtdj63
            rw [bf1]
            exact ⟨fun h => (Bool.false_ne_true (hf.symm.trans h)).elim, fun _ => ⟨fun h => (Bool.false_ne_true (hen.symm.trans h)).elim, fun _ => out e num g1 g2 g3 g4 hf⟩⟩
          | succ q ihq =>
            intro e num hq g1 g2 n1 n2 n3 g3 g4
            have j63 : rtdj63 s (fun r e => (r, e) = jtokS s) e num i o (rtdl17 s (fun r e => (r, e) = jtokS s) (k + 1)) (rtdl61 s (fun r e => (r, e) = jtokS s) i o (rtdl17 s (fun r e => (r, e) = jtokS s) (k + 1)) (q + 1)) := by
              unfold rtdj63
              rw [bf1]
              refine ⟨fun h => ?_, fun h => ⟨fun h2 => ⟨by omega, by have := of_decide_eq_true h2; omega, out e num g1 g2 g3 g4 h⟩, fun _ => out e num g1 g2 g3 g4 h⟩⟩
              rw [Bool.and_eq_true] at h
              have hel := of_decide_eq_true h.1
              have hb := dig_in h.2
              have hed := drop_get (l := s) (k := e.toNat) 0 (by omega)
              rw [hed, run_cons (is := fun y0 => jdigM y0) h.2] at g3
              rw [hed, run_cons (is := fun y0 => jdigM y0) h.2, Nat.add_comm 1, List.take_succ_cons, numV] at g4
              have hv : (IntKind.wrap .i64 ((IntKind.wrap .i64 (10 * num)) + (IntKind.wrap .i64 (IntKind.wrap .u8 (((s.getD e.toNat 0).toNat : Int) - 48))))) = 10 * num + (((s.getD e.toNat 0).toNat : Int) - 48) := by
                rw [u8_in _ (by omega), w64 (x := 10 * num) (by omega), w64 (x := ((s.getD e.toNat 0).toNat : Int) - 48) (by omega), w64 (by omega)]
              rw [hv]
              refine ⟨by omega, by omega, fun h3 => ?_, fun h3 => ?_⟩
              · rw [if_t h3] at g4
                rw [g4] at hnum
                exact bad _ 2 _ hz (by rw [hnx, hnum]) (by decide)
              · rw [if_f h3] at g4
                have := of_decide_eq_false h3
                rw [w64 (by omega)]
                exact ihq (e + 1) _ (by omega) (by omega) (by omega) (by omega) (by omega) (by omega) (by rw [g3, show (e + 1).toNat = e.toNat + 1 by omega]; omega) (by rw [g4, show (e + 1).toNat = e.toNat + 1 by omega])
            exact ⟨fun h => ⟨by omega, by have := of_decide_eq_true h; omega, j63⟩, fun _ => j63⟩
        exact ⟨_, inner s.length i 0 (by omega) (by omega) (by omega) (by omega) (by omega) (fun _ => rfl) rfl rfl⟩
      · have hlt : jletM (jpeekS (s, i, o) 0).1 = true := by
          rw [hpk]
          rw [jnb_or, hdg, Bool.or_false] at hnb
          exact hnb
        have hrd : rdP (s, i, o) := ⟨by show s.length ≤ 1000000; omega, h0, h1⟩
        have htk := run_take (x := (s, i, o)) hrd (fun y0 => jnbM y0)
        have hrn := runN_le (fun y0 => jnbM y0) (s.drop i.toNat)
        rw [List.length_drop] at hrn
        have inner : ∀ (q : Nat) (e : Int), (s.length : Int) ≤ e + q → i ≤ e → e ≤ (s.length : Int) →
            i + (runN (fun y0 => jnbM y0) (s.drop i.toNat) : Nat) = e + (runN (fun y0 => jnbM y0) (s.drop e.toNat) : Nat) →
            rtdl92 s (fun r e => (r, e) = jtokS s) i o (rtdl17 s (fun r e => (r, e) = jtokS s) (k + 1)) (q + 1) e := by
          intro q
          have out : ∀ (e : Int) (C : Int → Prop), i ≤ e → e ≤ (s.length : Int) → i + (runN (fun y0 => jnbM y0) (s.drop i.toNat) : Nat) = e + (runN (fun y0 => jnbM y0) (s.drop e.toNat) : Nat) →
              (decide (e < (s.length : Int)) && jnbM ((s.getD e.toNat 0).toNat : Int)) = false →
              rtdj94 s (fun r e => (r, e) = jtokS s) e i o (rtdl17 s (fun r e => (r, e) = jtokS s) (k + 1)) C := by
            intro e C g1 g2 g3 g5
            have hr0 : runN (fun y0 => jnbM y0) (s.drop e.toNat) = 0 := by
              by_cases hel : e < (s.length : Int)
              · rw [decide_eq_true hel, Bool.true_and] at g5
                rw [drop_get (l := s) (k := e.toNat) 0 (by omega), run_nil g5]
              · rw [List.drop_of_length_le (by omega)]; rfl
            have hone : 1 ≤ runN (fun y0 => jnbM y0) (s.drop i.toNat) := by
              rw [hd, run_cons (is := fun y0 => jnbM y0) hnb]; omega
            have ge : i + (runN (fun y0 => jnbM y0) (s.drop i.toNat) : Nat) = e := by rw [g3, hr0]; show e + ((0 : Nat) : Int) = e; omega
            have hW : (s.take e.toNat).drop i.toNat = (jrunS (s, i, o) (fun y0 => jnbM y0)).1 := by
              show _ = (s.take (runE (s, i, o) (fun y0 => jnbM y0)).toNat).drop i.toNat
              rw [show runE (s, i, o) (fun y0 => jnbM y0) = e from ge]
            have hWl : ((s.take e.toNat).drop i.toNat).length = runN (fun y0 => jnbM y0) (s.drop i.toNat) := by
              rw [List.length_drop, List.length_take]; omega
            have hwP : rwordP ((s.take e.toNat).drop i.toNat) := by
              refine ⟨by rw [hWl]; omega, fun c hc => ?_⟩
              rw [hW, htk] at hc
              exact bf4 c (run_all (fun y0 => jnbM y0) _ c hc)
            have hwS : rwordS ((s.take e.toNat).drop i.toNat) = sconM (fieldsS KW) (jrunS (s, i, o) (fun y0 => jnbM y0)).1 := by
              unfold rwordS
              rw [scon_eq, hW]
              have : ((jrunS (s, i, o) (fun y0 => jnbM y0)).1 == []) = false := by
                rw [← hW]
                cases hc : (s.take e.toNat).drop i.toNat with
                | nil => rw [hc] at hWl; simp at hWl; omega
                | cons a b => rfl
              rw [this]; rfl
            have hnx : jnxtS (s, i, o) = ((if rwordS ((s.take e.toNat).drop i.toNat) = true then 5 else 1, 0, 0, (s.take e.toNat).drop i.toNat, 0), 0, (s, e, o)) := by
              unfold jnxtS
              rw [if_t hlt, hwS, hW]
              show (_, (0 : Int), (s, runE (s, i, o) (fun y0 => jnbM y0), o)) = _
              rw [show runE (s, i, o) (fun y0 => jnbM y0) = e from ge]; rfl
            unfold rtdj94
            rw [bf3]
            refine ⟨fun h => (Bool.false_ne_true (g5.symm.trans h)).elim, fun _ => ⟨h0, g1, g2, hwP, fun h => ?_, fun h => ?_⟩⟩
            · exact fin e 5 _ 0 hz (by rw [hnx, if_t h]) (by omega) g2
            · exact fin e 1 _ 0 hz (by rw [hnx, if_f h]) (by omega) g2
          induction q with
          | zero =>
            intro e hq g1 g2 g3
            have hen : decide (e < (s.length : Int)) = false := decide_eq_false (by omega)
            exact ⟨fun h => (Bool.false_ne_true (hen.symm.trans h)).elim, fun _ => out e _ g1 g2 g3 (by rw [hen]; rfl)⟩
          | succ q ihq =>
            intro e hq g1 g2 g3
            have j94 : rtdj94 s (fun r e => (r, e) = jtokS s) e i o (rtdl17 s (fun r e => (r, e) = jtokS s) (k + 1)) (rtdl92 s (fun r e => (r, e) = jtokS s) i o (rtdl17 s (fun r e => (r, e) = jtokS s) (k + 1)) (q + 1)) := by
              cases hb : (decide (e < (s.length : Int)) && jnbM ((s.getD e.toNat 0).toNat : Int))
              · exact out e _ g1 g2 g3 hb
              · unfold rtdj94
                rw [bf3]
                refine ⟨fun _ => ?_, fun h => (Bool.false_ne_true (h.symm.trans hb)).elim⟩
                rw [Bool.and_eq_true] at hb
                have hel := of_decide_eq_true hb.1
                rw [drop_get (l := s) (k := e.toNat) 0 (by omega), run_cons (is := fun y0 => jnbM y0) hb.2] at g3
                rw [w64 (by omega)]
                exact ihq (e + 1) (by omega) (by omega) (by omega) (by rw [g3, show (e + 1).toNat = e.toNat + 1 by omega]; omega)
            exact ⟨fun h => ⟨by omega, by have := of_decide_eq_true h; omega, j94⟩, fun _ => j94⟩
        exact ⟨_, inner s.length i (by omega) (by omega) (by omega) rfl⟩
      · have hlt : jletM (jpeekS (s, i, o) 0).1 = false := by
          rw [hpk]
          rw [jnb_or, Bool.or_eq_false_iff] at hnb
          exact hnb.1
        have hnx : jnxtS (s, i, o) = txN s o (s.length + 1) (i + 1) [] := by
          unfold jnxtS
          rw [if_f hlt, if_f (by rw [hpk]; exact hdg), if_t (by rw [hpk]; exact hq)]; rfl
        have hrd := txN_rd s [] (by omega) (s.length + 1) (i + 1) [] (by omega) (by omega)
        have hadv := txN_adv s [] (by omega) (s.length + 1) (i + 1) [] (by omega) (by omega)
        rw [txN_o] at hnx
        refine ⟨⟨by omega, h0, hi⟩, ?_⟩
        rcases txN_err s [] (s.length + 1) (i + 1) [] with ⟨z, t, ht⟩ | z
        · have hS : rtaS s i = (t, (txN s [] (s.length + 1) (i + 1) []).2.2.2.1) := by
            unfold rtaS rtaR; rw [if_t (by rw [z]; rfl), ht]
          rw [hS]
          have hle : (txN s [] (s.length + 1) (i + 1) []).2.2.2.1 ≤ (s.length : Int) := by have := hrd.1.2.2; rw [hrd.2.1] at this; exact this
          refine ⟨fun h => ?_, fun _ => fin _ 3 t 0 hz (by rw [hnx, ht, z]) (by omega) hle⟩
          have h' := of_decide_eq_true h
          have h'' : (txN s [] (s.length + 1) (i + 1) []).2.2.2.1 < 0 := h'
          omega
        · have hS : rtaS s i = ([], -1) := by
            unfold rtaS rtaR; rw [if_f (by rw [z]; rfl)]
          rw [hS]
          exact ⟨fun _ => bad _ 4 _ hz (by rw [hnx, z]) (by decide), fun h => absurd (of_decide_eq_false h) (by decide)⟩
      · have hlt : jletM (jpeekS (s, i, o) 0).1 = false := by
          rw [hpk]
          rw [jnb_or, Bool.or_eq_false_iff] at hnb
          exact hnb.1
        have hnx : jnxtS (s, i, o) = jsigS (s, i, o) := by
          unfold jnxtS
          rw [if_f hlt, if_f (by rw [hpk]; exact hdg), if_f (by rw [hpk]; exact hq)]
        have hWn : ∀ n : Nat, sgW (s, i, o) (n : Int) = (s.drop i.toNat).take n := fun n => by
          show (s.take (i + (n : Int)).toNat).drop i.toNat = _
          rw [List.drop_take, show (i + (n : Int)).toNat - i.toNat = n by omega]
        have hW2 : sgW (s, i, o) 2 = (s.drop i.toNat).take 2 := hWn 2
        have hW1 : sgW (s, i, o) 1 = (s.drop i.toNat).take 1 := hWn 1
        have hdl : (s.drop i.toNat).length = s.length - i.toNat := List.length_drop ..
        have hT2 : sgT (s, i, o) 2 = (decide (2 ≤ (s.drop i.toNat).length) && SGL.contains ((s.drop i.toNat).take 2)) := by
          unfold sgT
          rw [scon_eq, SG_l, hW2]
          congr 1
          rw [Bool.eq_iff_iff, decide_eq_true_eq, Bool.not_eq_true', decide_eq_false_iff_not, hdl]
          show ¬ (i + 2 > (s.length : Int)) ↔ _
          omega
        have hT1 : sgT (s, i, o) 1 = SGL.contains ((s.drop i.toNat).take 1) := by
          unfold sgT
          rw [scon_eq, SG_l, hW1, decide_eq_false (show ¬ (i + 1 > (s.length : Int)) by omega)]; rfl
        rw [← hd]
        refine ⟨h0, by omega, by omega, by unfold rsaP; omega, ?_⟩
        cases h2 : (decide (2 ≤ (s.drop i.toNat).length) && SGL.contains ((s.drop i.toNat).take 2))
        · cases h3 : SGL.contains ((s.drop i.toNat).take 1)
          · have hS : rsaS (s.drop i.toNat) = [] := by unfold rsaS; rw [if_f h2, if_f h3]
            rw [hS]
            refine ⟨fun _ => bad _ 4 _ hz (by rw [hnx]; unfold jsigS; rw [hT2, h2, if_f rfl, hT1, h3, if_f rfl]) (by decide), fun h => by cases h⟩
          · have hS : rsaS (s.drop i.toNat) = (s.drop i.toNat).take 1 := by unfold rsaS; rw [if_f h2, if_t h3]
            have hl1 : ((s.drop i.toNat).take 1).length = 1 := by rw [List.length_take]; omega
            rw [hS, hl1]
            refine ⟨fun h => ?_, fun _ => ?_⟩
            · rw [beq_iff_eq] at h; rw [h] at hl1; simp at hl1
            · rw [show IntKind.wrap .i64 (i + ((1 : Nat) : Int)) = i + 1 from w1]
              refine fin (i + 1) 4 _ 0 hz ?_ (by omega) (by omega)
              rw [hnx]; unfold jsigS; rw [hT2, h2, if_f rfl, hT1, h3, if_t rfl]; unfold sgR; rw [hW1]
        · have hS : rsaS (s.drop i.toNat) = (s.drop i.toNat).take 2 := by unfold rsaS; rw [if_t h2]
          have hlen2 : 2 ≤ (s.drop i.toNat).length := by rw [Bool.and_eq_true] at h2; exact of_decide_eq_true h2.1
          have hl1 : ((s.drop i.toNat).take 2).length = 2 := by rw [List.length_take]; omega
          rw [hS, hl1]
          refine ⟨fun h => ?_, fun _ => ?_⟩
          · rw [beq_iff_eq] at h; rw [h] at hl1; simp at hl1
          · rw [show IntKind.wrap .i64 (i + ((2 : Nat) : Int)) = i + 2 from w64 (by omega)]
            refine fin (i + 2) 4 _ 0 hz ?_ (by omega) (by omega)
            rw [hnx]; unfold jsigS; rw [hT2, h2, if_t rfl]; unfold sgR; rw [hW2]
  exact ⟨_, loop s.length 0 [] s.length (by omega) (by omega) (by omega) (by omega) (by show (0 : Int) ≤ 0; omega) e0⟩
set_option linter.unusedVariables false in
theorem rtd_c {g : Ghost} (xs : List UInt8) (hG1 : SomeInt g 1)  : CallsH Tryd.prog 6 #[.string ⟨⟨xs⟩⟩] g [] (fun g' H' v => ∃ (ar0_0 : Option Addr) (cr0_0 : Nat), v = .tuple #[.slice ar0_0 ((jtokS xs).1).length cr0_0, .int .i64 ((jtokS xs).2)] ∧ Rep g' (.slice (.pair (.int .i64) (.pair (.int .i64) (.pair (.int .i64) (.pair (.str) (.int .i64)))))) [.slice ar0_0 ((jtokS xs).1).length cr0_0] ((jtokS xs).1) ∧ H' = []) :=
  (rtd_ok xs hG1 _ (rtd_F xs)).mono (by rintro g' H' v _ ⟨r0, r1, ar0_0, cr0_0, rfl, hRr0_0, rfl, hK⟩; obtain ⟨rfl, rfl⟩ : r0 = (jtokS xs).1 ∧ r1 = (jtokS xs).2 := ⟨congrArg (fun z => z.1) hK, congrArg (fun z => z.2) hK⟩; exact ⟨ar0_0, cr0_0, rfl, hRr0_0, rfl⟩)
def rquj16 (xs : List UInt8) (x3l9 : List UInt8) (x8l9 : Int) (C9 : (List UInt8) → Int → Prop) : Prop :=
  C9 (if (((xs.getD (Int.toNat x8l9) 0).toNat : Int) == 10) = true then x3l9 ++ ([92, 110] : List UInt8) else (if (((xs.getD (Int.toNat x8l9) 0).toNat : Int) == 9) = true then x3l9 ++ ([92, 116] : List UInt8) else (if (!(btwM (IntKind.wrap .i64 ((xs.getD (Int.toNat x8l9) 0).toNat : Int)) 32 126)) = true then x3l9 ++ ((([92, 120] : List UInt8) ++ ((([48, 49, 50, 51, 52, 53, 54, 55, 56, 57, 97, 98, 99, 100, 101, 102] : List UInt8).take (Int.toNat (IntKind.wrap .u8 ((IntKind.wrap .u8 (Int.tdiv ((xs.getD (Int.toNat x8l9) 0).toNat : Int) 16)) + 1)))).drop (Int.toNat (IntKind.wrap .u8 (Int.tdiv ((xs.getD (Int.toNat x8l9) 0).toNat : Int) 16))))) ++ ((([48, 49, 50, 51, 52, 53, 54, 55, 56, 57, 97, 98, 99, 100, 101, 102] : List UInt8).take (Int.toNat (IntKind.wrap .u8 ((Int.tmod ((xs.getD (Int.toNat x8l9) 0).toNat : Int) 16) + 1)))).drop (Int.toNat (Int.tmod ((xs.getD (Int.toNat x8l9) 0).toNat : Int) 16)))) else (if ((((xs.getD (Int.toNat x8l9) 0).toNat : Int) == 34) || (((xs.getD (Int.toNat x8l9) 0).toNat : Int) == 92)) = true then x3l9 ++ (([92] : List UInt8) ++ ((xs.take (Int.toNat (IntKind.wrap .i64 (x8l9 + 1)))).drop (Int.toNat x8l9))) else x3l9 ++ ((xs.take (Int.toNat (IntKind.wrap .i64 (x8l9 + 1)))).drop (Int.toNat x8l9)))))) (IntKind.wrap .i64 (x8l9 + 1))
def rqul9b (xs : List UInt8) (K : (List UInt8) → Prop) (x3l9 : List UInt8) (x8l9 : Int) (C9 : (List UInt8) → Int → Prop) : Prop :=
  ((decide (x8l9 < (xs.length : Int))) = true → (0 : Int) ≤ x8l9 ∧ Int.toNat x8l9 < xs.length ∧ (((((xs.getD (Int.toNat x8l9) 0).toNat : Int) == 10)) = true → x3l9.length + ([92, 110] : List UInt8).length ≤ maxLen ∧ rquj16 xs x3l9 x8l9 C9) ∧ (((((xs.getD (Int.toNat x8l9) 0).toNat : Int) == 10)) = false → (((((xs.getD (Int.toNat x8l9) 0).toNat : Int) == 9)) = true → x3l9.length + ([92, 116] : List UInt8).length ≤ maxLen ∧ rquj16 xs x3l9 x8l9 C9) ∧ (((((xs.getD (Int.toNat x8l9) 0).toNat : Int) == 9)) = false → ((!(btwM (IntKind.wrap .i64 ((xs.getD (Int.toNat x8l9) 0).toNat : Int)) 32 126)) = true → (0 : Int) ≤ (IntKind.wrap .u8 (Int.tdiv ((xs.getD (Int.toNat x8l9) 0).toNat : Int) 16)) ∧ ((IntKind.wrap .u8 (Int.tdiv ((xs.getD (Int.toNat x8l9) 0).toNat : Int) 16)) : Int) ≤ (IntKind.wrap .u8 ((IntKind.wrap .u8 (Int.tdiv ((xs.getD (Int.toNat x8l9) 0).toNat : Int) 16)) + 1)) ∧ (IntKind.wrap .u8 ((IntKind.wrap .u8 (Int.tdiv ((xs.getD (Int.toNat x8l9) 0).toNat : Int) 16)) + 1)) ≤ (([48, 49, 50, 51, 52, 53, 54, 55, 56, 57, 97, 98, 99, 100, 101, 102] : List UInt8).length : Int) ∧ ([92, 120] : List UInt8).length + ((([48, 49, 50, 51, 52, 53, 54, 55, 56, 57, 97, 98, 99, 100, 101, 102] : List UInt8).take (Int.toNat (IntKind.wrap .u8 ((IntKind.wrap .u8 (Int.tdiv ((xs.getD (Int.toNat x8l9) 0).toNat : Int) 16)) + 1)))).drop (Int.toNat (IntKind.wrap .u8 (Int.tdiv ((xs.getD (Int.toNat x8l9) 0).toNat : Int) 16)))).length ≤ maxLen ∧ (0 : Int) ≤ (Int.tmod ((xs.getD (Int.toNat x8l9) 0).toNat : Int) 16) ∧ ((Int.tmod ((xs.getD (Int.toNat x8l9) 0).toNat : Int) 16) : Int) ≤ (IntKind.wrap .u8 ((Int.tmod ((xs.getD (Int.toNat x8l9) 0).toNat : Int) 16) + 1)) ∧ (IntKind.wrap .u8 ((Int.tmod ((xs.getD (Int.toNat x8l9) 0).toNat : Int) 16) + 1)) ≤ (([48, 49, 50, 51, 52, 53, 54, 55, 56, 57, 97, 98, 99, 100, 101, 102] : List UInt8).length : Int) ∧ (([92, 120] : List UInt8) ++ ((([48, 49, 50, 51, 52, 53, 54, 55, 56, 57, 97, 98, 99, 100, 101, 102] : List UInt8).take (Int.toNat (IntKind.wrap .u8 ((IntKind.wrap .u8 (Int.tdiv ((xs.getD (Int.toNat x8l9) 0).toNat : Int) 16)) + 1)))).drop (Int.toNat (IntKind.wrap .u8 (Int.tdiv ((xs.getD (Int.toNat x8l9) 0).toNat : Int) 16))))).length + ((([48, 49, 50, 51, 52, 53, 54, 55, 56, 57, 97, 98, 99, 100, 101, 102] : List UInt8).take (Int.toNat (IntKind.wrap .u8 ((Int.tmod ((xs.getD (Int.toNat x8l9) 0).toNat : Int) 16) + 1)))).drop (Int.toNat (Int.tmod ((xs.getD (Int.toNat x8l9) 0).toNat : Int) 16))).length ≤ maxLen ∧ x3l9.length + ((([92, 120] : List UInt8) ++ ((([48, 49, 50, 51, 52, 53, 54, 55, 56, 57, 97, 98, 99, 100, 101, 102] : List UInt8).take (Int.toNat (IntKind.wrap .u8 ((IntKind.wrap .u8 (Int.tdiv ((xs.getD (Int.toNat x8l9) 0).toNat : Int) 16)) + 1)))).drop (Int.toNat (IntKind.wrap .u8 (Int.tdiv ((xs.getD (Int.toNat x8l9) 0).toNat : Int) 16))))) ++ ((([48, 49, 50, 51, 52, 53, 54, 55, 56, 57, 97, 98, 99, 100, 101, 102] : List UInt8).take (Int.toNat (IntKind.wrap .u8 ((Int.tmod ((xs.getD (Int.toNat x8l9) 0).toNat : Int) 16) + 1)))).drop (Int.toNat (Int.tmod ((xs.getD (Int.toNat x8l9) 0).toNat : Int) 16)))).length ≤ maxLen ∧ rquj16 xs x3l9 x8l9 C9) ∧ ((!(btwM (IntKind.wrap .i64 ((xs.getD (Int.toNat x8l9) 0).toNat : Int)) 32 126)) = false → ((((((xs.getD (Int.toNat x8l9) 0).toNat : Int) == 34) || (((xs.getD (Int.toNat x8l9) 0).toNat : Int) == 92))) = true → (0 : Int) ≤ x8l9 ∧ (x8l9 : Int) ≤ (IntKind.wrap .i64 (x8l9 + 1)) ∧ (IntKind.wrap .i64 (x8l9 + 1)) ≤ (xs.length : Int) ∧ ([92] : List UInt8).length + ((xs.take (Int.toNat (IntKind.wrap .i64 (x8l9 + 1)))).drop (Int.toNat x8l9)).length ≤ maxLen ∧ x3l9.length + (([92] : List UInt8) ++ ((xs.take (Int.toNat (IntKind.wrap .i64 (x8l9 + 1)))).drop (Int.toNat x8l9))).length ≤ maxLen ∧ rquj16 xs x3l9 x8l9 C9) ∧ ((((((xs.getD (Int.toNat x8l9) 0).toNat : Int) == 34) || (((xs.getD (Int.toNat x8l9) 0).toNat : Int) == 92))) = false → (0 : Int) ≤ x8l9 ∧ (x8l9 : Int) ≤ (IntKind.wrap .i64 (x8l9 + 1)) ∧ (IntKind.wrap .i64 (x8l9 + 1)) ≤ (xs.length : Int) ∧ x3l9.length + ((xs.take (Int.toNat (IntKind.wrap .i64 (x8l9 + 1)))).drop (Int.toNat x8l9)).length ≤ maxLen ∧ rquj16 xs x3l9 x8l9 C9))))) ∧ ((decide (x8l9 < (xs.length : Int))) = false → x3l9.length + ([34] : List UInt8).length ≤ maxLen ∧ K (x3l9 ++ ([34] : List UInt8)))
def rqul9 (xs : List UInt8) (K : (List UInt8) → Prop) : Nat → (List UInt8) → Int → Prop
  | 0, _, _ => False
  | k + 1, x3l9, x8l9 => rqul9b xs K x3l9 x8l9 (rqul9 xs K k)
def rquF (xs : List UInt8) (K : (List UInt8) → Prop) : Prop :=
  ∃ k, rqul9 xs K k ([34] : List UInt8) 0
set_option maxHeartbeats 4000000 in
set_option maxRecDepth 100000 in
set_option linter.unusedVariables false in
theorem rqu_ok {g : Ghost} (xs : List UInt8) (K : (List UInt8) → Prop)
    (hF : rquF xs K) : CallsH Tryd.prog 9 #[.string ⟨⟨xs⟩⟩] g [] (fun g' H' v => ∃ (r0 : List UInt8), v = .string ⟨⟨r0⟩⟩ ∧ H' = [] ∧ K r0) := by
  refine CallsH.enter 70 [(0, .string ⟨⟨xs⟩⟩)] Tryd.func9 rfl (by kernel_rfl) (by kernel_rfl) (by kernel_rfl) fun w0 => ?_
  refine Ok.seq ?_
  refine Ok.region ?_
  refine Ok.batch 1 [(0, .string ⟨⟨xs⟩⟩)] (by kernel_rfl) ?_
  refine Ok.nil ?_
  refine Ok.thenN ?_
  refine Ok.seq ?_
  refine Ok.region ?_
  refine Ok.batch 1 [(0, .string ⟨⟨xs⟩⟩), (3, .string ⟨⟨([34] : List UInt8)⟩⟩)] (by kernel_rfl) ?_
  refine Ok.nil ?_
  refine Ok.thenN ?_
  refine Ok.seq ?_
  refine Ok.seq ?_
  refine Ok.region ?_
  refine Ok.batch 3 [(0, .string ⟨⟨xs⟩⟩), (3, .string ⟨⟨([34] : List UInt8)⟩⟩), (7, .int .i64 (xs.length : Int)), (8, .int .i64 0)] (by kernel_rfl) ?_
  refine Ok.nil ?_
  refine Ok.thenN ?_
  refine Ok.block ?_
  obtain ⟨k, hF⟩ := hF
  refine Ok.loop (fun k a W => ∃ gl9 : Ghost, Gext w0 g gl9 ∧ ∃ (x3l9 : List UInt8) (x8l9 : Int), StA 70 [(0, .string ⟨⟨xs⟩⟩), (3, .string ⟨⟨x3l9⟩⟩), (7, .int .i64 (xs.length : Int)), (8, .int .i64 x8l9)] a ∧ StW w0 [] gl9 W ∧ rqul9 xs K k x3l9 x8l9) k ?_ ?_
  ·
    exact fun a W hA hW => ⟨g, (Gext.refl w0 g), ([34] : List UInt8), 0, hA.sub (by kernel_rfl), hW, hF⟩
  ·
    clear hF
    rintro k9 a W ⟨gl9, hxl9, x3l9, x8l9, hA, hW, hF⟩
    cases k9 with
    | zero => exact (hF : False).elim
    | succ k9 =>
      refine (?_ : Ok _ _ _ _ _ _) a W hA hW
      clear hA hW
      refine Ok.seq ?_
      refine Ok.region ?_
      refine Ok.batch 1 [(0, .string ⟨⟨xs⟩⟩), (3, .string ⟨⟨x3l9⟩⟩), (7, .int .i64 (xs.length : Int)), (8, .int .i64 x8l9), (9, .bool (decide (x8l9 < (xs.length : Int))))] (by kernel_rfl) ?_
      refine Ok.nil ?_
      refine Ok.thenN ?_
      refine Ok.seq ?_
      refine Ok.cond (b := decide (x8l9 < (xs.length : Int))) rfl (fun hc1 => ?_) (fun hc1 => ?_)
      · replace hF := hF.1 hc1
        refine Ok.skip ?_
        refine Ok.thenN ?_
        refine Ok.cut (fun a W => ∃ gj16 : Ghost, Gext w0 gl9 gj16 ∧ StA 70 [(0, .string ⟨⟨xs⟩⟩), (3, .string ⟨⟨(if (((xs.getD (Int.toNat x8l9) 0).toNat : Int) == 10) = true then x3l9 ++ ([92, 110] : List UInt8) else (if (((xs.getD (Int.toNat x8l9) 0).toNat : Int) == 9) = true then x3l9 ++ ([92, 116] : List UInt8) else (if (!(btwM (IntKind.wrap .i64 ((xs.getD (Int.toNat x8l9) 0).toNat : Int)) 32 126)) = true then x3l9 ++ ((([92, 120] : List UInt8) ++ ((([48, 49, 50, 51, 52, 53, 54, 55, 56, 57, 97, 98, 99, 100, 101, 102] : List UInt8).take (Int.toNat (IntKind.wrap .u8 ((IntKind.wrap .u8 (Int.tdiv ((xs.getD (Int.toNat x8l9) 0).toNat : Int) 16)) + 1)))).drop (Int.toNat (IntKind.wrap .u8 (Int.tdiv ((xs.getD (Int.toNat x8l9) 0).toNat : Int) 16))))) ++ ((([48, 49, 50, 51, 52, 53, 54, 55, 56, 57, 97, 98, 99, 100, 101, 102] : List UInt8).take (Int.toNat (IntKind.wrap .u8 ((Int.tmod ((xs.getD (Int.toNat x8l9) 0).toNat : Int) 16) + 1)))).drop (Int.toNat (Int.tmod ((xs.getD (Int.toNat x8l9) 0).toNat : Int) 16)))) else (if ((((xs.getD (Int.toNat x8l9) 0).toNat : Int) == 34) || (((xs.getD (Int.toNat x8l9) 0).toNat : Int) == 92)) = true then x3l9 ++ (([92] : List UInt8) ++ ((xs.take (Int.toNat (IntKind.wrap .i64 (x8l9 + 1)))).drop (Int.toNat x8l9))) else x3l9 ++ ((xs.take (Int.toNat (IntKind.wrap .i64 (x8l9 + 1)))).drop (Int.toNat x8l9))))))⟩⟩), (7, .int .i64 (xs.length : Int)), (8, .int .i64 x8l9)] a ∧ StW w0 [] gj16 W ∧ rquj16 xs x3l9 x8l9 (rqul9 xs K k9)) ?_ ?_
        ·
          refine Ok.block ?_
          refine Ok.seq ?_
          refine Ok.region ?_
          refine Ok.batch 2 [(0, .string ⟨⟨xs⟩⟩), (3, .string ⟨⟨x3l9⟩⟩), (4, .int .i64 x8l9), (7, .int .i64 (xs.length : Int)), (8, .int .i64 x8l9)] (by kernel_rfl) ?_
          refine Ok.nil ?_
          refine Ok.thenN ?_
          refine Ok.seq ?_
          refine Ok.region ?_
          refine Ok.batch 2 [(0, .string ⟨⟨xs⟩⟩), (3, .string ⟨⟨x3l9⟩⟩), (4, .int .i64 x8l9), (7, .int .i64 (xs.length : Int)), (8, .int .i64 x8l9), (11, .string ⟨⟨xs⟩⟩), (12, .int .i64 x8l9)] (by kernel_rfl) ?_
          obtain ⟨h02, h12, hF⟩ := hF
          have he2 := get_of (l := xs) (0 : UInt8) h12
          generalize hg2 : (xs.getD (Int.toNat x8l9) 0) = e2 at he2 hF ⊢
          refine Ok.op rfl (OpOk.step (v := .int .u8 (e2.toNat : Int)) (Yields.indexStr (k := .i64) (i := x8l9) (s := xs) (b := e2) (by kernel_rfl) (by kernel_rfl) Tryd.underlying9 h02 he2) rfl rfl ?_)
          refine Ok.batch 1 [(0, .string ⟨⟨xs⟩⟩), (3, .string ⟨⟨x3l9⟩⟩), (4, .int .i64 x8l9), (5, .int .u8 (e2.toNat : Int)), (7, .int .i64 (xs.length : Int)), (8, .int .i64 x8l9)] (by kernel_rfl) ?_
          refine Ok.nil ?_
          refine Ok.thenN ?_
          refine Ok.block ?_
          refine Ok.seq ?_
          refine Ok.region ?_
          refine Ok.batch 3 [(0, .string ⟨⟨xs⟩⟩), (3, .string ⟨⟨x3l9⟩⟩), (4, .int .i64 x8l9), (5, .int .u8 (e2.toNat : Int)), (7, .int .i64 (xs.length : Int)), (8, .int .i64 x8l9), (21, .bool ((e2.toNat : Int) == 10))] (by kernel_rfl) ?_
          refine Ok.nil ?_
          refine Ok.thenN ?_
          refine Ok.cond (b := ((e2.toNat : Int) == 10)) rfl (fun hc3 => ?_) (fun hc3 => ?_)
          · replace hF := hF.1 hc3
            refine Ok.region ?_
            refine Ok.batch 1 [(0, .string ⟨⟨xs⟩⟩), (7, .int .i64 (xs.length : Int)), (8, .int .i64 x8l9), (24, .string ⟨⟨x3l9⟩⟩)] (by kernel_rfl) ?_
            obtain ⟨hv, hF⟩ := hF
            refine Ok.op rfl (OpOk.step (v := .string ⟨⟨x3l9 ++ ([92, 110] : List UInt8)⟩⟩) (Yields.strAdd rfl rfl hv) rfl rfl ?_)
            refine Ok.batch 1 [(0, .string ⟨⟨xs⟩⟩), (3, .string ⟨⟨x3l9 ++ ([92, 110] : List UInt8)⟩⟩), (7, .int .i64 (xs.length : Int)), (8, .int .i64 x8l9)] (by kernel_rfl) ?_
            refine Ok.nil ?_
            refine Ok.blockN ?_
            refine Ok.blockN ?_
            refine Ok.thenN ?_
            subst hg2
            refine Ok.reval 3 rfl (show (.string ⟨⟨x3l9 ++ ([92, 110] : List UInt8)⟩⟩ : Value) = .string ⟨⟨(if (((xs.getD (Int.toNat x8l9) 0).toNat : Int) == 10) = true then x3l9 ++ ([92, 110] : List UInt8) else (if (((xs.getD (Int.toNat x8l9) 0).toNat : Int) == 9) = true then x3l9 ++ ([92, 116] : List UInt8) else (if (!(btwM (IntKind.wrap .i64 ((xs.getD (Int.toNat x8l9) 0).toNat : Int)) 32 126)) = true then x3l9 ++ ((([92, 120] : List UInt8) ++ ((([48, 49, 50, 51, 52, 53, 54, 55, 56, 57, 97, 98, 99, 100, 101, 102] : List UInt8).take (Int.toNat (IntKind.wrap .u8 ((IntKind.wrap .u8 (Int.tdiv ((xs.getD (Int.toNat x8l9) 0).toNat : Int) 16)) + 1)))).drop (Int.toNat (IntKind.wrap .u8 (Int.tdiv ((xs.getD (Int.toNat x8l9) 0).toNat : Int) 16))))) ++ ((([48, 49, 50, 51, 52, 53, 54, 55, 56, 57, 97, 98, 99, 100, 101, 102] : List UInt8).take (Int.toNat (IntKind.wrap .u8 ((Int.tmod ((xs.getD (Int.toNat x8l9) 0).toNat : Int) 16) + 1)))).drop (Int.toNat (Int.tmod ((xs.getD (Int.toNat x8l9) 0).toNat : Int) 16)))) else (if ((((xs.getD (Int.toNat x8l9) 0).toNat : Int) == 34) || (((xs.getD (Int.toNat x8l9) 0).toNat : Int) == 92)) = true then x3l9 ++ (([92] : List UInt8) ++ ((xs.take (Int.toNat (IntKind.wrap .i64 (x8l9 + 1)))).drop (Int.toNat x8l9))) else x3l9 ++ ((xs.take (Int.toNat (IntKind.wrap .i64 (x8l9 + 1)))).drop (Int.toNat x8l9))))))⟩⟩ from congrArg ((fun s : List UInt8 => Value.string ⟨⟨s⟩⟩)) ((if_t hc3).symm)) ?_
            exact fun a W hA hW => ⟨gl9, (Gext.refl w0 gl9), hA.sub (by kernel_rfl), hW, hF⟩
          · replace hF := hF.2 hc3
            refine Ok.seq ?_
            refine Ok.region ?_
            refine Ok.batch 3 [(0, .string ⟨⟨xs⟩⟩), (3, .string ⟨⟨x3l9⟩⟩), (4, .int .i64 x8l9), (5, .int .u8 (e2.toNat : Int)), (7, .int .i64 (xs.length : Int)), (8, .int .i64 x8l9), (26, .bool ((e2.toNat : Int) == 9))] (by kernel_rfl) ?_
            refine Ok.nil ?_
            refine Ok.thenN ?_
            refine Ok.cond (b := ((e2.toNat : Int) == 9)) rfl (fun hc4 => ?_) (fun hc4 => ?_)
            · replace hF := hF.1 hc4
              refine Ok.region ?_
              refine Ok.batch 1 [(0, .string ⟨⟨xs⟩⟩), (7, .int .i64 (xs.length : Int)), (8, .int .i64 x8l9), (29, .string ⟨⟨x3l9⟩⟩)] (by kernel_rfl) ?_
              obtain ⟨hv, hF⟩ := hF
              refine Ok.op rfl (OpOk.step (v := .string ⟨⟨x3l9 ++ ([92, 116] : List UInt8)⟩⟩) (Yields.strAdd rfl rfl hv) rfl rfl ?_)
              refine Ok.batch 1 [(0, .string ⟨⟨xs⟩⟩), (3, .string ⟨⟨x3l9 ++ ([92, 116] : List UInt8)⟩⟩), (7, .int .i64 (xs.length : Int)), (8, .int .i64 x8l9)] (by kernel_rfl) ?_
              refine Ok.nil ?_
              refine Ok.blockN ?_
              refine Ok.blockN ?_
              refine Ok.thenN ?_
              subst hg2
              refine Ok.reval 3 rfl (show (.string ⟨⟨x3l9 ++ ([92, 116] : List UInt8)⟩⟩ : Value) = .string ⟨⟨(if (((xs.getD (Int.toNat x8l9) 0).toNat : Int) == 10) = true then x3l9 ++ ([92, 110] : List UInt8) else (if (((xs.getD (Int.toNat x8l9) 0).toNat : Int) == 9) = true then x3l9 ++ ([92, 116] : List UInt8) else (if (!(btwM (IntKind.wrap .i64 ((xs.getD (Int.toNat x8l9) 0).toNat : Int)) 32 126)) = true then x3l9 ++ ((([92, 120] : List UInt8) ++ ((([48, 49, 50, 51, 52, 53, 54, 55, 56, 57, 97, 98, 99, 100, 101, 102] : List UInt8).take (Int.toNat (IntKind.wrap .u8 ((IntKind.wrap .u8 (Int.tdiv ((xs.getD (Int.toNat x8l9) 0).toNat : Int) 16)) + 1)))).drop (Int.toNat (IntKind.wrap .u8 (Int.tdiv ((xs.getD (Int.toNat x8l9) 0).toNat : Int) 16))))) ++ ((([48, 49, 50, 51, 52, 53, 54, 55, 56, 57, 97, 98, 99, 100, 101, 102] : List UInt8).take (Int.toNat (IntKind.wrap .u8 ((Int.tmod ((xs.getD (Int.toNat x8l9) 0).toNat : Int) 16) + 1)))).drop (Int.toNat (Int.tmod ((xs.getD (Int.toNat x8l9) 0).toNat : Int) 16)))) else (if ((((xs.getD (Int.toNat x8l9) 0).toNat : Int) == 34) || (((xs.getD (Int.toNat x8l9) 0).toNat : Int) == 92)) = true then x3l9 ++ (([92] : List UInt8) ++ ((xs.take (Int.toNat (IntKind.wrap .i64 (x8l9 + 1)))).drop (Int.toNat x8l9))) else x3l9 ++ ((xs.take (Int.toNat (IntKind.wrap .i64 (x8l9 + 1)))).drop (Int.toNat x8l9))))))⟩⟩ from congrArg ((fun s : List UInt8 => Value.string ⟨⟨s⟩⟩)) ((Eq.trans ((if_t hc4).symm) ((if_f hc3).symm)))) ?_
              exact fun a W hA hW => ⟨gl9, (Gext.refl w0 gl9), hA.sub (by kernel_rfl), hW, hF⟩
            · replace hF := hF.2 hc4
              refine Ok.seq ?_
              refine Ok.region ?_
              refine Ok.batch 2 [(0, .string ⟨⟨xs⟩⟩), (3, .string ⟨⟨x3l9⟩⟩), (4, .int .i64 x8l9), (5, .int .u8 (e2.toNat : Int)), (7, .int .i64 (xs.length : Int)), (8, .int .i64 x8l9), (33, .int .i64 (IntKind.wrap .i64 (e2.toNat : Int)))] (by kernel_rfl) ?_
              refine Ok.op rfl (OpOk.callG (v := .bool (btwM (IntKind.wrap .i64 (e2.toNat : Int)) 32 126)) (enters (by kernel_rfl) (fun _ => by kernel_rfl)) (fun W hW => btw_c (IntKind.wrap .i64 (e2.toNat : Int)) 32 126) rfl ?_)
              refine Ok.batch 2 [(0, .string ⟨⟨xs⟩⟩), (3, .string ⟨⟨x3l9⟩⟩), (4, .int .i64 x8l9), (5, .int .u8 (e2.toNat : Int)), (7, .int .i64 (xs.length : Int)), (8, .int .i64 x8l9), (31, .bool (!(btwM (IntKind.wrap .i64 (e2.toNat : Int)) 32 126)))] (by kernel_rfl) ?_
              refine Ok.nil ?_
              refine Ok.thenN ?_
              refine Ok.cond (b := !(btwM (IntKind.wrap .i64 (e2.toNat : Int)) 32 126)) rfl (fun hc5 => ?_) (fun hc5 => ?_)
              · replace hF := hF.1 hc5
                refine Ok.quiet' (by kernel_rfl) (by kernel_rfl) ?_
                refine OkQ.batch 6 [(0, .string ⟨⟨xs⟩⟩), (5, .int .u8 (e2.toNat : Int)), (7, .int .i64 (xs.length : Int)), (8, .int .i64 x8l9), (36, .string ⟨⟨x3l9⟩⟩), (38, .int .u8 (IntKind.wrap .u8 (Int.tdiv (e2.toNat : Int) 16))), (41, .int .u8 (IntKind.wrap .u8 ((IntKind.wrap .u8 (Int.tdiv (e2.toNat : Int) 16)) + 1)))] (by kernel_rfl) ?_
                obtain ⟨h06, h16, h26, hF⟩ := hF
                refine OkQ.op rfl (OpQ.step (v := .string ⟨⟨(([48, 49, 50, 51, 52, 53, 54, 55, 56, 57, 97, 98, 99, 100, 101, 102] : List UInt8).take (Int.toNat (IntKind.wrap .u8 ((IntKind.wrap .u8 (Int.tdiv (e2.toNat : Int) 16)) + 1)))).drop (Int.toNat (IntKind.wrap .u8 (Int.tdiv (e2.toNat : Int) 16)))⟩⟩) (Yields.sliceStr (s := ([48, 49, 50, 51, 52, 53, 54, 55, 56, 57, 97, 98, 99, 100, 101, 102] : List UInt8)) (l := (IntKind.wrap .u8 (Int.tdiv (e2.toNat : Int) 16))) (h := (IntKind.wrap .u8 ((IntKind.wrap .u8 (Int.tdiv (e2.toNat : Int) 16)) + 1))) (by kernel_rfl) Tryd.underlying9 (.inl ⟨_, _, rfl, rfl⟩) (.inl ⟨_, _, rfl, rfl⟩) h06 h16 h26 ((([48, 49, 50, 51, 52, 53, 54, 55, 56, 57, 97, 98, 99, 100, 101, 102] : List UInt8).take (Int.toNat (IntKind.wrap .u8 ((IntKind.wrap .u8 (Int.tdiv (e2.toNat : Int) 16)) + 1)))).drop (Int.toNat (IntKind.wrap .u8 (Int.tdiv (e2.toNat : Int) 16)))) rfl) rfl rfl ?_)
                obtain ⟨hv, hF⟩ := hF
                refine OkQ.op rfl (OpQ.step (v := .string ⟨⟨([92, 120] : List UInt8) ++ ((([48, 49, 50, 51, 52, 53, 54, 55, 56, 57, 97, 98, 99, 100, 101, 102] : List UInt8).take (Int.toNat (IntKind.wrap .u8 ((IntKind.wrap .u8 (Int.tdiv (e2.toNat : Int) 16)) + 1)))).drop (Int.toNat (IntKind.wrap .u8 (Int.tdiv (e2.toNat : Int) 16))))⟩⟩) (Yields.strAdd rfl rfl hv) rfl rfl ?_)
                refine OkQ.batch 5 [(0, .string ⟨⟨xs⟩⟩), (7, .int .i64 (xs.length : Int)), (8, .int .i64 x8l9), (36, .string ⟨⟨x3l9⟩⟩), (43, .string ⟨⟨([92, 120] : List UInt8) ++ ((([48, 49, 50, 51, 52, 53, 54, 55, 56, 57, 97, 98, 99, 100, 101, 102] : List UInt8).take (Int.toNat (IntKind.wrap .u8 ((IntKind.wrap .u8 (Int.tdiv (e2.toNat : Int) 16)) + 1)))).drop (Int.toNat (IntKind.wrap .u8 (Int.tdiv (e2.toNat : Int) 16))))⟩⟩), (45, .int .u8 (Int.tmod (e2.toNat : Int) 16)), (48, .int .u8 (IntKind.wrap .u8 ((Int.tmod (e2.toNat : Int) 16) + 1)))] (by kernel_rfl) ?_
                obtain ⟨h07, h17, h27, hF⟩ := hF
                refine OkQ.op rfl (OpQ.step (v := .string ⟨⟨(([48, 49, 50, 51, 52, 53, 54, 55, 56, 57, 97, 98, 99, 100, 101, 102] : List UInt8).take (Int.toNat (IntKind.wrap .u8 ((Int.tmod (e2.toNat : Int) 16) + 1)))).drop (Int.toNat (Int.tmod (e2.toNat : Int) 16))⟩⟩) (Yields.sliceStr (s := ([48, 49, 50, 51, 52, 53, 54, 55, 56, 57, 97, 98, 99, 100, 101, 102] : List UInt8)) (l := (Int.tmod (e2.toNat : Int) 16)) (h := (IntKind.wrap .u8 ((Int.tmod (e2.toNat : Int) 16) + 1))) (by kernel_rfl) Tryd.underlying9 (.inl ⟨_, _, rfl, rfl⟩) (.inl ⟨_, _, rfl, rfl⟩) h07 h17 h27 ((([48, 49, 50, 51, 52, 53, 54, 55, 56, 57, 97, 98, 99, 100, 101, 102] : List UInt8).take (Int.toNat (IntKind.wrap .u8 ((Int.tmod (e2.toNat : Int) 16) + 1)))).drop (Int.toNat (Int.tmod (e2.toNat : Int) 16))) rfl) rfl rfl ?_)
                obtain ⟨hv, hF⟩ := hF
                refine OkQ.op rfl (OpQ.step (v := .string ⟨⟨(([92, 120] : List UInt8) ++ ((([48, 49, 50, 51, 52, 53, 54, 55, 56, 57, 97, 98, 99, 100, 101, 102] : List UInt8).take (Int.toNat (IntKind.wrap .u8 ((IntKind.wrap .u8 (Int.tdiv (e2.toNat : Int) 16)) + 1)))).drop (Int.toNat (IntKind.wrap .u8 (Int.tdiv (e2.toNat : Int) 16))))) ++ ((([48, 49, 50, 51, 52, 53, 54, 55, 56, 57, 97, 98, 99, 100, 101, 102] : List UInt8).take (Int.toNat (IntKind.wrap .u8 ((Int.tmod (e2.toNat : Int) 16) + 1)))).drop (Int.toNat (Int.tmod (e2.toNat : Int) 16)))⟩⟩) (Yields.strAdd rfl rfl hv) rfl rfl ?_)
                obtain ⟨hv, hF⟩ := hF
                refine OkQ.op rfl (OpQ.step (v := .string ⟨⟨x3l9 ++ ((([92, 120] : List UInt8) ++ ((([48, 49, 50, 51, 52, 53, 54, 55, 56, 57, 97, 98, 99, 100, 101, 102] : List UInt8).take (Int.toNat (IntKind.wrap .u8 ((IntKind.wrap .u8 (Int.tdiv (e2.toNat : Int) 16)) + 1)))).drop (Int.toNat (IntKind.wrap .u8 (Int.tdiv (e2.toNat : Int) 16))))) ++ ((([48, 49, 50, 51, 52, 53, 54, 55, 56, 57, 97, 98, 99, 100, 101, 102] : List UInt8).take (Int.toNat (IntKind.wrap .u8 ((Int.tmod (e2.toNat : Int) 16) + 1)))).drop (Int.toNat (Int.tmod (e2.toNat : Int) 16))))⟩⟩) (Yields.strAdd rfl rfl hv) rfl rfl ?_)
                refine OkQ.batch 1 [(0, .string ⟨⟨xs⟩⟩), (3, .string ⟨⟨x3l9 ++ ((([92, 120] : List UInt8) ++ ((([48, 49, 50, 51, 52, 53, 54, 55, 56, 57, 97, 98, 99, 100, 101, 102] : List UInt8).take (Int.toNat (IntKind.wrap .u8 ((IntKind.wrap .u8 (Int.tdiv (e2.toNat : Int) 16)) + 1)))).drop (Int.toNat (IntKind.wrap .u8 (Int.tdiv (e2.toNat : Int) 16))))) ++ ((([48, 49, 50, 51, 52, 53, 54, 55, 56, 57, 97, 98, 99, 100, 101, 102] : List UInt8).take (Int.toNat (IntKind.wrap .u8 ((Int.tmod (e2.toNat : Int) 16) + 1)))).drop (Int.toNat (Int.tmod (e2.toNat : Int) 16))))⟩⟩), (7, .int .i64 (xs.length : Int)), (8, .int .i64 x8l9)] (by kernel_rfl) ?_
                refine OkQ.nil ?_
                refine Ok.blockN ?_
                refine Ok.blockN ?_
                refine Ok.thenN ?_
                subst hg2
                refine Ok.reval 3 rfl (show (.string ⟨⟨x3l9 ++ ((([92, 120] : List UInt8) ++ ((([48, 49, 50, 51, 52, 53, 54, 55, 56, 57, 97, 98, 99, 100, 101, 102] : List UInt8).take (Int.toNat (IntKind.wrap .u8 ((IntKind.wrap .u8 (Int.tdiv ((xs.getD (Int.toNat x8l9) 0).toNat : Int) 16)) + 1)))).drop (Int.toNat (IntKind.wrap .u8 (Int.tdiv ((xs.getD (Int.toNat x8l9) 0).toNat : Int) 16))))) ++ ((([48, 49, 50, 51, 52, 53, 54, 55, 56, 57, 97, 98, 99, 100, 101, 102] : List UInt8).take (Int.toNat (IntKind.wrap .u8 ((Int.tmod ((xs.getD (Int.toNat x8l9) 0).toNat : Int) 16) + 1)))).drop (Int.toNat (Int.tmod ((xs.getD (Int.toNat x8l9) 0).toNat : Int) 16))))⟩⟩ : Value) = .string ⟨⟨(if (((xs.getD (Int.toNat x8l9) 0).toNat : Int) == 10) = true then x3l9 ++ ([92, 110] : List UInt8) else (if (((xs.getD (Int.toNat x8l9) 0).toNat : Int) == 9) = true then x3l9 ++ ([92, 116] : List UInt8) else (if (!(btwM (IntKind.wrap .i64 ((xs.getD (Int.toNat x8l9) 0).toNat : Int)) 32 126)) = true then x3l9 ++ ((([92, 120] : List UInt8) ++ ((([48, 49, 50, 51, 52, 53, 54, 55, 56, 57, 97, 98, 99, 100, 101, 102] : List UInt8).take (Int.toNat (IntKind.wrap .u8 ((IntKind.wrap .u8 (Int.tdiv ((xs.getD (Int.toNat x8l9) 0).toNat : Int) 16)) + 1)))).drop (Int.toNat (IntKind.wrap .u8 (Int.tdiv ((xs.getD (Int.toNat x8l9) 0).toNat : Int) 16))))) ++ ((([48, 49, 50, 51, 52, 53, 54, 55, 56, 57, 97, 98, 99, 100, 101, 102] : List UInt8).take (Int.toNat (IntKind.wrap .u8 ((Int.tmod ((xs.getD (Int.toNat x8l9) 0).toNat : Int) 16) + 1)))).drop (Int.toNat (Int.tmod ((xs.getD (Int.toNat x8l9) 0).toNat : Int) 16)))) else (if ((((xs.getD (Int.toNat x8l9) 0).toNat : Int) == 34) || (((xs.getD (Int.toNat x8l9) 0).toNat : Int) == 92)) = true then x3l9 ++ (([92] : List UInt8) ++ ((xs.take (Int.toNat (IntKind.wrap .i64 (x8l9 + 1)))).drop (Int.toNat x8l9))) else x3l9 ++ ((xs.take (Int.toNat (IntKind.wrap .i64 (x8l9 + 1)))).drop (Int.toNat x8l9))))))⟩⟩ from congrArg ((fun s : List UInt8 => Value.string ⟨⟨s⟩⟩)) ((Eq.trans ((Eq.trans ((if_t hc5).symm) ((if_f hc4).symm))) ((if_f hc3).symm)))) ?_
                exact fun a W hA hW => ⟨gl9, (Gext.refl w0 gl9), hA.sub (by kernel_rfl), hW, hF⟩
              · replace hF := hF.2 hc5
                refine Ok.seq ?_
                refine Ok.region ?_
                refine Ok.batch 3 [(0, .string ⟨⟨xs⟩⟩), (3, .string ⟨⟨x3l9⟩⟩), (4, .int .i64 x8l9), (5, .int .u8 (e2.toNat : Int)), (7, .int .i64 (xs.length : Int)), (8, .int .i64 x8l9), (55, .bool ((e2.toNat : Int) == 34))] (by kernel_rfl) ?_
                refine Ok.midway 3 [(0, .string ⟨⟨xs⟩⟩), (3, .string ⟨⟨x3l9⟩⟩), (4, .int .i64 x8l9), (7, .int .i64 (xs.length : Int)), (8, .int .i64 x8l9), (58, .bool (((e2.toNat : Int) == 34) || ((e2.toNat : Int) == 92)))] (fun hR8 => ?_) ?_
                · refine Ok.boolAt 55 (((e2.toNat : Int) == 34)) rfl (fun hc9 => ?_) (fun hc9 => ?_)
                  · skip
                    refine Ok.batch 3 [(0, .string ⟨⟨xs⟩⟩), (3, .string ⟨⟨x3l9⟩⟩), (4, .int .i64 x8l9), (7, .int .i64 (xs.length : Int)), (8, .int .i64 x8l9), (58, .bool true)] (by kernel_rfl) ?_
                    refine Ok.reval 58 rfl (show (.bool true : Value) = .bool (((e2.toNat : Int) == 34) || ((e2.toNat : Int) == 92)) from congrArg Value.bool (mor_t hc9)) ?_
                    refine Ok.batch 0 [(0, .string ⟨⟨xs⟩⟩), (3, .string ⟨⟨x3l9⟩⟩), (4, .int .i64 x8l9), (7, .int .i64 (xs.length : Int)), (8, .int .i64 x8l9), (58, .bool (((e2.toNat : Int) == 34) || ((e2.toNat : Int) == 92)))] (by kernel_rfl) ?_
                    exact hR8
                  · skip
                    refine Ok.batch 3 [(0, .string ⟨⟨xs⟩⟩), (3, .string ⟨⟨x3l9⟩⟩), (4, .int .i64 x8l9), (7, .int .i64 (xs.length : Int)), (8, .int .i64 x8l9), (58, .bool ((e2.toNat : Int) == 92))] (by kernel_rfl) ?_
                    refine Ok.reval 58 rfl (show (.bool ((e2.toNat : Int) == 92) : Value) = .bool (((e2.toNat : Int) == 34) || ((e2.toNat : Int) == 92)) from congrArg Value.bool (mor_f hc9)) ?_
                    refine Ok.batch 0 [(0, .string ⟨⟨xs⟩⟩), (3, .string ⟨⟨x3l9⟩⟩), (4, .int .i64 x8l9), (7, .int .i64 (xs.length : Int)), (8, .int .i64 x8l9), (58, .bool (((e2.toNat : Int) == 34) || ((e2.toNat : Int) == 92)))] (by kernel_rfl) ?_
                    exact hR8
                refine Ok.batch 1 [(0, .string ⟨⟨xs⟩⟩), (3, .string ⟨⟨x3l9⟩⟩), (4, .int .i64 x8l9), (7, .int .i64 (xs.length : Int)), (8, .int .i64 x8l9), (52, .bool (((e2.toNat : Int) == 34) || ((e2.toNat : Int) == 92)))] (by kernel_rfl) ?_
                refine Ok.nil ?_
                refine Ok.thenN ?_
                refine Ok.cond (b := (((e2.toNat : Int) == 34) || ((e2.toNat : Int) == 92))) rfl (fun hc10 => ?_) (fun hc10 => ?_)
                · replace hF := hF.1 hc10
                  refine Ok.region ?_
                  refine Ok.batch 5 [(0, .string ⟨⟨xs⟩⟩), (7, .int .i64 (xs.length : Int)), (8, .int .i64 x8l9), (59, .string ⟨⟨x3l9⟩⟩), (60, .string ⟨⟨xs⟩⟩), (61, .int .i64 x8l9), (63, .int .i64 (IntKind.wrap .i64 (x8l9 + 1)))] (by kernel_rfl) ?_
                  obtain ⟨h011, h111, h211, hF⟩ := hF
                  refine Ok.op rfl (OpOk.step (v := .string ⟨⟨(xs.take (Int.toNat (IntKind.wrap .i64 (x8l9 + 1)))).drop (Int.toNat x8l9)⟩⟩) (Yields.sliceStr (s := xs) (l := x8l9) (h := (IntKind.wrap .i64 (x8l9 + 1))) (by kernel_rfl) Tryd.underlying9 (.inl ⟨_, _, rfl, rfl⟩) (.inl ⟨_, _, rfl, rfl⟩) h011 h111 h211 ((xs.take (Int.toNat (IntKind.wrap .i64 (x8l9 + 1)))).drop (Int.toNat x8l9)) rfl) rfl rfl ?_)
                  obtain ⟨hv, hF⟩ := hF
                  refine Ok.op rfl (OpOk.step (v := .string ⟨⟨([92] : List UInt8) ++ ((xs.take (Int.toNat (IntKind.wrap .i64 (x8l9 + 1)))).drop (Int.toNat x8l9))⟩⟩) (Yields.strAdd rfl rfl hv) rfl rfl ?_)
                  obtain ⟨hv, hF⟩ := hF
                  refine Ok.op rfl (OpOk.step (v := .string ⟨⟨x3l9 ++ (([92] : List UInt8) ++ ((xs.take (Int.toNat (IntKind.wrap .i64 (x8l9 + 1)))).drop (Int.toNat x8l9)))⟩⟩) (Yields.strAdd rfl rfl hv) rfl rfl ?_)
                  refine Ok.batch 1 [(0, .string ⟨⟨xs⟩⟩), (3, .string ⟨⟨x3l9 ++ (([92] : List UInt8) ++ ((xs.take (Int.toNat (IntKind.wrap .i64 (x8l9 + 1)))).drop (Int.toNat x8l9)))⟩⟩), (7, .int .i64 (xs.length : Int)), (8, .int .i64 x8l9)] (by kernel_rfl) ?_
                  refine Ok.nil ?_
                  refine Ok.blockN ?_
                  refine Ok.blockN ?_
                  refine Ok.thenN ?_
                  subst hg2
                  refine Ok.reval 3 rfl (show (.string ⟨⟨x3l9 ++ (([92] : List UInt8) ++ ((xs.take (Int.toNat (IntKind.wrap .i64 (x8l9 + 1)))).drop (Int.toNat x8l9)))⟩⟩ : Value) = .string ⟨⟨(if (((xs.getD (Int.toNat x8l9) 0).toNat : Int) == 10) = true then x3l9 ++ ([92, 110] : List UInt8) else (if (((xs.getD (Int.toNat x8l9) 0).toNat : Int) == 9) = true then x3l9 ++ ([92, 116] : List UInt8) else (if (!(btwM (IntKind.wrap .i64 ((xs.getD (Int.toNat x8l9) 0).toNat : Int)) 32 126)) = true then x3l9 ++ ((([92, 120] : List UInt8) ++ ((([48, 49, 50, 51, 52, 53, 54, 55, 56, 57, 97, 98, 99, 100, 101, 102] : List UInt8).take (Int.toNat (IntKind.wrap .u8 ((IntKind.wrap .u8 (Int.tdiv ((xs.getD (Int.toNat x8l9) 0).toNat : Int) 16)) + 1)))).drop (Int.toNat (IntKind.wrap .u8 (Int.tdiv ((xs.getD (Int.toNat x8l9) 0).toNat : Int) 16))))) ++ ((([48, 49, 50, 51, 52, 53, 54, 55, 56, 57, 97, 98, 99, 100, 101, 102] : List UInt8).take (Int.toNat (IntKind.wrap .u8 ((Int.tmod ((xs.getD (Int.toNat x8l9) 0).toNat : Int) 16) + 1)))).drop (Int.toNat (Int.tmod ((xs.getD (Int.toNat x8l9) 0).toNat : Int) 16)))) else (if ((((xs.getD (Int.toNat x8l9) 0).toNat : Int) == 34) || (((xs.getD (Int.toNat x8l9) 0).toNat : Int) == 92)) = true then x3l9 ++ (([92] : List UInt8) ++ ((xs.take (Int.toNat (IntKind.wrap .i64 (x8l9 + 1)))).drop (Int.toNat x8l9))) else x3l9 ++ ((xs.take (Int.toNat (IntKind.wrap .i64 (x8l9 + 1)))).drop (Int.toNat x8l9))))))⟩⟩ from congrArg ((fun s : List UInt8 => Value.string ⟨⟨s⟩⟩)) ((Eq.trans ((Eq.trans ((Eq.trans ((if_t hc10).symm) ((if_f hc5).symm))) ((if_f hc4).symm))) ((if_f hc3).symm)))) ?_
                  exact fun a W hA hW => ⟨gl9, (Gext.refl w0 gl9), hA.sub (by kernel_rfl), hW, hF⟩
                · replace hF := hF.2 hc10
                  refine Ok.region ?_
                  refine Ok.batch 5 [(0, .string ⟨⟨xs⟩⟩), (7, .int .i64 (xs.length : Int)), (8, .int .i64 x8l9), (14, .string ⟨⟨x3l9⟩⟩), (15, .string ⟨⟨xs⟩⟩), (16, .int .i64 x8l9), (18, .int .i64 (IntKind.wrap .i64 (x8l9 + 1)))] (by kernel_rfl) ?_
                  obtain ⟨h012, h112, h212, hF⟩ := hF
                  refine Ok.op rfl (OpOk.step (v := .string ⟨⟨(xs.take (Int.toNat (IntKind.wrap .i64 (x8l9 + 1)))).drop (Int.toNat x8l9)⟩⟩) (Yields.sliceStr (s := xs) (l := x8l9) (h := (IntKind.wrap .i64 (x8l9 + 1))) (by kernel_rfl) Tryd.underlying9 (.inl ⟨_, _, rfl, rfl⟩) (.inl ⟨_, _, rfl, rfl⟩) h012 h112 h212 ((xs.take (Int.toNat (IntKind.wrap .i64 (x8l9 + 1)))).drop (Int.toNat x8l9)) rfl) rfl rfl ?_)
                  obtain ⟨hv, hF⟩ := hF
                  refine Ok.op rfl (OpOk.step (v := .string ⟨⟨x3l9 ++ ((xs.take (Int.toNat (IntKind.wrap .i64 (x8l9 + 1)))).drop (Int.toNat x8l9))⟩⟩) (Yields.strAdd rfl rfl hv) rfl rfl ?_)
                  refine Ok.batch 1 [(0, .string ⟨⟨xs⟩⟩), (3, .string ⟨⟨x3l9 ++ ((xs.take (Int.toNat (IntKind.wrap .i64 (x8l9 + 1)))).drop (Int.toNat x8l9))⟩⟩), (7, .int .i64 (xs.length : Int)), (8, .int .i64 x8l9)] (by kernel_rfl) ?_
                  refine Ok.nil ?_
                  refine Ok.blockN ?_
                  refine Ok.blockN ?_
                  refine Ok.thenN ?_
                  subst hg2
                  refine Ok.reval 3 rfl (show (.string ⟨⟨x3l9 ++ ((xs.take (Int.toNat (IntKind.wrap .i64 (x8l9 + 1)))).drop (Int.toNat x8l9))⟩⟩ : Value) = .string ⟨⟨(if (((xs.getD (Int.toNat x8l9) 0).toNat : Int) == 10) = true then x3l9 ++ ([92, 110] : List UInt8) else (if (((xs.getD (Int.toNat x8l9) 0).toNat : Int) == 9) = true then x3l9 ++ ([92, 116] : List UInt8) else (if (!(btwM (IntKind.wrap .i64 ((xs.getD (Int.toNat x8l9) 0).toNat : Int)) 32 126)) = true then x3l9 ++ ((([92, 120] : List UInt8) ++ ((([48, 49, 50, 51, 52, 53, 54, 55, 56, 57, 97, 98, 99, 100, 101, 102] : List UInt8).take (Int.toNat (IntKind.wrap .u8 ((IntKind.wrap .u8 (Int.tdiv ((xs.getD (Int.toNat x8l9) 0).toNat : Int) 16)) + 1)))).drop (Int.toNat (IntKind.wrap .u8 (Int.tdiv ((xs.getD (Int.toNat x8l9) 0).toNat : Int) 16))))) ++ ((([48, 49, 50, 51, 52, 53, 54, 55, 56, 57, 97, 98, 99, 100, 101, 102] : List UInt8).take (Int.toNat (IntKind.wrap .u8 ((Int.tmod ((xs.getD (Int.toNat x8l9) 0).toNat : Int) 16) + 1)))).drop (Int.toNat (Int.tmod ((xs.getD (Int.toNat x8l9) 0).toNat : Int) 16)))) else (if ((((xs.getD (Int.toNat x8l9) 0).toNat : Int) == 34) || (((xs.getD (Int.toNat x8l9) 0).toNat : Int) == 92)) = true then x3l9 ++ (([92] : List UInt8) ++ ((xs.take (Int.toNat (IntKind.wrap .i64 (x8l9 + 1)))).drop (Int.toNat x8l9))) else x3l9 ++ ((xs.take (Int.toNat (IntKind.wrap .i64 (x8l9 + 1)))).drop (Int.toNat x8l9))))))⟩⟩ from congrArg ((fun s : List UInt8 => Value.string ⟨⟨s⟩⟩)) ((Eq.trans ((Eq.trans ((Eq.trans ((if_f hc10).symm) ((if_f hc5).symm))) ((if_f hc4).symm))) ((if_f hc3).symm)))) ?_
                  exact fun a W hA hW => ⟨gl9, (Gext.refl w0 gl9), hA.sub (by kernel_rfl), hW, hF⟩
        ·
          clear hF
          rintro a W ⟨gj16, hxj16, hA, hW, hF⟩
          refine (?_ : Ok _ _ _ _ _ _) a W hA hW
          clear hA hW
          refine Ok.region ?_
          refine Ok.batch 2 [(0, .string ⟨⟨xs⟩⟩), (3, .string ⟨⟨(if (((xs.getD (Int.toNat x8l9) 0).toNat : Int) == 10) = true then x3l9 ++ ([92, 110] : List UInt8) else (if (((xs.getD (Int.toNat x8l9) 0).toNat : Int) == 9) = true then x3l9 ++ ([92, 116] : List UInt8) else (if (!(btwM (IntKind.wrap .i64 ((xs.getD (Int.toNat x8l9) 0).toNat : Int)) 32 126)) = true then x3l9 ++ ((([92, 120] : List UInt8) ++ ((([48, 49, 50, 51, 52, 53, 54, 55, 56, 57, 97, 98, 99, 100, 101, 102] : List UInt8).take (Int.toNat (IntKind.wrap .u8 ((IntKind.wrap .u8 (Int.tdiv ((xs.getD (Int.toNat x8l9) 0).toNat : Int) 16)) + 1)))).drop (Int.toNat (IntKind.wrap .u8 (Int.tdiv ((xs.getD (Int.toNat x8l9) 0).toNat : Int) 16))))) ++ ((([48, 49, 50, 51, 52, 53, 54, 55, 56, 57, 97, 98, 99, 100, 101, 102] : List UInt8).take (Int.toNat (IntKind.wrap .u8 ((Int.tmod ((xs.getD (Int.toNat x8l9) 0).toNat : Int) 16) + 1)))).drop (Int.toNat (Int.tmod ((xs.getD (Int.toNat x8l9) 0).toNat : Int) 16)))) else (if ((((xs.getD (Int.toNat x8l9) 0).toNat : Int) == 34) || (((xs.getD (Int.toNat x8l9) 0).toNat : Int) == 92)) = true then x3l9 ++ (([92] : List UInt8) ++ ((xs.take (Int.toNat (IntKind.wrap .i64 (x8l9 + 1)))).drop (Int.toNat x8l9))) else x3l9 ++ ((xs.take (Int.toNat (IntKind.wrap .i64 (x8l9 + 1)))).drop (Int.toNat x8l9))))))⟩⟩), (7, .int .i64 (xs.length : Int)), (8, .int .i64 (IntKind.wrap .i64 (x8l9 + 1)))] (by kernel_rfl) ?_
          refine Ok.nil ?_
          refine Ok.thenN ?_
          exact fun a W hA hW => ⟨k9, Nat.lt_succ_self _, gj16, (hxl9.trans hxj16), (if (((xs.getD (Int.toNat x8l9) 0).toNat : Int) == 10) = true then x3l9 ++ ([92, 110] : List UInt8) else (if (((xs.getD (Int.toNat x8l9) 0).toNat : Int) == 9) = true then x3l9 ++ ([92, 116] : List UInt8) else (if (!(btwM (IntKind.wrap .i64 ((xs.getD (Int.toNat x8l9) 0).toNat : Int)) 32 126)) = true then x3l9 ++ ((([92, 120] : List UInt8) ++ ((([48, 49, 50, 51, 52, 53, 54, 55, 56, 57, 97, 98, 99, 100, 101, 102] : List UInt8).take (Int.toNat (IntKind.wrap .u8 ((IntKind.wrap .u8 (Int.tdiv ((xs.getD (Int.toNat x8l9) 0).toNat : Int) 16)) + 1)))).drop (Int.toNat (IntKind.wrap .u8 (Int.tdiv ((xs.getD (Int.toNat x8l9) 0).toNat : Int) 16))))) ++ ((([48, 49, 50, 51, 52, 53, 54, 55, 56, 57, 97, 98, 99, 100, 101, 102] : List UInt8).take (Int.toNat (IntKind.wrap .u8 ((Int.tmod ((xs.getD (Int.toNat x8l9) 0).toNat : Int) 16) + 1)))).drop (Int.toNat (Int.tmod ((xs.getD (Int.toNat x8l9) 0).toNat : Int) 16)))) else (if ((((xs.getD (Int.toNat x8l9) 0).toNat : Int) == 34) || (((xs.getD (Int.toNat x8l9) 0).toNat : Int) == 92)) = true then x3l9 ++ (([92] : List UInt8) ++ ((xs.take (Int.toNat (IntKind.wrap .i64 (x8l9 + 1)))).drop (Int.toNat x8l9))) else x3l9 ++ ((xs.take (Int.toNat (IntKind.wrap .i64 (x8l9 + 1)))).drop (Int.toNat x8l9)))))), IntKind.wrap .i64 (x8l9 + 1), hA.sub (by kernel_rfl), hW, hF⟩
      · replace hF := hF.2 hc1
        refine Ok.exit ?_
        refine Ok.thenE ?_
        refine Ok.thenE ?_
        refine Ok.blockHit ?_
        refine Ok.thenN ?_
        refine Ok.seq ?_
        refine Ok.region ?_
        refine Ok.batch 1 [(68, .string ⟨⟨x3l9⟩⟩)] (by kernel_rfl) ?_
        obtain ⟨hv, hF⟩ := hF
        refine Ok.op rfl (OpOk.step (v := .string ⟨⟨x3l9 ++ ([34] : List UInt8)⟩⟩) (Yields.strAdd rfl rfl hv) rfl rfl ?_)
        refine Ok.batch 1 [(2, .string ⟨⟨x3l9 ++ ([34] : List UInt8)⟩⟩)] (by kernel_rfl) ?_
        refine Ok.nil ?_
        refine Ok.thenN ?_
        refine Ok.ret ?_
        exact Ok.resH (vs := [.string ⟨⟨x3l9 ++ ([34] : List UInt8)⟩⟩]) (.inl rfl) rfl (.cons (.tmp rfl) .nil) hxl9 ⟨(x3l9 ++ ([34] : List UInt8)), rfl, rfl, hF⟩
/-- what the reference writes for a byte -/
def quR (c : UInt8) : List UInt8 :=
  if (((c.toNat : Int) == 10)) = true then [92, 110] else (if ((c.toNat : Int) == 9) = true then [92, 116] else (if (!(btwM (IntKind.wrap .i64 (c.toNat : Int)) 32 126)) = true then (([92, 120] : List UInt8) ++ ((HX.take (Int.toNat (IntKind.wrap .u8 ((IntKind.wrap .u8 (Int.tdiv (c.toNat : Int) 16)) + 1)))).drop (Int.toNat (IntKind.wrap .u8 (Int.tdiv (c.toNat : Int) 16))))) ++ ((HX.take (Int.toNat (IntKind.wrap .u8 ((Int.tmod (c.toNat : Int) 16) + 1)))).drop (Int.toNat (Int.tmod (c.toNat : Int) 16))) else (if (((c.toNat : Int) == 34) || ((c.toNat : Int) == 92)) = true then [92, c] else [c])))
def quF (c : UInt8) : Bool := decide (0 ≤ IntKind.wrap .u8 (Int.tdiv (c.toNat : Int) 16)) && decide (IntKind.wrap .u8 (Int.tdiv (c.toNat : Int) 16) ≤ IntKind.wrap .u8 ((IntKind.wrap .u8 (Int.tdiv (c.toNat : Int) 16)) + 1)) && decide (IntKind.wrap .u8 ((IntKind.wrap .u8 (Int.tdiv (c.toNat : Int) 16)) + 1) ≤ 16) &&
  decide (0 ≤ Int.tmod (c.toNat : Int) 16) && decide (Int.tmod (c.toNat : Int) 16 ≤ IntKind.wrap .u8 ((Int.tmod (c.toNat : Int) 16) + 1)) && decide (IntKind.wrap .u8 ((Int.tmod (c.toNat : Int) 16) + 1) ≤ 16) &&
  decide (((HX.take (Int.toNat (IntKind.wrap .u8 ((IntKind.wrap .u8 (Int.tdiv (c.toNat : Int) 16)) + 1)))).drop (Int.toNat (IntKind.wrap .u8 (Int.tdiv (c.toNat : Int) 16)))).length = 1) && decide (((HX.take (Int.toNat (IntKind.wrap .u8 ((Int.tmod (c.toNat : Int) 16) + 1)))).drop (Int.toNat (Int.tmod (c.toNat : Int) 16))).length = 1) && (quR c == quB c)
theorem quF_ok (c : UInt8) : quF c = true := byte_all (by decide +kernel) c
theorem rqu_F (s : List UInt8) (hp : jquoP s) : rquF s (fun r => r = jquoS s) := by
  unfold jquoP at hp
  have loop : ∀ (k i : Nat) (acc : List UInt8), i + k = s.length → acc.length ≤ 4 * i + 1 → jquoS s = acc ++ (s.drop i).flatMap quB ++ [34] → rqul9 s (fun r => r = jquoS s) (k + 1) acc (i : Int) := by
    intro k
    induction k with
    | zero =>
      intro i acc h ha he
      have hn : decide ((i : Int) < (s.length : Int)) = false := decide_eq_false (by omega)
      rw [List.drop_of_length_le (by omega), List.flatMap_nil, List.append_nil] at he
      exact ⟨fun h => (Bool.false_ne_true (hn.symm.trans h)).elim, fun _ => ⟨by rw [maxLen_eq]; simp only [List.length_cons, List.length_nil]; omega, he.symm⟩⟩
    | succ k ih =>
      intro i acc h ha he
      have hn : decide ((i : Int) < (s.length : Int)) = true := decide_eq_true (by omega)
      have hx := quF_ok (s.getD i 0)
      unfold quF at hx
      simp only [Bool.and_eq_true, decide_eq_true_eq, beq_iff_eq] at hx
      obtain ⟨⟨⟨⟨⟨⟨⟨⟨x1, x2⟩, x3⟩, x4⟩, x5⟩, x6⟩, x7⟩, x8⟩, x9⟩ := hx
      have hq := quB_len (s.getD i 0)
      have w1 : IntKind.wrap .i64 ((i : Int) + 1) = (i : Int) + 1 := w64 (by omega)
      have hsub : (s.take (Int.toNat ((i : Int) + 1))).drop (Int.toNat (i : Int)) = [s.getD i 0] := by
        have := sub1 s (i := (i : Int)) (by omega) (by omega)
        rw [this, Int.toNat_natCast]
      rw [drop_get (l := s) 0 (by omega), List.flatMap_cons, ← List.append_assoc] at he
      have hm : maxLen = 9223372036854775807 := maxLen_eq
      have key : rquj16 s acc (i : Int) (rqul9 s (fun r => r = jquoS s) (k + 1)) := by
        unfold rquj16
        rw [w1, hsub, Int.toNat_natCast]
        have e : ∀ X : List UInt8, X = acc ++ quR (s.getD i 0) → rqul9 s (fun r => r = jquoS s) (k + 1) X ((i : Int) + 1) := fun X hX => by
          rw [hX, x9]
          exact ih (i + 1) _ (by omega) (by rw [List.length_append]; omega) he
        refine e _ ?_
        unfold quR HX
        repeat' split
        all_goals first | rfl | (exfalso; simp_all; done) | simp_all
      have hl : ∀ t : List UInt8, t.length ≤ 4 → acc.length + t.length ≤ maxLen := fun t ht => by rw [hm]; omega
      refine ⟨fun _ => ⟨by omega, by rw [Int.toNat_natCast]; omega, ?_⟩, fun h => (Bool.false_ne_true (h.symm.trans hn)).elim⟩
      rw [w1, hsub, Int.toNat_natCast]
      refine ⟨fun a => ⟨hl _ (by decide), key⟩, fun a => ⟨fun b => ⟨hl _ (by decide), key⟩, fun b => ⟨fun c => ⟨x1, x2, x3, ?_, x4, x5, x6, ?_, hl _ ?_, key⟩, fun c => ⟨fun d => ⟨by omega, by omega, by omega, ?_, hl _ (by simp), key⟩, fun d => ⟨by omega, by omega, by omega, hl _ (by simp), key⟩⟩⟩⟩⟩
      · show 2 + ((HX.take (Int.toNat (IntKind.wrap .u8 ((IntKind.wrap .u8 (Int.tdiv ((s.getD i 0).toNat : Int) 16)) + 1)))).drop (Int.toNat (IntKind.wrap .u8 (Int.tdiv ((s.getD i 0).toNat : Int) 16)))).length ≤ maxLen
        rw [x7, hm]; decide
      · show (([92, 120] : List UInt8) ++ ((HX.take (Int.toNat (IntKind.wrap .u8 ((IntKind.wrap .u8 (Int.tdiv ((s.getD i 0).toNat : Int) 16)) + 1)))).drop (Int.toNat (IntKind.wrap .u8 (Int.tdiv ((s.getD i 0).toNat : Int) 16))))).length + ((HX.take (Int.toNat (IntKind.wrap .u8 ((Int.tmod ((s.getD i 0).toNat : Int) 16) + 1)))).drop (Int.toNat (Int.tmod ((s.getD i 0).toNat : Int) 16))).length ≤ maxLen
        rw [List.length_append, x7, x8, hm]; decide
      · show ((([92, 120] : List UInt8) ++ ((HX.take (Int.toNat (IntKind.wrap .u8 ((IntKind.wrap .u8 (Int.tdiv ((s.getD i 0).toNat : Int) 16)) + 1)))).drop (Int.toNat (IntKind.wrap .u8 (Int.tdiv ((s.getD i 0).toNat : Int) 16))))) ++ ((HX.take (Int.toNat (IntKind.wrap .u8 ((Int.tmod ((s.getD i 0).toNat : Int) 16) + 1)))).drop (Int.toNat (Int.tmod ((s.getD i 0).toNat : Int) 16)))).length ≤ 4
        rw [List.length_append, List.length_append, x7, x8]; decide
      · rw [hm]; simp
  exact ⟨_, loop s.length 0 [34] (by omega) (by simp) rfl⟩
set_option linter.unusedVariables false in
theorem rqu_c {g : Ghost} (xs : List UInt8)  (hp : jquoP xs) : CallsG Tryd.prog 9 #[.string ⟨⟨xs⟩⟩] g (.string ⟨⟨(jquoS xs)⟩⟩) :=
  (rqu_ok xs _ (rqu_F xs hp)).gives (by rintro g' H' v _ ⟨r0, rfl, rfl, hK⟩; subst hK; rfl)
def rstl15b (xa : List (Int × Int × Int × List UInt8 × Int)) (xb : List (Int × Int × Int × List UInt8 × Int)) (K : Bool → Prop) (x13l15 : Int) (C15 : Int → Prop) : Prop :=
  ((decide (x13l15 < (xa.length : Int))) = true → (0 : Int) ≤ x13l15 ∧ Int.toNat x13l15 < xa.length ∧ (0 : Int) ≤ x13l15 ∧ Int.toNat x13l15 < xb.length ∧ ((!([((xa.getD (Int.toNat x13l15) default).1 == (xb.getD (Int.toNat x13l15) default).1), ((xa.getD (Int.toNat x13l15) default).2.1 == (xb.getD (Int.toNat x13l15) default).2.1), ((xa.getD (Int.toNat x13l15) default).2.2.1 == (xb.getD (Int.toNat x13l15) default).2.2.1), ((xa.getD (Int.toNat x13l15) default).2.2.2.1 == (xb.getD (Int.toNat x13l15) default).2.2.2.1), ((xa.getD (Int.toNat x13l15) default).2.2.2.2 == (xb.getD (Int.toNat x13l15) default).2.2.2.2)].all id)) = true → K false) ∧ ((!([((xa.getD (Int.toNat x13l15) default).1 == (xb.getD (Int.toNat x13l15) default).1), ((xa.getD (Int.toNat x13l15) default).2.1 == (xb.getD (Int.toNat x13l15) default).2.1), ((xa.getD (Int.toNat x13l15) default).2.2.1 == (xb.getD (Int.toNat x13l15) default).2.2.1), ((xa.getD (Int.toNat x13l15) default).2.2.2.1 == (xb.getD (Int.toNat x13l15) default).2.2.2.1), ((xa.getD (Int.toNat x13l15) default).2.2.2.2 == (xb.getD (Int.toNat x13l15) default).2.2.2.2)].all id)) = false → C15 (IntKind.wrap .i64 (x13l15 + 1)))) ∧ ((decide (x13l15 < (xa.length : Int))) = false → K true)
def rstl15 (xa : List (Int × Int × Int × List UInt8 × Int)) (xb : List (Int × Int × Int × List UInt8 × Int)) (K : Bool → Prop) : Nat → Int → Prop
  | 0, _ => False
  | k + 1, x13l15 => rstl15b xa xb K x13l15 (rstl15 xa xb K k)
def rstF (xa : List (Int × Int × Int × List UInt8 × Int)) (xb : List (Int × Int × Int × List UInt8 × Int)) (K : Bool → Prop) : Prop :=
  ((((xa.length : Int) != (xb.length : Int))) = true → K false) ∧ ((((xa.length : Int) != (xb.length : Int))) = false → ∃ k, rstl15 xa xb K k 0)
set_option maxHeartbeats 4000000 in
set_option maxRecDepth 100000 in
set_option linter.unusedVariables false in
theorem rst_ok {g : Ghost} {axa_0 : Option Addr} {cxa_0 : Nat} (xa : List (Int × Int × Int × List UInt8 × Int)) {axb_0 : Option Addr} {cxb_0 : Nat} (xb : List (Int × Int × Int × List UInt8 × Int)) (hRxa_0 : Rep g (.slice (.pair (.int .i64) (.pair (.int .i64) (.pair (.int .i64) (.pair (.str) (.int .i64)))))) [.slice axa_0 xa.length cxa_0] xa) (hRxb_0 : Rep g (.slice (.pair (.int .i64) (.pair (.int .i64) (.pair (.int .i64) (.pair (.str) (.int .i64)))))) [.slice axb_0 xb.length cxb_0] xb) (K : Bool → Prop)
    (hF : rstF xa xb K) : CallsH Tryd.prog 7 #[.slice axa_0 xa.length cxa_0, .slice axb_0 xb.length cxb_0] g [] (fun g' H' v => ∃ (r0 : Bool), v = .bool r0 ∧ H' = [] ∧ K r0) := by
  refine CallsH.enter 26 [(0, .slice axa_0 xa.length cxa_0), (1, .slice axb_0 xb.length cxb_0)] Tryd.func7 rfl (by kernel_rfl) (by kernel_rfl) (by kernel_rfl) fun w0 => ?_
  refine Ok.seq ?_
  refine Ok.region ?_
  refine Ok.batch 1 [(0, .slice axa_0 xa.length cxa_0), (1, .slice axb_0 xb.length cxb_0)] (by kernel_rfl) ?_
  refine Ok.nil ?_
  refine Ok.thenN ?_
  refine Ok.seq ?_
  refine Ok.seq ?_
  refine Ok.region ?_
  refine Ok.batch 5 [(0, .slice axa_0 xa.length cxa_0), (1, .slice axb_0 xb.length cxb_0), (10, .bool ((xa.length : Int) != (xb.length : Int)))] (by kernel_rfl) ?_
  refine Ok.nil ?_
  refine Ok.thenN ?_
  refine Ok.cond (b := ((xa.length : Int) != (xb.length : Int))) rfl (fun hc1 => ?_) (fun hc1 => ?_)
  · replace hF := hF.1 hc1
    refine Ok.seq ?_
    refine Ok.region ?_
    refine Ok.batch 1 [(4, .bool false)] (by kernel_rfl) ?_
    refine Ok.nil ?_
    refine Ok.thenN ?_
    refine Ok.ret ?_
    refine Ok.thenR ?_
    exact Ok.resH (vs := [.bool false]) (.inl rfl) rfl (.cons (.tmp rfl) .nil) (Gext.refl w0 g) ⟨false, rfl, rfl, hF⟩
  · replace hF := hF.2 hc1
    refine Ok.skip ?_
    refine Ok.thenN ?_
    refine Ok.seq ?_
    refine Ok.seq ?_
    refine Ok.region ?_
    refine Ok.batch 3 [(0, .slice axa_0 xa.length cxa_0), (1, .slice axb_0 xb.length cxb_0), (12, .int .i64 (xa.length : Int)), (13, .int .i64 0)] (by kernel_rfl) ?_
    refine Ok.nil ?_
    refine Ok.thenN ?_
    refine Ok.block ?_
    obtain ⟨k, hF⟩ := hF
    refine Ok.loop (fun k a W => ∃ (x13l15 : Int), StA 26 [(0, .slice axa_0 xa.length cxa_0), (1, .slice axb_0 xb.length cxb_0), (12, .int .i64 (xa.length : Int)), (13, .int .i64 x13l15)] a ∧ StW w0 [] g W ∧ rstl15 xa xb K k x13l15) k ?_ ?_
    ·
      exact fun a W hA hW => ⟨0, hA.sub (by kernel_rfl), hW, hF⟩
    ·
      clear hF
      rintro k15 a W ⟨x13l15, hA, hW, hF⟩
      cases k15 with
      | zero => exact (hF : False).elim
      | succ k15 =>
        refine (?_ : Ok _ _ _ _ _ _) a W hA hW
        clear hA hW
        refine Ok.seq ?_
        refine Ok.region ?_
        refine Ok.batch 1 [(0, .slice axa_0 xa.length cxa_0), (1, .slice axb_0 xb.length cxb_0), (12, .int .i64 (xa.length : Int)), (13, .int .i64 x13l15), (14, .bool (decide (x13l15 < (xa.length : Int))))] (by kernel_rfl) ?_
        refine Ok.nil ?_
        refine Ok.thenN ?_
        refine Ok.seq ?_
        refine Ok.cond (b := decide (x13l15 < (xa.length : Int))) rfl (fun hc2 => ?_) (fun hc2 => ?_)
        · replace hF := hF.1 hc2
          refine Ok.skip ?_
          refine Ok.thenN ?_
          refine Ok.seq ?_
          refine Ok.block ?_
          refine Ok.seq ?_
          refine Ok.region ?_
          refine Ok.batch 2 [(0, .slice axa_0 xa.length cxa_0), (1, .slice axb_0 xb.length cxb_0), (5, .int .i64 x13l15), (12, .int .i64 (xa.length : Int)), (13, .int .i64 x13l15)] (by kernel_rfl) ?_
          refine Ok.nil ?_
          refine Ok.thenN ?_
          refine Ok.seq ?_
          refine Ok.quiet' (by kernel_rfl) (by kernel_rfl) ?_
          refine OkQ.batch 2 [(0, .slice axa_0 xa.length cxa_0), (1, .slice axb_0 xb.length cxb_0), (5, .int .i64 x13l15), (12, .int .i64 (xa.length : Int)), (13, .int .i64 x13l15), (16, .slice axa_0 xa.length cxa_0), (17, .int .i64 x13l15)] (by kernel_rfl) ?_
          obtain ⟨h04, h14, hF⟩ := hF
          have he4 := get_of (l := xa) (default : Int × Int × Int × List UInt8 × Int) h14
          generalize hg4 : (xa.getD (Int.toNat x13l15) default) = e4 at he4 hF ⊢
          refine OkQ.op rfl (OpQ.indexRo (e := .pair (.int .i64) (.pair (.int .i64) (.pair (.int .i64) (.pair (.str) (.int .i64))))) (i := x13l15) (el := e4) rfl rfl Tryd.underlying22 (by kernel_rfl) hRxa_0 h04 he4 rfl fun q3 o3 cs3 _ hat3 hr3 => ?_)
          obtain ⟨_, _, rfl, rfl, ⟨_, _, rfl, rfl, ⟨_, _, rfl, rfl, ⟨_, _, rfl, rfl, rfl⟩⟩⟩⟩ := hr3
          replace hat3 : At g q3 o3 [.int .i64 e4.1, .int .i64 e4.2.1, .int .i64 e4.2.2.1, .string ⟨⟨e4.2.2.2.1⟩⟩, .int .i64 e4.2.2.2.2] := hat3
          refine OkQ.op rfl (OpQ.step (v := .agg #[.int .i64 e4.1, .int .i64 e4.2.1, .int .i64 e4.2.2.1, .string ⟨⟨e4.2.2.2.1⟩⟩, .int .i64 e4.2.2.2.2]) (Yields.loadAggRo 0 5 #[.int .i64 e4.1, .int .i64 e4.2.1, .int .i64 e4.2.2.1, .string ⟨⟨e4.2.2.2.1⟩⟩, .int .i64 e4.2.2.2.2] hat3 (by kernel_rfl) Tryd.underlying39 rfl (by kernel_rfl) (by kernel_rfl) (by kernel_rfl)) rfl rfl ?_)
          refine OkQ.batch 2 [(0, .slice axa_0 xa.length cxa_0), (1, .slice axb_0 xb.length cxb_0), (12, .int .i64 (xa.length : Int)), (13, .int .i64 x13l15), (19, .agg #[.int .i64 e4.1, .int .i64 e4.2.1, .int .i64 e4.2.2.1, .string ⟨⟨e4.2.2.2.1⟩⟩, .int .i64 e4.2.2.2.2]), (20, .slice axb_0 xb.length cxb_0), (21, .int .i64 x13l15)] (by kernel_rfl) ?_
          obtain ⟨h06, h16, hF⟩ := hF
          have he6 := get_of (l := xb) (default : Int × Int × Int × List UInt8 × Int) h16
          generalize hg6 : (xb.getD (Int.toNat x13l15) default) = e6 at he6 hF ⊢
          refine OkQ.op rfl (OpQ.indexRo (e := .pair (.int .i64) (.pair (.int .i64) (.pair (.int .i64) (.pair (.str) (.int .i64))))) (i := x13l15) (el := e6) rfl rfl Tryd.underlying22 (by kernel_rfl) hRxb_0 h06 he6 rfl fun q5 o5 cs5 _ hat5 hr5 => ?_)
          obtain ⟨_, _, rfl, rfl, ⟨_, _, rfl, rfl, ⟨_, _, rfl, rfl, ⟨_, _, rfl, rfl, rfl⟩⟩⟩⟩ := hr5
          replace hat5 : At g q5 o5 [.int .i64 e6.1, .int .i64 e6.2.1, .int .i64 e6.2.2.1, .string ⟨⟨e6.2.2.2.1⟩⟩, .int .i64 e6.2.2.2.2] := hat5
          refine OkQ.op rfl (OpQ.step (v := .agg #[.int .i64 e6.1, .int .i64 e6.2.1, .int .i64 e6.2.2.1, .string ⟨⟨e6.2.2.2.1⟩⟩, .int .i64 e6.2.2.2.2]) (Yields.loadAggRo 0 5 #[.int .i64 e6.1, .int .i64 e6.2.1, .int .i64 e6.2.2.1, .string ⟨⟨e6.2.2.2.1⟩⟩, .int .i64 e6.2.2.2.2] hat5 (by kernel_rfl) Tryd.underlying39 rfl (by kernel_rfl) (by kernel_rfl) (by kernel_rfl)) rfl rfl ?_)
          refine OkQ.op rfl (OpQ.step (v := .bool (!([(e4.1 == e6.1), (e4.2.1 == e6.2.1), (e4.2.2.1 == e6.2.2.1), (e4.2.2.2.1 == e6.2.2.2.1), (e4.2.2.2.2 == e6.2.2.2.2)].all id))) (Yields.neAgg (k := 2) rfl rfl (.struct (k := 1) Tryd.underlying39 (by kernel_rfl) ⟨by decide, ⟨.int .i64 e4.1, .int .i64 e6.1, fun _ => by kernel_rfl, fun _ => by kernel_rfl, EqR.mono (k := 1) (.int Tryd.underlying3) (by decide)⟩, ⟨by decide, ⟨.int .i64 e4.2.1, .int .i64 e6.2.1, fun _ => by kernel_rfl, fun _ => by kernel_rfl, EqR.mono (k := 1) (.int Tryd.underlying3) (by decide)⟩, ⟨by decide, ⟨.int .i64 e4.2.2.1, .int .i64 e6.2.2.1, fun _ => by kernel_rfl, fun _ => by kernel_rfl, EqR.mono (k := 1) (.int Tryd.underlying3) (by decide)⟩, ⟨by decide, ⟨.string ⟨⟨e4.2.2.2.1⟩⟩, .string ⟨⟨e6.2.2.2.1⟩⟩, fun _ => by kernel_rfl, fun _ => by kernel_rfl, EqR.mono (k := 1) (.str Tryd.underlying9) (by decide)⟩, ⟨by decide, ⟨.int .i64 e4.2.2.2.2, .int .i64 e6.2.2.2.2, fun _ => by kernel_rfl, fun _ => by kernel_rfl, EqR.mono (k := 1) (.int Tryd.underlying3) (by decide)⟩, trivial⟩⟩⟩⟩⟩) rfl (by kernel_rfl)) rfl rfl ?_)
          refine OkQ.nil ?_
          refine Ok.thenN ?_
          refine Ok.cond (b := !([(e4.1 == e6.1), (e4.2.1 == e6.2.1), (e4.2.2.1 == e6.2.2.1), (e4.2.2.2.1 == e6.2.2.2.1), (e4.2.2.2.2 == e6.2.2.2.2)].all id)) rfl (fun hc7 => ?_) (fun hc7 => ?_)
          · replace hF := hF.1 hc7
            refine Ok.seq ?_
            refine Ok.region ?_
            refine Ok.batch 1 [(4, .bool false)] (by kernel_rfl) ?_
            refine Ok.nil ?_
            refine Ok.thenN ?_
            refine Ok.ret ?_
            refine Ok.blockR ?_
            refine Ok.thenR ?_
            refine Ok.thenR ?_
            refine Ok.blockR ?_
            refine Ok.thenR ?_
            exact Ok.resH (vs := [.bool false]) (.inl rfl) rfl (.cons (.tmp rfl) .nil) (Gext.refl w0 g) ⟨false, rfl, rfl, hF⟩
          · replace hF := hF.2 hc7
            refine Ok.skip ?_
            refine Ok.blockN ?_
            refine Ok.thenN ?_
            refine Ok.region ?_
            refine Ok.batch 2 [(0, .slice axa_0 xa.length cxa_0), (1, .slice axb_0 xb.length cxb_0), (12, .int .i64 (xa.length : Int)), (13, .int .i64 (IntKind.wrap .i64 (x13l15 + 1)))] (by kernel_rfl) ?_
            refine Ok.nil ?_
            refine Ok.thenN ?_
            subst hg6
            subst hg4
            exact fun a W hA hW => ⟨k15, Nat.lt_succ_self _, IntKind.wrap .i64 (x13l15 + 1), hA.sub (by kernel_rfl), hW, hF⟩
        · replace hF := hF.2 hc2
          refine Ok.exit ?_
          refine Ok.thenE ?_
          refine Ok.thenE ?_
          refine Ok.blockHit ?_
          refine Ok.thenN ?_
          refine Ok.seq ?_
          refine Ok.region ?_
          refine Ok.batch 1 [(4, .bool true)] (by kernel_rfl) ?_
          refine Ok.nil ?_
          refine Ok.thenN ?_
          refine Ok.ret ?_
          exact Ok.resH (vs := [.bool true]) (.inl rfl) rfl (.cons (.tmp rfl) .nil) (Gext.refl w0 g) ⟨true, rfl, rfl, hF⟩
def rstS (a b : List TK) : Bool := decide (a = b)
def rstP (a _ : List TK) : Prop := a.length ≤ 1000000
theorem tk_eq (x y : TK) : ([(x.1 == y.1), (x.2.1 == y.2.1), (x.2.2.1 == y.2.2.1), (x.2.2.2.1 == y.2.2.2.1), (x.2.2.2.2 == y.2.2.2.2)].all id) = decide (x = y) := by
  obtain ⟨a, b, c, d, e⟩ := x
  obtain ⟨a', b', c', d', e'⟩ := y
  rw [Bool.eq_iff_iff]
  simp
theorem rst_F (a b : List TK) (hp : rstP a b) : rstF a b (fun r => r = rstS a b) := by
  unfold rstP at hp
  refine ⟨fun h => ?_, fun h => ?_⟩
  · unfold rstS
    rw [decide_eq_false]
    intro e; rw [e] at h; simp at h
  · have hlen : a.length = b.length := by
      have : ¬ ((a.length : Int) ≠ (b.length : Int)) := by simpa using h
      omega
    have loop : ∀ (k i : Nat), i + k = a.length → rstS a b = decide (a.drop i = b.drop i) → rstl15 a b (fun r => r = rstS a b) (k + 1) (i : Int) := by
      intro k
      induction k with
      | zero =>
        intro i h he
        have hn : decide ((i : Int) < (a.length : Int)) = false := decide_eq_false (by omega)
        rw [List.drop_of_length_le (by omega), List.drop_of_length_le (by omega)] at he
        exact ⟨fun h => (Bool.false_ne_true (hn.symm.trans h)).elim, fun _ => by rw [he]; rfl⟩
      | succ k ih =>
        intro i h he
        have hn : decide ((i : Int) < (a.length : Int)) = true := decide_eq_true (by omega)
        rw [drop_get (l := a) default (by omega), drop_get (l := b) default (by omega)] at he
        refine ⟨fun _ => ⟨by omega, by rw [Int.toNat_natCast]; omega, by omega, by rw [Int.toNat_natCast]; omega, ?_⟩, fun h => (Bool.false_ne_true (h.symm.trans hn)).elim⟩
        rw [tk_eq, Int.toNat_natCast]
        refine ⟨fun h => ?_, fun h => ?_⟩
        · rw [he, decide_eq_false]
          intro e
          injection e with e1 _
          rw [e1] at h; simp at h
        · have e1 : a.getD i default = b.getD i default := by simpa using h
          rw [w64 (by omega)]
          exact ih (i + 1) (by omega) (by rw [he, e1]; simp)
    exact ⟨_, loop a.length 0 (by omega) rfl⟩
set_option linter.unusedVariables false in
theorem rst_c {g : Ghost} {axa_0 : Option Addr} {cxa_0 : Nat} (xa : List (Int × Int × Int × List UInt8 × Int)) {axb_0 : Option Addr} {cxb_0 : Nat} (xb : List (Int × Int × Int × List UInt8 × Int)) (hRxa_0 : Rep g (.slice (.pair (.int .i64) (.pair (.int .i64) (.pair (.int .i64) (.pair (.str) (.int .i64)))))) [.slice axa_0 xa.length cxa_0] xa) (hRxb_0 : Rep g (.slice (.pair (.int .i64) (.pair (.int .i64) (.pair (.int .i64) (.pair (.str) (.int .i64)))))) [.slice axb_0 xb.length cxb_0] xb)  (hp : rstP xa xb) : CallsG Tryd.prog 7 #[.slice axa_0 xa.length cxa_0, .slice axb_0 xb.length cxb_0] g (.bool (rstS xa xb)) :=
  (rst_ok xa xb hRxa_0 hRxb_0 _ (rst_F xa xb hp)).gives (by rintro g' H' v _ ⟨r0, rfl, rfl, hK⟩; subst hK; rfl)
def ljlj7 (xs : List UInt8) (K : Bool → Prop) : Prop :=
  K (((rstS ((jtokS xs).1) ((jtokS xs).1)) && (((jtokS xs).2) == ((jtokS xs).2))) && ((jquoS xs) == (jquoS xs)))
def ljlF (xs : List UInt8) (K : Bool → Prop) : Prop :=
  rstP ((jtokS xs).1) ((jtokS xs).1) ∧ ((((rstS ((jtokS xs).1) ((jtokS xs).1)) && (((jtokS xs).2) == ((jtokS xs).2)))) = true → jquoP xs ∧ jquoP xs ∧ ljlj7 xs K) ∧ ((((rstS ((jtokS xs).1) ((jtokS xs).1)) && (((jtokS xs).2) == ((jtokS xs).2)))) = false → ljlj7 xs K)
set_option maxHeartbeats 4000000 in
set_option maxRecDepth 100000 in
set_option linter.unusedVariables false in
theorem ljl_ok {g : Ghost} (xs : List UInt8) (hG0 : GlobL g 0 (.int .u8) DSpace) (hG1 : SomeInt g 1) (K : Bool → Prop)
    (hF : ljlF xs K) : CallsH Tryd.prog 3 #[.string ⟨⟨xs⟩⟩] g [] (fun g' H' v => ∃ (r0 : Bool), v = .bool r0 ∧ H' = [] ∧ K r0) := by
  refine CallsH.enter 32 [(0, .string ⟨⟨xs⟩⟩)] Tryd.func3 rfl (by kernel_rfl) (by kernel_rfl) (by kernel_rfl) fun w0 => ?_
  refine Ok.seq ?_
  refine Ok.region ?_
  refine Ok.batch 1 [(0, .string ⟨⟨xs⟩⟩)] (by kernel_rfl) ?_
  refine Ok.nil ?_
  refine Ok.thenN ?_
  refine Ok.seq ?_
  refine Ok.region ?_
  refine Ok.batch 1 [(0, .string ⟨⟨xs⟩⟩), (8, .string ⟨⟨xs⟩⟩)] (by kernel_rfl) ?_
  refine Ok.op rfl (OpOk.callH [] [] (enters (by kernel_rfl) (fun _ => by kernel_rfl)) rfl (jtok_c xs hG0) rfl fun g1 _ _ hx1 hV1 => ?_)
  obtain ⟨a1_0, c1_0, rfl, hR1_0, rfl⟩ := hV1
  replace hG0 := hG0.mono hx1.1
  replace hG1 := hG1.mono hx1.1
  refine Ok.batch 5 [(0, .string ⟨⟨xs⟩⟩), (3, .slice a1_0 ((jtokS xs).1).length c1_0), (4, .int .i64 ((jtokS xs).2))] (by kernel_rfl) ?_
  refine Ok.nil ?_
  refine Ok.thenN ?_
  refine Ok.seq ?_
  refine Ok.region ?_
  refine Ok.batch 1 [(0, .string ⟨⟨xs⟩⟩), (3, .slice a1_0 ((jtokS xs).1).length c1_0), (4, .int .i64 ((jtokS xs).2)), (13, .string ⟨⟨xs⟩⟩)] (by kernel_rfl) ?_
  refine Ok.op rfl (OpOk.callH [] [] (enters (by kernel_rfl) (fun _ => by kernel_rfl)) rfl (rtd_c xs hG1) rfl fun g2 _ _ hx2 hV2 => ?_)
  obtain ⟨a2_0, c2_0, rfl, hR2_0, rfl⟩ := hV2
  replace hR1_0 := hR1_0.mono hx2.1
  replace hG0 := hG0.mono hx2.1
  replace hG1 := hG1.mono hx2.1
  refine Ok.batch 5 [(0, .string ⟨⟨xs⟩⟩), (3, .slice a1_0 ((jtokS xs).1).length c1_0), (4, .int .i64 ((jtokS xs).2)), (5, .slice a2_0 ((jtokS xs).1).length c2_0), (6, .int .i64 ((jtokS xs).2))] (by kernel_rfl) ?_
  refine Ok.nil ?_
  refine Ok.thenN ?_
  refine Ok.cut (fun a W => ∃ gj7 : Ghost, Gext w0 g2 gj7 ∧ StA 32 [(2, .bool (((rstS ((jtokS xs).1) ((jtokS xs).1)) && (((jtokS xs).2) == ((jtokS xs).2))) && ((jquoS xs) == (jquoS xs))))] a ∧ StW w0 [] gj7 W ∧ ljlj7 xs K) ?_ ?_
  ·
    refine Ok.region ?_
    refine Ok.batch 2 [(0, .string ⟨⟨xs⟩⟩), (4, .int .i64 ((jtokS xs).2)), (6, .int .i64 ((jtokS xs).2)), (17, .slice a1_0 ((jtokS xs).1).length c1_0), (18, .slice a2_0 ((jtokS xs).1).length c2_0)] (by kernel_rfl) ?_
    obtain ⟨hp3, hF⟩ := hF
    refine Ok.op rfl (OpOk.callG (v := .bool (rstS ((jtokS xs).1) ((jtokS xs).1))) (enters (by kernel_rfl) (fun _ => by kernel_rfl)) (fun W hW => rst_c ((jtokS xs).1) ((jtokS xs).1) (hR1_0.mono hW.sees) (hR2_0.mono hW.sees) hp3) rfl ?_)
    refine Ok.batch 1 [(0, .string ⟨⟨xs⟩⟩), (4, .int .i64 ((jtokS xs).2)), (6, .int .i64 ((jtokS xs).2)), (20, .bool (rstS ((jtokS xs).1) ((jtokS xs).1)))] (by kernel_rfl) ?_
    refine Ok.midway 4 [(0, .string ⟨⟨xs⟩⟩), (24, .bool ((rstS ((jtokS xs).1) ((jtokS xs).1)) && (((jtokS xs).2) == ((jtokS xs).2))))] (fun hR4 => ?_) ?_
    · refine Ok.boolAt 20 ((rstS ((jtokS xs).1) ((jtokS xs).1))) rfl (fun hc5 => ?_) (fun hc5 => ?_)
      · skip
        refine Ok.batch 4 [(0, .string ⟨⟨xs⟩⟩), (24, .bool (((jtokS xs).2) == ((jtokS xs).2)))] (by kernel_rfl) ?_
        refine Ok.reval 24 rfl (show (.bool (((jtokS xs).2) == ((jtokS xs).2)) : Value) = .bool ((rstS ((jtokS xs).1) ((jtokS xs).1)) && (((jtokS xs).2) == ((jtokS xs).2))) from congrArg Value.bool (mand_t hc5)) ?_
        refine Ok.batch 0 [(0, .string ⟨⟨xs⟩⟩), (24, .bool ((rstS ((jtokS xs).1) ((jtokS xs).1)) && (((jtokS xs).2) == ((jtokS xs).2))))] (by kernel_rfl) ?_
        exact hR4
      · skip
        refine Ok.batch 4 [(0, .string ⟨⟨xs⟩⟩), (24, .bool false)] (by kernel_rfl) ?_
        refine Ok.reval 24 rfl (show (.bool false : Value) = .bool ((rstS ((jtokS xs).1) ((jtokS xs).1)) && (((jtokS xs).2) == ((jtokS xs).2))) from congrArg Value.bool (mand_f hc5)) ?_
        refine Ok.batch 0 [(0, .string ⟨⟨xs⟩⟩), (24, .bool ((rstS ((jtokS xs).1) ((jtokS xs).1)) && (((jtokS xs).2) == ((jtokS xs).2))))] (by kernel_rfl) ?_
        exact hR4
    refine Ok.batch 1 [(0, .string ⟨⟨xs⟩⟩), (25, .bool ((rstS ((jtokS xs).1) ((jtokS xs).1)) && (((jtokS xs).2) == ((jtokS xs).2))))] (by kernel_rfl) ?_
    refine Ok.boolAt 25 (((rstS ((jtokS xs).1) ((jtokS xs).1)) && (((jtokS xs).2) == ((jtokS xs).2)))) rfl (fun hc6 => ?_) (fun hc6 => ?_)
    · replace hF := hF.1 hc6
      refine Ok.batch 1 [(0, .string ⟨⟨xs⟩⟩), (25, .bool true), (26, .string ⟨⟨xs⟩⟩)] (by kernel_rfl) ?_
      obtain ⟨hp7, hF⟩ := hF
      refine Ok.opYes (j := 8) (d := 25) (want := true) (b := true) rfl (by kernel_rfl) (by kernel_rfl) rfl (OpOk.callG (v := .string ⟨⟨(jquoS xs)⟩⟩) (enters (by kernel_rfl) (fun _ => by kernel_rfl)) (fun W hW => jquo_c xs hp7) rfl ?_)
      refine Ok.batch 1 [(25, .bool true), (27, .string ⟨⟨(jquoS xs)⟩⟩), (28, .string ⟨⟨xs⟩⟩)] (by kernel_rfl) ?_
      obtain ⟨hp8, hF⟩ := hF
      refine Ok.opYes (j := 8) (d := 25) (want := true) (b := true) rfl (by kernel_rfl) (by kernel_rfl) rfl (OpOk.callG (v := .string ⟨⟨(jquoS xs)⟩⟩) (enters (by kernel_rfl) (fun _ => by kernel_rfl)) (fun W hW => rqu_c xs hp8) rfl ?_)
      refine Ok.opYes (j := 8) (d := 25) (want := true) (b := true) rfl (by kernel_rfl) (by kernel_rfl) rfl (OpOk.step (v := .bool ((jquoS xs) == (jquoS xs))) (Yields.strCmp (f := .eql) (a := (jquoS xs)) (b := (jquoS xs)) (by kernel_rfl) (by kernel_rfl) rfl) rfl rfl ?_)
      refine Ok.batch 2 [(2, .bool ((jquoS xs) == (jquoS xs)))] (by kernel_rfl) ?_
      refine Ok.nil ?_
      refine Ok.thenN ?_
      refine Ok.reval 2 rfl (show (.bool ((jquoS xs) == (jquoS xs)) : Value) = .bool (((rstS ((jtokS xs).1) ((jtokS xs).1)) && (((jtokS xs).2) == ((jtokS xs).2))) && ((jquoS xs) == (jquoS xs))) from congrArg (Value.bool) (mand_t hc6)) ?_
      exact fun a W hA hW => ⟨g2, (Gext.refl w0 g2), hA.sub (by kernel_rfl), hW, hF⟩
    · replace hF := hF.2 hc6
      refine Ok.batch 7 [(2, .bool false)] (by kernel_rfl) ?_
      refine Ok.nil ?_
      refine Ok.thenN ?_
      refine Ok.reval 2 rfl (show (.bool false : Value) = .bool (((rstS ((jtokS xs).1) ((jtokS xs).1)) && (((jtokS xs).2) == ((jtokS xs).2))) && ((jquoS xs) == (jquoS xs))) from congrArg (Value.bool) (mand_f hc6)) ?_
      exact fun a W hA hW => ⟨g2, (Gext.refl w0 g2), hA.sub (by kernel_rfl), hW, hF⟩
  ·
    clear hF
    rintro a W ⟨gj7, hxj7, hA, hW, hF⟩
    refine (?_ : Ok _ _ _ _ _ _) a W hA hW
    clear hA hW
    replace hG0 := hG0.mono hxj7.1
    replace hG1 := hG1.mono hxj7.1
    refine Ok.ret ?_
    exact Ok.resH (vs := [.bool (((rstS ((jtokS xs).1) ((jtokS xs).1)) && (((jtokS xs).2) == ((jtokS xs).2))) && ((jquoS xs) == (jquoS xs)))]) (.inl rfl) rfl (.cons (.tmp rfl) .nil) ((hx1.trans hx2).trans hxj7) ⟨(((rstS ((jtokS xs).1) ((jtokS xs).1)) && (((jtokS xs).2) == ((jtokS xs).2))) && ((jquoS xs) == (jquoS xs))), rfl, rfl, hF⟩
theorem tkN_len : ∀ (k : Nat) (x : RD), (tkN k x).1.length ≤ x.2.2.length + k
  | 0, x => Nat.le_refl _
  | k + 1, x => by
    have h := tkN_len k (tkA x)
    have e : (tkA x).2.2.length = x.2.2.length + 1 := by unfold tkA jskipS; simp
    rw [tkN]
    repeat' split
    · simp
    · omega
    · simp
theorem jtok_len (s : List UInt8) : (jtokS s).1.length ≤ 1000000 := by
  unfold jtokS
  split
  · simp
  · rename_i h
    have := tkN_len (s.length + 1) (jskipS (s, 0, []))
    have e : (jskipS (s, 0, [])).2.2.length = 0 := rfl
    simp only [decide_eq_true_eq] at h
    omega
def ljlP (s : List UInt8) : Prop := s.length ≤ 1048576
theorem ljl_F (s : List UInt8) (hp : ljlP s) : ljlF s (fun r => r = true) := by
  have hq : jquoP s := by unfold jquoP; unfold ljlP at hp; omega
  have hr : rstS (jtokS s).1 (jtokS s).1 = true := by unfold rstS; simp
  have key : ljlj7 s (fun r => r = true) := by
    unfold ljlj7
    rw [hr]; simp
  exact ⟨jtok_len s, fun _ => ⟨hq, hq, key⟩, fun _ => key⟩
set_option linter.unusedVariables false in
theorem ljl_c {g : Ghost} (xs : List UInt8) (hG0 : GlobL g 0 (.int .u8) DSpace) (hG1 : SomeInt g 1)  (hp : ljlP xs) : CallsG Tryd.prog 3 #[.string ⟨⟨xs⟩⟩] g (.bool ((fun _ => true) xs)) :=
  (ljl_ok xs hG0 hG1 _ (ljl_F xs hp)).gives (by rintro g' H' v _ ⟨r0, rfl, rfl, hK⟩; subst hK; rfl)
end Go.Proofs.YtaojddkfacnddaaDoor.Jl
