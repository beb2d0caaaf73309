/- Loops: Play. -/
import Derived.Test.YtbifbljdmndjbaaLpq
namespace Go.Proofs.Ytbifbljdmndjbaa.Lo
open Go Go.Eng Go.RowKit
set_option maxHeartbeats 4000000
set_option maxRecDepth 100000
set_option linter.unusedSimpArgs false
set_option linter.unusedVariables false
noncomputable section
def lplV20 (ybs7_0l42 : Int) (ybs7_1l42 : Int) (yown29_0l42 : List (JT)) (yown28_0l42 : List (JJ)) (yown27_0l42 : List (JJ)) (e40 : Int × Int × Int × Bs × Int × Int × Bs) : List (JJ) :=
 (if ((lasS (ybs7_0l42, ybs7_1l42, yown27_0l42, yown28_0l42, yown29_0l42) e40).2.2 == 0) = true then (lasS (ybs7_0l42, ybs7_1l42, yown27_0l42, yown28_0l42, yown29_0l42) e40).1.2.2.1 else yown27_0l42)
def lplV21 (ybs7_0l42 : Int) (ybs7_1l42 : Int) (yown29_0l42 : List (JT)) (yown28_0l42 : List (JJ)) (yown27_0l42 : List (JJ)) (e40 : Int × Int × Int × Bs × Int × Int × Bs) : List (JJ) :=
 (if ((lasS (ybs7_0l42, ybs7_1l42, yown27_0l42, yown28_0l42, yown29_0l42) e40).2.2 == 0) = true then (lasS (ybs7_0l42, ybs7_1l42, yown27_0l42, yown28_0l42, yown29_0l42) e40).1.2.2.2.1 else yown28_0l42)
def lplV22 (ybs7_0l42 : Int) (ybs7_1l42 : Int) (yown29_0l42 : List (JT)) (yown28_0l42 : List (JJ)) (yown27_0l42 : List (JJ)) (e40 : Int × Int × Int × Bs × Int × Int × Bs) : List (JT) :=
 (if ((lasS (ybs7_0l42, ybs7_1l42, yown27_0l42, yown28_0l42, yown29_0l42) e40).2.2 == 0) = true then (lasS (ybs7_0l42, ybs7_1l42, yown27_0l42, yown28_0l42, yown29_0l42) e40).1.2.2.2.2 else yown29_0l42)
def lplV23 (ybs7_0l42 : Int) (ybs7_1l42 : Int) (yown29_0l42 : List (JT)) (yown28_0l42 : List (JJ)) (yown27_0l42 : List (JJ)) (e40 : Int × Int × Int × Bs × Int × Int × Bs) : Int :=
 (if ((lasS (ybs7_0l42, ybs7_1l42, yown27_0l42, yown28_0l42, yown29_0l42) e40).2.2 == 0) = true then (lasS (ybs7_0l42, ybs7_1l42, yown27_0l42, yown28_0l42, yown29_0l42) e40).1.1 else ybs7_0l42)
def lplV24 (ybs7_0l42 : Int) (ybs7_1l42 : Int) (yown29_0l42 : List (JT)) (yown28_0l42 : List (JJ)) (yown27_0l42 : List (JJ)) (e40 : Int × Int × Int × Bs × Int × Int × Bs) : Int :=
 (if ((lasS (ybs7_0l42, ybs7_1l42, yown27_0l42, yown28_0l42, yown29_0l42) e40).2.2 == 0) = true then (lasS (ybs7_0l42, ybs7_1l42, yown27_0l42, yown28_0l42, yown29_0l42) e40).1.2.1 else ybs7_1l42)
def lplj49 (ybs7_0j49 : Int) (ybs7_1j49 : Int) (x35l42 : Int) (yown38_0_0j49 : List (JJ)) (yown38_1_0j49 : List (JJ)) (yown38_2_0j49 : List (JT)) (yown31_0j49 : List (JJ)) (C42 : Int → (List (JJ)) → Int → Int → (List (JT)) → (List (JJ)) → (List (JJ)) → Prop) : Prop :=
 C42 (w6 (x35l42 + 1)) yown31_0j49 ybs7_0j49 ybs7_1j49 yown38_2_0j49 yown38_1_0j49 yown38_0_0j49
def lplj57 (xasks : List (Int × Int × Int × Bs × Int × Int × Bs)) (x35l42 : Int) (ybs7_0l42 : Int) (ybs7_1l42 : Int) (yown31_0l42 : List (JJ)) (yown29_0l42 : List (JT)) (yown28_0l42 : List (JJ)) (yown27_0l42 : List (JJ)) (C42 : Int → (List (JJ)) → Int → Int → (List (JT)) → (List (JJ)) → (List (JJ)) → Prop) : Prop :=
 lplj49 (lplV23 ybs7_0l42 ybs7_1l42 yown29_0l42 yown28_0l42 yown27_0l42 (xasks.getD (Int.toNat x35l42) default)) (lplV24 ybs7_0l42 ybs7_1l42 yown29_0l42 yown28_0l42 yown27_0l42 (xasks.getD (Int.toNat x35l42) default)) x35l42 (lplV20 ybs7_0l42 ybs7_1l42 yown29_0l42 yown28_0l42 yown27_0l42 (xasks.getD (Int.toNat x35l42) default)) (lplV21 ybs7_0l42 ybs7_1l42 yown29_0l42 yown28_0l42 yown27_0l42 (xasks.getD (Int.toNat x35l42) default)) (lplV22 ybs7_0l42 ybs7_1l42 yown29_0l42 yown28_0l42 yown27_0l42 (xasks.getD (Int.toNat x35l42) default)) yown31_0l42 C42
def lpll72b (x35l42 : Int) (ybs7_0l42 : Int) (C42 : Int → (List (JJ)) → Int → Int → (List (JT)) → (List (JJ)) → (List (JJ)) → Prop) (e40 : Int × Int × Int × Bs × Int × Int × Bs) (x15l72 : Bool) (yown31_0l72 : List (JJ)) (ybs7_0l72 : Int) (ybs7_1l72 : Int) (yown29_0l72 : List (JT)) (yown28_0l72 : List (JJ)) (yown27_0l72 : List (JJ)) (C72 : Bool → (List (JJ)) → Int → Int → (List (JT)) → (List (JJ)) → (List (JJ)) → Prop) : Prop :=
 (((x15l72 && (decide ((yown31_0l72.length : Int) < 300)))) = true → lnxP (ybs7_0l72, ybs7_1l72, yown27_0l72, yown28_0l72, yown29_0l72) (w6 (ybs7_0l42 + e40.2.2.1)) ∧ ((rnS (ybs7_0l72, ybs7_1l72, yown27_0l72, yown28_0l72, yown29_0l72) (w6 (ybs7_0l42 + e40.2.2.1))).2.2 = true → (yown31_0l72 ++ ([((rnS (ybs7_0l72, ybs7_1l72, yown27_0l72, yown28_0l72, yown29_0l72) (w6 (ybs7_0l42 + e40.2.2.1))).2.1.1, (rnS (ybs7_0l72, ybs7_1l72, yown27_0l72, yown28_0l72, yown29_0l72) (w6 (ybs7_0l42 + e40.2.2.1))).2.1.2.1, (rnS (ybs7_0l72, ybs7_1l72, yown27_0l72, yown28_0l72, yown29_0l72) (w6 (ybs7_0l42 + e40.2.2.1))).2.1.2.2.1, (rnS (ybs7_0l72, ybs7_1l72, yown27_0l72, yown28_0l72, yown29_0l72) (w6 (ybs7_0l42 + e40.2.2.1))).2.1.2.2.2.1, (rnS (ybs7_0l72, ybs7_1l72, yown27_0l72, yown28_0l72, yown29_0l72) (w6 (ybs7_0l42 + e40.2.2.1))).2.1.2.2.2.2)] : List (JJ))).length ≤ 1954687338268 ∧ C72 (rnS (ybs7_0l72, ybs7_1l72, yown27_0l72, yown28_0l72, yown29_0l72) (w6 (ybs7_0l42 + e40.2.2.1))).2.2 (yown31_0l72 ++ ([((rnS (ybs7_0l72, ybs7_1l72, yown27_0l72, yown28_0l72, yown29_0l72) (w6 (ybs7_0l42 + e40.2.2.1))).2.1.1, (rnS (ybs7_0l72, ybs7_1l72, yown27_0l72, yown28_0l72, yown29_0l72) (w6 (ybs7_0l42 + e40.2.2.1))).2.1.2.1, (rnS (ybs7_0l72, ybs7_1l72, yown27_0l72, yown28_0l72, yown29_0l72) (w6 (ybs7_0l42 + e40.2.2.1))).2.1.2.2.1, (rnS (ybs7_0l72, ybs7_1l72, yown27_0l72, yown28_0l72, yown29_0l72) (w6 (ybs7_0l42 + e40.2.2.1))).2.1.2.2.2.1, (rnS (ybs7_0l72, ybs7_1l72, yown27_0l72, yown28_0l72, yown29_0l72) (w6 (ybs7_0l42 + e40.2.2.1))).2.1.2.2.2.2)] : List (JJ))) (rnS (ybs7_0l72, ybs7_1l72, yown27_0l72, yown28_0l72, yown29_0l72) (w6 (ybs7_0l42 + e40.2.2.1))).1.1 (rnS (ybs7_0l72, ybs7_1l72, yown27_0l72, yown28_0l72, yown29_0l72) (w6 (ybs7_0l42 + e40.2.2.1))).1.2.1 (rnS (ybs7_0l72, ybs7_1l72, yown27_0l72, yown28_0l72, yown29_0l72) (w6 (ybs7_0l42 + e40.2.2.1))).1.2.2.2.2 (rnS (ybs7_0l72, ybs7_1l72, yown27_0l72, yown28_0l72, yown29_0l72) (w6 (ybs7_0l42 + e40.2.2.1))).1.2.2.2.1 (rnS (ybs7_0l72, ybs7_1l72, yown27_0l72, yown28_0l72, yown29_0l72) (w6 (ybs7_0l42 + e40.2.2.1))).1.2.2.1) ∧ ((rnS (ybs7_0l72, ybs7_1l72, yown27_0l72, yown28_0l72, yown29_0l72) (w6 (ybs7_0l42 + e40.2.2.1))).2.2 = false → C72 (rnS (ybs7_0l72, ybs7_1l72, yown27_0l72, yown28_0l72, yown29_0l72) (w6 (ybs7_0l42 + e40.2.2.1))).2.2 yown31_0l72 (rnS (ybs7_0l72, ybs7_1l72, yown27_0l72, yown28_0l72, yown29_0l72) (w6 (ybs7_0l42 + e40.2.2.1))).1.1 (rnS (ybs7_0l72, ybs7_1l72, yown27_0l72, yown28_0l72, yown29_0l72) (w6 (ybs7_0l42 + e40.2.2.1))).1.2.1 (rnS (ybs7_0l72, ybs7_1l72, yown27_0l72, yown28_0l72, yown29_0l72) (w6 (ybs7_0l42 + e40.2.2.1))).1.2.2.2.2 (rnS (ybs7_0l72, ybs7_1l72, yown27_0l72, yown28_0l72, yown29_0l72) (w6 (ybs7_0l42 + e40.2.2.1))).1.2.2.2.1 (rnS (ybs7_0l72, ybs7_1l72, yown27_0l72, yown28_0l72, yown29_0l72) (w6 (ybs7_0l42 + e40.2.2.1))).1.2.2.1)) ∧ (((x15l72 && (decide ((yown31_0l72.length : Int) < 300)))) = false → lplj49 ybs7_0l72 ybs7_1l72 x35l42 yown27_0l72 yown28_0l72 yown29_0l72 yown31_0l72 C42)
def lpll72 (x35l42 : Int) (ybs7_0l42 : Int) (C42 : Int → (List (JJ)) → Int → Int → (List (JT)) → (List (JJ)) → (List (JJ)) → Prop) (e40 : Int × Int × Int × Bs × Int × Int × Bs) : Nat → Bool → (List (JJ)) → Int → Int → (List (JT)) → (List (JJ)) → (List (JJ)) → Prop
 | 0, _, _, _, _, _, _, _ => False
 | k + 1, x15l72, yown31_0l72, ybs7_0l72, ybs7_1l72, yown29_0l72, yown28_0l72, yown27_0l72 => lpll72b x35l42 ybs7_0l42 C42 e40 x15l72 yown31_0l72 ybs7_0l72 ybs7_1l72 yown29_0l72 yown28_0l72 yown27_0l72 (lpll72 x35l42 ybs7_0l42 C42 e40 k)
def lpll42b (xasks : List (Int × Int × Int × Bs × Int × Int × Bs)) (K : (List (JJ)) → (JL) → Int → Prop) (x35l42 : Int) (yown31_0l42 : List (JJ)) (ybs7_0l42 : Int) (ybs7_1l42 : Int) (yown29_0l42 : List (JT)) (yown28_0l42 : List (JJ)) (yown27_0l42 : List (JJ)) (C42 : Int → (List (JJ)) → Int → Int → (List (JT)) → (List (JJ)) → (List (JJ)) → Prop) : Prop :=
 ((decide (x35l42 < (xasks.length : Int))) = true → (0 : Int) ≤ x35l42 ∧ Int.toNat x35l42 < xasks.length ∧ ((((xasks.getD (Int.toNat x35l42) default).1 != 6)) = true → lasP (ybs7_0l42, ybs7_1l42, yown27_0l42, yown28_0l42, yown29_0l42) (xasks.getD (Int.toNat x35l42) default) ∧ ((((lasS (ybs7_0l42, ybs7_1l42, yown27_0l42, yown28_0l42, yown29_0l42) (xasks.getD (Int.toNat x35l42) default)).2.2 == 0)) = true → lplj57 xasks x35l42 ybs7_0l42 ybs7_1l42 yown31_0l42 yown29_0l42 yown28_0l42 yown27_0l42 C42) ∧ ((((lasS (ybs7_0l42, ybs7_1l42, yown27_0l42, yown28_0l42, yown29_0l42) (xasks.getD (Int.toNat x35l42) default)).2.2 == 0)) = false → lplj57 xasks x35l42 ybs7_0l42 ybs7_1l42 yown31_0l42 yown29_0l42 yown28_0l42 yown27_0l42 C42)) ∧ ((((xasks.getD (Int.toNat x35l42) default).1 != 6)) = false → ∃ k, lpll72 x35l42 ybs7_0l42 C42 (xasks.getD (Int.toNat x35l42) default) k ((lwiM (xasks.getD (Int.toNat x35l42) default).2.2.1 0 1000000) && (decide ((w6 (ybs7_0l42 + (xasks.getD (Int.toNat x35l42) default).2.2.1)) ≤ 1000000000))) yown31_0l42 ybs7_0l42 ybs7_1l42 yown29_0l42 yown28_0l42 yown27_0l42)) ∧ ((decide (x35l42 < (xasks.length : Int))) = false → K yown31_0l42 (ybs7_0l42, ybs7_1l42, yown27_0l42, yown28_0l42, yown29_0l42) 0)
def lpll42 (xasks : List (Int × Int × Int × Bs × Int × Int × Bs)) (K : (List (JJ)) → (JL) → Int → Prop) : Nat → Int → (List (JJ)) → Int → Int → (List (JT)) → (List (JJ)) → (List (JJ)) → Prop
 | 0, _, _, _, _, _, _, _ => False
 | k + 1, x35l42, yown31_0l42, ybs7_0l42, ybs7_1l42, yown29_0l42, yown28_0l42, yown27_0l42 => lpll42b xasks K x35l42 yown31_0l42 ybs7_0l42 ybs7_1l42 yown29_0l42 yown28_0l42 yown27_0l42 (lpll42 xasks K k)
def lpll15b (xasks : List (Int × Int × Int × Bs × Int × Int × Bs)) (K : (List (JJ)) → (JL) → Int → Prop) (x23l15 : Int) (C15 : Int → Prop) : Prop :=
 ((decide (x23l15 < (xasks.length : Int))) = true → (0 : Int) ≤ x23l15 ∧ Int.toNat x23l15 < xasks.length ∧ ((!(lwiM (xasks.getD (Int.toNat x23l15) default).1 1 6)) = true → K ([] : List (JJ)) (0, 0, ([] : List (JJ)), ([] : List (JJ)), ([] : List (JT))) 3) ∧ ((!(lwiM (xasks.getD (Int.toNat x23l15) default).1 1 6)) = false → C15 (w6 (x23l15 + 1)))) ∧ ((decide (x23l15 < (xasks.length : Int))) = false → ∃ k, lpll42 xasks K k 0 ([] : List (JJ)) 0 0 ([] : List (JT)) ([] : List (JJ)) ([] : List (JJ)))
def lpll15 (xasks : List (Int × Int × Int × Bs × Int × Int × Bs)) (K : (List (JJ)) → (JL) → Int → Prop) : Nat → Int → Prop
 | 0, _ => False
 | k + 1, x23l15 => lpll15b xasks K x23l15 (lpll15 xasks K k)
def lplF (xasks : List (Int × Int × Int × Bs × Int × Int × Bs)) (K : (List (JJ)) → (JL) → Int → Prop) : Prop :=
 ((decide ((xasks.length : Int) > 200)) = true → K ([] : List (JJ)) (0, 0, ([] : List (JJ)), ([] : List (JJ)), ([] : List (JT))) 2) ∧ ((decide ((xasks.length : Int) > 200)) = false → ∃ k, lpll15 xasks K k 0)
theorem lpl_ok {g : Ghost} {axasks_0 : Option Addr} {cxasks_0 : Nat} (xasks : List (Int × Int × Int × Bs × Int × Int × Bs)) (hRxasks_0 : Rep g (.slice (.pair (.int .i64) (.pair (.int .i64) (.pair (.int .i64) (.pair (.str) (.pair (.int .i64) (.pair (.int .i64) (.str)))))))) [.slice axasks_0 xasks.length cxasks_0] xasks) (K : (List (JJ)) → (JL) → Int → Prop)
  (hF : lplF xasks K) : CallsH Try.prog 19 #[.slice axasks_0 xasks.length cxasks_0] g [] (fun g' H' v => ∃ (r0 : List (JJ)), ∃ (r1 : JL), ∃ (r2 : Int), ∃ (ar0_0 : Option Addr) (cr0_0 : Nat), ∃ (ar1_0 : Option Addr) (cr1_0 : Nat), ∃ (ar1_1 : Option Addr) (cr1_1 : Nat), ∃ (ar1_2 : Option Addr) (cr1_2 : Nat), v = .tuple #[.slice ar0_0 r0.length cr0_0, .agg #[.int .i64 r1.1, .int .i64 r1.2.1, .slice ar1_0 r1.2.2.1.length cr1_0, .slice ar1_1 r1.2.2.2.1.length cr1_1, .slice ar1_2 r1.2.2.2.2.length cr1_2], .int .i64 r2] ∧ Rep g' (.slice (.pair (.int .i64) (.pair (.int .i64) (.pair (.bool) (.pair (.str) (.pair (.int .i64) (.pair (.int .i64) (.str)))))))) [.slice ar0_0 r0.length cr0_0] r0 ∧ Rep g' (.slice (.pair (.int .i64) (.pair (.int .i64) (.pair (.bool) (.pair (.str) (.pair (.int .i64) (.pair (.int .i64) (.str)))))))) [.slice ar1_0 r1.2.2.1.length cr1_0] r1.2.2.1 ∧ Rep g' (.slice (.pair (.int .i64) (.pair (.int .i64) (.pair (.bool) (.pair (.str) (.pair (.int .i64) (.pair (.int .i64) (.str)))))))) [.slice ar1_1 r1.2.2.2.1.length cr1_1] r1.2.2.2.1 ∧ Rep g' (.slice (.pair (.int .i64) (.pair (.int .i64) (.pair (.int .i64) (.pair (.int .i64) (.str)))))) [.slice ar1_2 r1.2.2.2.2.length cr1_2] r1.2.2.2.2 ∧ H' = [] ∧ K r0 r1 r2) := by
 refine CallsH.enter 85 [(0, .slice axasks_0 xasks.length cxasks_0)] Try.func19 rfl (by kernel_rfl) (by kernel_rfl) (by kernel_rfl) fun w0 => ?_
 refine Ok.seq (Ok.region (Ok.batch 1 [(0, .slice axasks_0 xasks.length cxasks_0)] (by kernel_rfl) ?_))
 have hL1 : RepL g (.pair (.int .i64) (.pair (.int .i64) (.pair (.bool) (.pair (.str) (.pair (.int .i64) (.pair (.int .i64) (.str))))))) [] [] := rfl
 refine Ok.ownNil 43 7 ?_
 have hL2 : RepL g (.pair (.int .i64) (.pair (.int .i64) (.pair (.bool) (.pair (.str) (.pair (.int .i64) (.pair (.int .i64) (.str))))))) [] [] := rfl
 refine Ok.ownNil 43 7 ?_
 have hL3 : RepL g (.pair (.int .i64) (.pair (.int .i64) (.pair (.int .i64) (.pair (.int .i64) (.str))))) [] [] := rfl
 refine Ok.ownNil 93 5 (Ok.op rfl (OpOk.alloc (z := .agg #[.int .i64 0, .int .i64 0, .slice none ([] : List (JJ)).length 0, .slice none ([] : List (JJ)).length 0, .slice none ([] : List (JT)).length 0]) (cs := #[.int .i64 0, .int .i64 0, .slice none ([] : List (JJ)).length 0, .slice none ([] : List (JJ)).length 0, .slice none ([] : List (JT)).length 0]) (by kernel_rfl) (by kernel_rfl) rfl fun bs3 => ?_))
 refine Ok.bat 1 [0] [(3, pv bs3 0)] ?_
 refine Ok.nil (Ok.thenN (Ok.seq (Ok.seq (Ok.region (Ok.bat 3 [0, 3] [(19, .bool (decide ((xasks.length : Int) > 200)))] ?_)))))
 refine Ok.nil (Ok.thenN (Ok.cond (b := decide ((xasks.length : Int) > 200)) rfl (fun hc5 => ?_) (fun hc5 => ?_)))
 ·replace hF := hF.1 hc5
  refine Ok.seq (Ok.region (Ok.bat 2 [3] [(2, .slice none 0 0), (20, .agg #[.int .i64 0, .int .i64 0, .slice none 0 0, .slice none 0 0, .slice none 0 0])] ?_))
  have hL6 : RepL g (.pair (.int .i64) (.pair (.int .i64) (.pair (.bool) (.pair (.str) (.pair (.int .i64) (.pair (.int .i64) (.str))))))) [] [] := rfl
  refine Ok.ownNil 43 7 ?_
  have hL7 : RepL g (.pair (.int .i64) (.pair (.int .i64) (.pair (.bool) (.pair (.str) (.pair (.int .i64) (.pair (.int .i64) (.str))))))) [] [] := rfl
  refine Ok.ownNil 43 7 ?_
  have hL8 : RepL g (.pair (.int .i64) (.pair (.int .i64) (.pair (.bool) (.pair (.str) (.pair (.int .i64) (.pair (.int .i64) (.str))))))) [] [] := rfl
  refine Ok.ownNil 43 7 ?_
  have hL9 : RepL g (.pair (.int .i64) (.pair (.int .i64) (.pair (.int .i64) (.pair (.int .i64) (.str))))) [] [] := rfl
  refine Ok.ownNil 93 5 (Ok.op rfl (OpOk.sto (k := 5) (v := .agg #[.int .i64 0, .int .i64 0, .slice none ([] : List (JJ)).length 0, .slice none ([] : List (JJ)).length 0, .slice none ([] : List (JT)).length 0]) 4 #[.int .i64 0, .int .i64 0, .slice none ([] : List (JJ)).length 0, .slice none ([] : List (JJ)).length 0, .slice none ([] : List (JT)).length 0] rfl rfl rfl ?_))
  refine Ok.bat 1 [3] [(2, .slice none ([] : List (JJ)).length 0), (4, .int .i64 2)] ?_
  refine Ok.nil (Ok.thenN (Ok.ret (Ok.thenR (Ok.frz 3 rfl hL6 fun g10 hx10 hRf10 => ?_))))
  replace hL9 := hL9.mono hx10.1
  replace hL8 := hL8.mono hx10.1
  replace hL7 := hL7.mono hx10.1
  replace hL3 := hL3.mono hx10.1
  replace hL2 := hL2.mono hx10.1
  replace hL1 := hL1.mono hx10.1
  refine Ok.frz 2 rfl hL7 fun g11 hx11 hRf11 => ?_
  replace hRf10 := hRf10.mono hx11.1
  replace hL9 := hL9.mono hx11.1
  replace hL8 := hL8.mono hx11.1
  replace hL3 := hL3.mono hx11.1
  replace hL2 := hL2.mono hx11.1
  replace hL1 := hL1.mono hx11.1
  refine Ok.frz 1 rfl hL8 fun g12 hx12 hRf12 => ?_
  replace hRf10 := hRf10.mono hx12.1
  replace hL9 := hL9.mono hx12.1
  replace hRf11 := hRf11.mono hx12.1
  replace hL3 := hL3.mono hx12.1
  replace hL2 := hL2.mono hx12.1
  replace hL1 := hL1.mono hx12.1
  refine Ok.frz 0 rfl hL9 fun g13 hx13 hRf13 => ?_
  replace hRf10 := hRf10.mono hx13.1
  replace hRf11 := hRf11.mono hx13.1
  replace hRf12 := hRf12.mono hx13.1
  replace hL3 := hL3.mono hx13.1
  replace hL2 := hL2.mono hx13.1
  replace hL1 := hL1.mono hx13.1
  exact Ok.resP (vs := [.slice none ([] : List (JJ)).length 0, .agg #[.int .i64 0, .int .i64 0, .slice none ([] : List (JJ)).length 0, .slice none ([] : List (JJ)).length 0, .slice none ([] : List (JT)).length 0], .int .i64 2]) [] [] (by decide) rfl (.inl rfl) rfl (.cons (.tmp rfl) (.cons (.cellAgg 0 5 #[.int .i64 0, .int .i64 0, .slice none ([] : List (JJ)).length 0, .slice none ([] : List (JJ)).length 0, .slice none ([] : List (JT)).length 0] rfl rfl Try.underlying37 rfl (by kernel_rfl) (by kernel_rfl) (by kernel_rfl)) (.cons (.tmp rfl) .nil))) (((hx10.trans hx11).trans hx12).trans hx13) ⟨([] : List (JJ)), (0, 0, ([] : List (JJ)), ([] : List (JJ)), ([] : List (JT))), 2, none, 0, none, 0, none, 0, none, 0, rfl, hRf10, hRf11, hRf12, hRf13, rfl, hF⟩
 ·replace hF := hF.2 hc5
  refine Ok.skip (Ok.thenN (Ok.seq (Ok.seq (Ok.region (Ok.bat 3 [0, 3] [(21, .slice axasks_0 xasks.length cxasks_0), (22, .int .i64 (xasks.length : Int)), (23, .int .i64 0)] ?_)))))
  refine Ok.nil (Ok.thenN (Ok.block ?_))
  obtain ⟨k, hF⟩ := hF
  refine Ok.loop (fun k a W => ∃ gl15 : Ghost, Gext w0 g gl15 ∧ ∃ (x23l15 : Int), StA 85 [(0, .slice axasks_0 xasks.length cxasks_0), (3, pv bs3 0), (21, .slice axasks_0 xasks.length cxasks_0), (22, .int .i64 (xasks.length : Int)), (23, .int .i64 x23l15)] a ∧ StW w0 [.blk bs3 (.cells #[.int .i64 0, .int .i64 0, .slice none ([] : List (JJ)).length 0, .slice none ([] : List (JJ)).length 0, .slice none ([] : List (JT)).length 0] 37), .own (.slice none ([] : List (JT)).length 0) 93 5 ([] : List (JT)).length ([]), .own (.slice none ([] : List (JJ)).length 0) 43 7 ([] : List (JJ)).length ([]), .own (.slice none ([] : List (JJ)).length 0) 43 7 ([] : List (JJ)).length ([])] gl15 W ∧ lpll15 xasks K k x23l15) k ?_ ?_
  ·
   exact fun a W hA hW => ⟨g, (Gext.refl w0 g), 0, hA.sub (by kernel_rfl), hW, hF⟩
  ·
   clear hF
   rintro k15 a W ⟨gl15, hxl15, x23l15, hA, hW, hF⟩
   cases k15 with
   | zero => exact (hF : False).elim
   | succ k15 =>
    refine (?_ : Ok _ _ _ _ _ _) a W hA hW
    clear hA hW
    replace hRxasks_0 := hRxasks_0.mono hxl15.1
    replace hL1 := hL1.mono hxl15.1
    replace hL2 := hL2.mono hxl15.1
    replace hL3 := hL3.mono hxl15.1
    refine Ok.seq (Ok.region (Ok.bat 1 [0, 3, 21, 22, 23] [(24, .bool (decide (x23l15 < (xasks.length : Int))))] ?_))
    refine Ok.nil (Ok.thenN (Ok.seq (Ok.cond (b := decide (x23l15 < (xasks.length : Int))) rfl (fun hc14 => ?_) (fun hc14 => ?_))))
    ·replace hF := hF.1 hc14
     refine Ok.skip (Ok.thenN (Ok.seq (Ok.block (Ok.seq (Ok.region ?_)))))
     obtain ⟨h016, h116, hF⟩ := hF
     have he16 := get_of (l := xasks) (default : Int × Int × Int × Bs × Int × Int × Bs) h116
     generalize hg16 : (xasks.getD (Int.toNat x23l15) default) = e16 at he16 hF ⊢
     refine Ok.op rfl (OpOk.indexRo (e := .pair (.int .i64) (.pair (.int .i64) (.pair (.int .i64) (.pair (.str) (.pair (.int .i64) (.pair (.int .i64) (.str))))))) (i := x23l15) (el := e16) rfl rfl Try.underlying52 (by kernel_rfl) hRxasks_0 h016 he16 rfl fun q15 o15 cs15 _ hat15 hr15 => ?_)
     obtain ⟨_, _, rfl, rfl, ⟨_, _, rfl, rfl, ⟨_, _, rfl, rfl, ⟨_, _, rfl, rfl, ⟨_, _, rfl, rfl, ⟨_, _, rfl, rfl, rfl⟩⟩⟩⟩⟩⟩ := hr15
     replace hat15 : At gl15 q15 o15 [.int .i64 e16.1, .int .i64 e16.2.1, .int .i64 e16.2.2.1, sv e16.2.2.2.1, .int .i64 e16.2.2.2.2.1, .int .i64 e16.2.2.2.2.2.1, sv e16.2.2.2.2.2.2] := hat15
     refine Ok.op rfl (OpOk.step (v := .agg #[.int .i64 e16.1, .int .i64 e16.2.1, .int .i64 e16.2.2.1, sv e16.2.2.2.1, .int .i64 e16.2.2.2.2.1, .int .i64 e16.2.2.2.2.2.1, sv e16.2.2.2.2.2.2]) (Yields.loadAggRo 0 7 #[.int .i64 e16.1, .int .i64 e16.2.1, .int .i64 e16.2.2.1, sv e16.2.2.2.1, .int .i64 e16.2.2.2.2.1, .int .i64 e16.2.2.2.2.2.1, sv e16.2.2.2.2.2.2] hat15 (by kernel_rfl) Try.underlying39 rfl (by kernel_rfl) (by kernel_rfl) (by kernel_rfl)) rfl rfl (Ok.op rfl (OpOk.alloc (z := .agg #[.int .i64 0, .int .i64 0, .int .i64 0, sv ([] : Bs), .int .i64 0, .int .i64 0, sv ([] : Bs)]) (cs := #[.int .i64 0, .int .i64 0, .int .i64 0, sv ([] : Bs), .int .i64 0, .int .i64 0, sv ([] : Bs)]) (by kernel_rfl) (by kernel_rfl) rfl fun bs6 => ?_)))
     refine Ok.op rfl (OpOk.sto (k := 7) (v := .agg #[.int .i64 e16.1, .int .i64 e16.2.1, .int .i64 e16.2.2.1, sv e16.2.2.2.1, .int .i64 e16.2.2.2.2.1, .int .i64 e16.2.2.2.2.2.1, sv e16.2.2.2.2.2.2]) 0 #[.int .i64 e16.1, .int .i64 e16.2.1, .int .i64 e16.2.2.1, sv e16.2.2.2.1, .int .i64 e16.2.2.2.2.1, .int .i64 e16.2.2.2.2.2.1, sv e16.2.2.2.2.2.2] rfl rfl rfl ?_)
     refine Ok.nil (Ok.thenN (Ok.seq (Ok.region (Ok.bat 1 [0, 3, 21, 22, 23] [(27, pv bs6 0)] ?_))))
     refine Ok.op rfl (OpOk.step (v := .int .i64 e16.1) (Yields.load 0 rfl rfl Try.underlying3 rfl (by kernel_rfl)) rfl rfl (Ok.op rfl (OpOk.callG (v := .bool (lwiM e16.1 1 6)) enr (fun W hW => lwi_c e16.1 1 6) rfl ?_)))
     refine Ok.bat 1 [0, 3, 21, 22, 23] [(30, .bool (!(lwiM e16.1 1 6)))] ?_
     refine Ok.nil (Ok.thenN (Ok.cond (b := !(lwiM e16.1 1 6)) rfl (fun hc18 => ?_) (fun hc18 => ?_)))
     ·replace hF := hF.1 hc18
      refine Ok.seq (Ok.region (Ok.bat 2 [3] [(2, .slice none 0 0), (31, .agg #[.int .i64 0, .int .i64 0, .slice none 0 0, .slice none 0 0, .slice none 0 0])] ?_))
      have hL19 : RepL gl15 (.pair (.int .i64) (.pair (.int .i64) (.pair (.bool) (.pair (.str) (.pair (.int .i64) (.pair (.int .i64) (.str))))))) [] [] := rfl
      refine Ok.ownNil 43 7 ?_
      have hL20 : RepL gl15 (.pair (.int .i64) (.pair (.int .i64) (.pair (.bool) (.pair (.str) (.pair (.int .i64) (.pair (.int .i64) (.str))))))) [] [] := rfl
      refine Ok.ownNil 43 7 ?_
      have hL21 : RepL gl15 (.pair (.int .i64) (.pair (.int .i64) (.pair (.bool) (.pair (.str) (.pair (.int .i64) (.pair (.int .i64) (.str))))))) [] [] := rfl
      refine Ok.ownNil 43 7 ?_
      have hL22 : RepL gl15 (.pair (.int .i64) (.pair (.int .i64) (.pair (.int .i64) (.pair (.int .i64) (.str))))) [] [] := rfl
      refine Ok.ownNil 93 5 (Ok.op rfl (OpOk.sto (k := 5) (v := .agg #[.int .i64 0, .int .i64 0, .slice none ([] : List (JJ)).length 0, .slice none ([] : List (JJ)).length 0, .slice none ([] : List (JT)).length 0]) 5 #[.int .i64 0, .int .i64 0, .slice none ([] : List (JJ)).length 0, .slice none ([] : List (JJ)).length 0, .slice none ([] : List (JT)).length 0] rfl rfl rfl ?_))
      refine Ok.bat 1 [3] [(2, .slice none ([] : List (JJ)).length 0), (4, .int .i64 3)] ?_
      refine Ok.nil (Ok.thenN (Ok.ret (Ok.blockR (Ok.thenR (Ok.thenR (Ok.blockR (Ok.thenR (Ok.frz 3 rfl hL19 fun g23 hx23 hRf23 => ?_))))))))
      replace hL22 := hL22.mono hx23.1
      replace hL21 := hL21.mono hx23.1
      replace hL20 := hL20.mono hx23.1
      replace hL3 := hL3.mono hx23.1
      replace hL2 := hL2.mono hx23.1
      replace hL1 := hL1.mono hx23.1
      refine Ok.frz 2 rfl hL20 fun g24 hx24 hRf24 => ?_
      replace hRf23 := hRf23.mono hx24.1
      replace hL22 := hL22.mono hx24.1
      replace hL21 := hL21.mono hx24.1
      replace hL3 := hL3.mono hx24.1
      replace hL2 := hL2.mono hx24.1
      replace hL1 := hL1.mono hx24.1
      refine Ok.frz 1 rfl hL21 fun g25 hx25 hRf25 => ?_
      replace hRf23 := hRf23.mono hx25.1
      replace hL22 := hL22.mono hx25.1
      replace hRf24 := hRf24.mono hx25.1
      replace hL3 := hL3.mono hx25.1
      replace hL2 := hL2.mono hx25.1
      replace hL1 := hL1.mono hx25.1
      refine Ok.frz 0 rfl hL22 fun g26 hx26 hRf26 => ?_
      replace hRf23 := hRf23.mono hx26.1
      replace hRf24 := hRf24.mono hx26.1
      replace hRf25 := hRf25.mono hx26.1
      replace hL3 := hL3.mono hx26.1
      replace hL2 := hL2.mono hx26.1
      replace hL1 := hL1.mono hx26.1
      exact Ok.resP (vs := [.slice none ([] : List (JJ)).length 0, .agg #[.int .i64 0, .int .i64 0, .slice none ([] : List (JJ)).length 0, .slice none ([] : List (JJ)).length 0, .slice none ([] : List (JT)).length 0], .int .i64 3]) [] [] (by decide) rfl (.inl rfl) rfl (.cons (.tmp rfl) (.cons (.cellAgg 1 5 #[.int .i64 0, .int .i64 0, .slice none ([] : List (JJ)).length 0, .slice none ([] : List (JJ)).length 0, .slice none ([] : List (JT)).length 0] rfl rfl Try.underlying37 rfl (by kernel_rfl) (by kernel_rfl) (by kernel_rfl)) (.cons (.tmp rfl) .nil))) ((((hxl15.trans hx23).trans hx24).trans hx25).trans hx26) ⟨([] : List (JJ)), (0, 0, ([] : List (JJ)), ([] : List (JJ)), ([] : List (JT))), 3, none, 0, none, 0, none, 0, none, 0, rfl, hRf23, hRf24, hRf25, hRf26, rfl, hF⟩
     ·replace hF := hF.2 hc18
      refine Ok.skip (Ok.blockN (Ok.thenN (Ok.region (Ok.bat 2 [0, 3, 21, 22] [(23, .int .i64 (w6 (x23l15 + 1)))] ?_))))
      refine Ok.nil (Ok.thenN ?_)
      subst hg16
      exact fun a W hA hW => ⟨k15, Nat.lt_succ_self _, gl15, hxl15, w6 (x23l15 + 1), hA.sub (by kernel_rfl), hW.sub (.cons _ (.cons_cons _ (.cons_cons _ (.cons_cons _ (.cons_cons _ .slnil))))), hF⟩
    ·replace hF := hF.2 hc14
     refine Ok.exit (Ok.thenE (Ok.thenE (Ok.blockHit (Ok.thenN (Ok.seq (Ok.region ?_))))))
     have hL27 : RepL gl15 (.pair (.int .i64) (.pair (.int .i64) (.pair (.bool) (.pair (.str) (.pair (.int .i64) (.pair (.int .i64) (.str))))))) [] [] := rfl
     refine Ok.ownNil 43 7 ?_
     have hL28 : RepL gl15 (.pair (.int .i64) (.pair (.int .i64) (.pair (.bool) (.pair (.str) (.pair (.int .i64) (.pair (.int .i64) (.str))))))) [] [] := rfl
     refine Ok.ownNil 43 7 ?_
     have hL29 : RepL gl15 (.pair (.int .i64) (.pair (.int .i64) (.pair (.int .i64) (.pair (.int .i64) (.str))))) [] [] := rfl
     refine Ok.ownNil 93 5 (Ok.op rfl (OpOk.alloc (z := .agg #[.int .i64 0, .int .i64 0, .slice none ([] : List (JJ)).length 0, .slice none ([] : List (JJ)).length 0, .slice none ([] : List (JT)).length 0]) (cs := #[.int .i64 0, .int .i64 0, .slice none ([] : List (JJ)).length 0, .slice none ([] : List (JJ)).length 0, .slice none ([] : List (JT)).length 0]) (by kernel_rfl) (by kernel_rfl) rfl fun bs7 => ?_))
     refine Ok.nil (Ok.thenN (Ok.seq (Ok.region (Ok.bat 1 [0, 3] [(7, pv bs7 0), (8, .slice none 0 0)] ?_))))
     have hL31 : RepL gl15 (.pair (.int .i64) (.pair (.int .i64) (.pair (.bool) (.pair (.str) (.pair (.int .i64) (.pair (.int .i64) (.str))))))) [] [] := rfl
     refine Ok.ownNil 43 7 (Ok.nil (Ok.thenN (Ok.seq (Ok.seq (Ok.region (Ok.bat 3 [3, 7] [(8, .slice none ([] : List (JJ)).length 0), (33, .slice axasks_0 xasks.length cxasks_0), (34, .int .i64 (xasks.length : Int)), (35, .int .i64 0)] ?_))))))
     refine Ok.nil (Ok.thenN (Ok.block ?_))
     obtain ⟨k, hF⟩ := hF
     refine Ok.loop (fun k a W => ∃ gl42 : Ghost, Gext w0 gl15 gl42 ∧ ∃ (x35l42 : Int) (ayown31_0l42 : Option Addr) (cyown31_0l42 : Nat) (yown31_0l42 : List (JJ)) (xsyown31_0l42 : List Value) (ybs7_0l42 : Int) (ybs7_1l42 : Int) (ayown29_0l42 : Option Addr) (cyown29_0l42 : Nat) (yown29_0l42 : List (JT)) (xsyown29_0l42 : List Value) (ayown28_0l42 : Option Addr) (cyown28_0l42 : Nat) (yown28_0l42 : List (JJ)) (xsyown28_0l42 : List Value) (ayown27_0l42 : Option Addr) (cyown27_0l42 : Nat) (yown27_0l42 : List (JJ)) (xsyown27_0l42 : List Value), RepL gl42 (.pair (.int .i64) (.pair (.int .i64) (.pair (.bool) (.pair (.str) (.pair (.int .i64) (.pair (.int .i64) (.str))))))) xsyown31_0l42 yown31_0l42 ∧ RepL gl42 (.pair (.int .i64) (.pair (.int .i64) (.pair (.int .i64) (.pair (.int .i64) (.str))))) xsyown29_0l42 yown29_0l42 ∧ RepL gl42 (.pair (.int .i64) (.pair (.int .i64) (.pair (.bool) (.pair (.str) (.pair (.int .i64) (.pair (.int .i64) (.str))))))) xsyown28_0l42 yown28_0l42 ∧ RepL gl42 (.pair (.int .i64) (.pair (.int .i64) (.pair (.bool) (.pair (.str) (.pair (.int .i64) (.pair (.int .i64) (.str))))))) xsyown27_0l42 yown27_0l42 ∧ StA 85 [(3, pv bs3 0), (7, pv bs7 0), (8, .slice ayown31_0l42 yown31_0l42.length cyown31_0l42), (33, .slice axasks_0 xasks.length cxasks_0), (34, .int .i64 (xasks.length : Int)), (35, .int .i64 x35l42)] a ∧ StW w0 [.own (.slice ayown31_0l42 yown31_0l42.length cyown31_0l42) 43 7 yown31_0l42.length xsyown31_0l42, .blk bs7 (.cells #[.int .i64 ybs7_0l42, .int .i64 ybs7_1l42, .slice ayown27_0l42 yown27_0l42.length cyown27_0l42, .slice ayown28_0l42 yown28_0l42.length cyown28_0l42, .slice ayown29_0l42 yown29_0l42.length cyown29_0l42] 37), .own (.slice ayown29_0l42 yown29_0l42.length cyown29_0l42) 93 5 yown29_0l42.length xsyown29_0l42, .own (.slice ayown28_0l42 yown28_0l42.length cyown28_0l42) 43 7 yown28_0l42.length xsyown28_0l42, .own (.slice ayown27_0l42 yown27_0l42.length cyown27_0l42) 43 7 yown27_0l42.length xsyown27_0l42, .blk bs3 (.cells #[.int .i64 0, .int .i64 0, .slice none ([] : List (JJ)).length 0, .slice none ([] : List (JJ)).length 0, .slice none ([] : List (JT)).length 0] 37), .own (.slice none ([] : List (JT)).length 0) 93 5 ([] : List (JT)).length ([]), .own (.slice none ([] : List (JJ)).length 0) 43 7 ([] : List (JJ)).length ([]), .own (.slice none ([] : List (JJ)).length 0) 43 7 ([] : List (JJ)).length ([])] gl42 W ∧ lpll42 xasks K k x35l42 yown31_0l42 ybs7_0l42 ybs7_1l42 yown29_0l42 yown28_0l42 yown27_0l42) k ?_ ?_
     ·
      exact fun a W hA hW => ⟨gl15, (Gext.refl w0 gl15), 0, none, 0, ([] : List (JJ)), [], 0, 0, none, 0, ([] : List (JT)), [], none, 0, ([] : List (JJ)), [], none, 0, ([] : List (JJ)), [], hL31, hL29, hL28, hL27, hA.sub (by kernel_rfl), hW, hF⟩
     ·
      clear hF
      rintro k42 a W ⟨gl42, hxl42, x35l42, ayown31_0l42, cyown31_0l42, yown31_0l42, xsyown31_0l42, ybs7_0l42, ybs7_1l42, ayown29_0l42, cyown29_0l42, yown29_0l42, xsyown29_0l42, ayown28_0l42, cyown28_0l42, yown28_0l42, xsyown28_0l42, ayown27_0l42, cyown27_0l42, yown27_0l42, xsyown27_0l42, hLyown31_0l42, hLyown29_0l42, hLyown28_0l42, hLyown27_0l42, hA, hW, hF⟩
      cases k42 with
      | zero => exact (hF : False).elim
      | succ k42 =>
       refine (?_ : Ok _ _ _ _ _ _) a W hA hW
       clear hA hW
       replace hRxasks_0 := hRxasks_0.mono hxl42.1
       replace hL1 := hL1.mono hxl42.1
       replace hL2 := hL2.mono hxl42.1
       replace hL3 := hL3.mono hxl42.1
       refine Ok.seq (Ok.region (Ok.bat 1 [3, 7, 8, 33, 34, 35] [(36, .bool (decide (x35l42 < (xasks.length : Int))))] ?_))
       refine Ok.nil (Ok.thenN (Ok.seq (Ok.cond (b := decide (x35l42 < (xasks.length : Int))) rfl (fun hc32 => ?_) (fun hc32 => ?_))))
       ·replace hF := hF.1 hc32
        refine Ok.skip (Ok.thenN (Ok.cut (fun a W => ∃ gj49 : Ghost, Gext w0 gl42 gj49 ∧ ∃ (ayown38_0_0j49 : Option Addr) (cyown38_0_0j49 : Nat) (yown38_0_0j49 : List (JJ)) (xsyown38_0_0j49 : List Value) (ayown38_1_0j49 : Option Addr) (cyown38_1_0j49 : Nat) (yown38_1_0j49 : List (JJ)) (xsyown38_1_0j49 : List Value) (ayown38_2_0j49 : Option Addr) (cyown38_2_0j49 : Nat) (yown38_2_0j49 : List (JT)) (xsyown38_2_0j49 : List Value) (ayown31_0j49 : Option Addr) (cyown31_0j49 : Nat) (yown31_0j49 : List (JJ)) (xsyown31_0j49 : List Value) (ybs7_0j49 : Int) (ybs7_1j49 : Int), RepL gj49 (.pair (.int .i64) (.pair (.int .i64) (.pair (.bool) (.pair (.str) (.pair (.int .i64) (.pair (.int .i64) (.str))))))) xsyown38_0_0j49 yown38_0_0j49 ∧ RepL gj49 (.pair (.int .i64) (.pair (.int .i64) (.pair (.bool) (.pair (.str) (.pair (.int .i64) (.pair (.int .i64) (.str))))))) xsyown38_1_0j49 yown38_1_0j49 ∧ RepL gj49 (.pair (.int .i64) (.pair (.int .i64) (.pair (.int .i64) (.pair (.int .i64) (.str))))) xsyown38_2_0j49 yown38_2_0j49 ∧ RepL gj49 (.pair (.int .i64) (.pair (.int .i64) (.pair (.bool) (.pair (.str) (.pair (.int .i64) (.pair (.int .i64) (.str))))))) xsyown31_0j49 yown31_0j49 ∧ StA 85 [(3, pv bs3 0), (7, pv bs7 0), (8, .slice ayown31_0j49 yown31_0j49.length cyown31_0j49), (33, .slice axasks_0 xasks.length cxasks_0), (34, .int .i64 (xasks.length : Int)), (35, .int .i64 x35l42)] a ∧ StW w0 [.own (.slice ayown38_0_0j49 yown38_0_0j49.length cyown38_0_0j49) 43 7 yown38_0_0j49.length xsyown38_0_0j49, .own (.slice ayown38_1_0j49 yown38_1_0j49.length cyown38_1_0j49) 43 7 yown38_1_0j49.length xsyown38_1_0j49, .own (.slice ayown38_2_0j49 yown38_2_0j49.length cyown38_2_0j49) 93 5 yown38_2_0j49.length xsyown38_2_0j49, .own (.slice ayown31_0j49 yown31_0j49.length cyown31_0j49) 43 7 yown31_0j49.length xsyown31_0j49, .blk bs7 (.cells #[.int .i64 ybs7_0j49, .int .i64 ybs7_1j49, .slice ayown38_0_0j49 yown38_0_0j49.length cyown38_0_0j49, .slice ayown38_1_0j49 yown38_1_0j49.length cyown38_1_0j49, .slice ayown38_2_0j49 yown38_2_0j49.length cyown38_2_0j49] 37), .blk bs3 (.cells #[.int .i64 0, .int .i64 0, .slice none ([] : List (JJ)).length 0, .slice none ([] : List (JJ)).length 0, .slice none ([] : List (JT)).length 0] 37), .own (.slice none ([] : List (JT)).length 0) 93 5 ([] : List (JT)).length ([]), .own (.slice none ([] : List (JJ)).length 0) 43 7 ([] : List (JJ)).length ([]), .own (.slice none ([] : List (JJ)).length 0) 43 7 ([] : List (JJ)).length ([])] gj49 W ∧ lplj49 ybs7_0j49 ybs7_1j49 x35l42 yown38_0_0j49 yown38_1_0j49 yown38_2_0j49 yown31_0j49 (lpll42 xasks K k42)) ?_ ?_))
        ·
         refine Ok.block (Ok.seq (Ok.region ?_))
         obtain ⟨h040, h140, hF⟩ := hF
         have he40 := get_of (l := xasks) (default : Int × Int × Int × Bs × Int × Int × Bs) h140
         generalize hg40 : (xasks.getD (Int.toNat x35l42) default) = e40 at he40 hF ⊢
         refine Ok.op rfl (OpOk.indexRo (e := .pair (.int .i64) (.pair (.int .i64) (.pair (.int .i64) (.pair (.str) (.pair (.int .i64) (.pair (.int .i64) (.str))))))) (i := x35l42) (el := e40) rfl rfl Try.underlying52 (by kernel_rfl) hRxasks_0 h040 he40 rfl fun q39 o39 cs39 _ hat39 hr39 => ?_)
         obtain ⟨_, _, rfl, rfl, ⟨_, _, rfl, rfl, ⟨_, _, rfl, rfl, ⟨_, _, rfl, rfl, ⟨_, _, rfl, rfl, ⟨_, _, rfl, rfl, rfl⟩⟩⟩⟩⟩⟩ := hr39
         replace hat39 : At gl42 q39 o39 [.int .i64 e40.1, .int .i64 e40.2.1, .int .i64 e40.2.2.1, sv e40.2.2.2.1, .int .i64 e40.2.2.2.2.1, .int .i64 e40.2.2.2.2.2.1, sv e40.2.2.2.2.2.2] := hat39
         refine Ok.op rfl (OpOk.step (v := .agg #[.int .i64 e40.1, .int .i64 e40.2.1, .int .i64 e40.2.2.1, sv e40.2.2.2.1, .int .i64 e40.2.2.2.2.1, .int .i64 e40.2.2.2.2.2.1, sv e40.2.2.2.2.2.2]) (Yields.loadAggRo 0 7 #[.int .i64 e40.1, .int .i64 e40.2.1, .int .i64 e40.2.2.1, sv e40.2.2.2.1, .int .i64 e40.2.2.2.2.1, .int .i64 e40.2.2.2.2.2.1, sv e40.2.2.2.2.2.2] hat39 (by kernel_rfl) Try.underlying39 rfl (by kernel_rfl) (by kernel_rfl) (by kernel_rfl)) rfl rfl (Ok.op rfl (OpOk.alloc (z := .agg #[.int .i64 0, .int .i64 0, .int .i64 0, sv ([] : Bs), .int .i64 0, .int .i64 0, sv ([] : Bs)]) (cs := #[.int .i64 0, .int .i64 0, .int .i64 0, sv ([] : Bs), .int .i64 0, .int .i64 0, sv ([] : Bs)]) (by kernel_rfl) (by kernel_rfl) rfl fun bs10 => ?_)))
         refine Ok.op rfl (OpOk.sto (k := 7) (v := .agg #[.int .i64 e40.1, .int .i64 e40.2.1, .int .i64 e40.2.2.1, sv e40.2.2.2.1, .int .i64 e40.2.2.2.2.1, .int .i64 e40.2.2.2.2.2.1, sv e40.2.2.2.2.2.2]) 0 #[.int .i64 e40.1, .int .i64 e40.2.1, .int .i64 e40.2.2.1, sv e40.2.2.2.1, .int .i64 e40.2.2.2.2.1, .int .i64 e40.2.2.2.2.2.1, sv e40.2.2.2.2.2.2] rfl rfl rfl ?_)
         refine Ok.nil (Ok.thenN (Ok.seq (Ok.seq (Ok.region (Ok.bat 1 [3, 7, 8, 33, 34, 35] [(10, pv bs10 0), (39, pv bs10 0)] ?_)))))
         refine Ok.op rfl (OpOk.step (v := .int .i64 e40.1) (Yields.load 0 rfl rfl Try.underlying3 rfl (by kernel_rfl)) rfl rfl (Ok.bat 1 [3, 7, 8, 10, 33, 34, 35] [(41, .bool (e40.1 != 6))] ?_))
         refine Ok.nil (Ok.thenN (Ok.cond (b := (e40.1 != 6)) rfl (fun hc42 => ?_) (fun hc42 => ?_)))
         ·replace hF := hF.1 hc42
          refine Ok.cut (fun a W => ∃ gj57 : Ghost, Gext w0 gl42 gj57 ∧ ∃ (ayown44_0_0j57 : Option Addr) (cyown44_0_0j57 : Nat) (xsyown44_0_0j57 : List Value) (ayown44_1_0j57 : Option Addr) (cyown44_1_0j57 : Nat) (xsyown44_1_0j57 : List Value) (ayown44_2_0j57 : Option Addr) (cyown44_2_0j57 : Nat) (xsyown44_2_0j57 : List Value), RepL gj57 (.pair (.int .i64) (.pair (.int .i64) (.pair (.bool) (.pair (.str) (.pair (.int .i64) (.pair (.int .i64) (.str))))))) xsyown44_0_0j57 (lplV20 ybs7_0l42 ybs7_1l42 yown29_0l42 yown28_0l42 yown27_0l42 e40) ∧ RepL gj57 (.pair (.int .i64) (.pair (.int .i64) (.pair (.bool) (.pair (.str) (.pair (.int .i64) (.pair (.int .i64) (.str))))))) xsyown44_1_0j57 (lplV21 ybs7_0l42 ybs7_1l42 yown29_0l42 yown28_0l42 yown27_0l42 e40) ∧ RepL gj57 (.pair (.int .i64) (.pair (.int .i64) (.pair (.int .i64) (.pair (.int .i64) (.str))))) xsyown44_2_0j57 (lplV22 ybs7_0l42 ybs7_1l42 yown29_0l42 yown28_0l42 yown27_0l42 e40) ∧ StA 85 [(3, pv bs3 0), (7, pv bs7 0), (8, .slice ayown31_0l42 yown31_0l42.length cyown31_0l42), (33, .slice axasks_0 xasks.length cxasks_0), (34, .int .i64 (xasks.length : Int)), (35, .int .i64 x35l42)] a ∧ StW w0 [.own (.slice ayown44_0_0j57 (lplV20 ybs7_0l42 ybs7_1l42 yown29_0l42 yown28_0l42 yown27_0l42 e40).length cyown44_0_0j57) 43 7 (lplV20 ybs7_0l42 ybs7_1l42 yown29_0l42 yown28_0l42 yown27_0l42 e40).length xsyown44_0_0j57, .own (.slice ayown44_1_0j57 (lplV21 ybs7_0l42 ybs7_1l42 yown29_0l42 yown28_0l42 yown27_0l42 e40).length cyown44_1_0j57) 43 7 (lplV21 ybs7_0l42 ybs7_1l42 yown29_0l42 yown28_0l42 yown27_0l42 e40).length xsyown44_1_0j57, .own (.slice ayown44_2_0j57 (lplV22 ybs7_0l42 ybs7_1l42 yown29_0l42 yown28_0l42 yown27_0l42 e40).length cyown44_2_0j57) 93 5 (lplV22 ybs7_0l42 ybs7_1l42 yown29_0l42 yown28_0l42 yown27_0l42 e40).length xsyown44_2_0j57, .own (.slice ayown31_0l42 yown31_0l42.length cyown31_0l42) 43 7 yown31_0l42.length xsyown31_0l42, .blk bs7 (.cells #[.int .i64 (lplV23 ybs7_0l42 ybs7_1l42 yown29_0l42 yown28_0l42 yown27_0l42 e40), .int .i64 (lplV24 ybs7_0l42 ybs7_1l42 yown29_0l42 yown28_0l42 yown27_0l42 e40), .slice ayown44_0_0j57 (lplV20 ybs7_0l42 ybs7_1l42 yown29_0l42 yown28_0l42 yown27_0l42 e40).length cyown44_0_0j57, .slice ayown44_1_0j57 (lplV21 ybs7_0l42 ybs7_1l42 yown29_0l42 yown28_0l42 yown27_0l42 e40).length cyown44_1_0j57, .slice ayown44_2_0j57 (lplV22 ybs7_0l42 ybs7_1l42 yown29_0l42 yown28_0l42 yown27_0l42 e40).length cyown44_2_0j57] 37), .blk bs3 (.cells #[.int .i64 0, .int .i64 0, .slice none ([] : List (JJ)).length 0, .slice none ([] : List (JJ)).length 0, .slice none ([] : List (JT)).length 0] 37), .own (.slice none ([] : List (JT)).length 0) 93 5 ([] : List (JT)).length ([]), .own (.slice none ([] : List (JJ)).length 0) 43 7 ([] : List (JJ)).length ([]), .own (.slice none ([] : List (JJ)).length 0) 43 7 ([] : List (JJ)).length ([])] gj57 W ∧ lplj57 xasks x35l42 ybs7_0l42 ybs7_1l42 yown31_0l42 yown29_0l42 yown28_0l42 yown27_0l42 (lpll42 xasks K k42)) ?_ ?_
          ·
           refine Ok.seq (Ok.region (Ok.op rfl (OpOk.step (v := .agg #[.int .i64 ybs7_0l42, .int .i64 ybs7_1l42, .slice ayown27_0l42 yown27_0l42.length cyown27_0l42, .slice ayown28_0l42 yown28_0l42.length cyown28_0l42, .slice ayown29_0l42 yown29_0l42.length cyown29_0l42]) (Yields.loadAgg 2 5 #[.int .i64 ybs7_0l42, .int .i64 ybs7_1l42, .slice ayown27_0l42 yown27_0l42.length cyown27_0l42, .slice ayown28_0l42 yown28_0l42.length cyown28_0l42, .slice ayown29_0l42 yown29_0l42.length cyown29_0l42] rfl rfl Try.underlying37 rfl (by kernel_rfl) (by kernel_rfl) (by kernel_rfl)) rfl rfl (Ok.op rfl (OpOk.step (v := .agg #[.int .i64 e40.1, .int .i64 e40.2.1, .int .i64 e40.2.2.1, sv e40.2.2.2.1, .int .i64 e40.2.2.2.2.1, .int .i64 e40.2.2.2.2.2.1, sv e40.2.2.2.2.2.2]) (Yields.loadAgg 0 7 #[.int .i64 e40.1, .int .i64 e40.2.1, .int .i64 e40.2.2.1, sv e40.2.2.2.1, .int .i64 e40.2.2.2.2.1, .int .i64 e40.2.2.2.2.2.1, sv e40.2.2.2.2.2.2] rfl rfl Try.underlying39 rfl (by kernel_rfl) (by kernel_rfl) (by kernel_rfl)) rfl rfl ?_)))))
           obtain ⟨hp45, hF⟩ := hF
           refine Ok.op rfl (OpOk.callSee enr (fun W hW => las_c (ybs7_0l42, ybs7_1l42, yown27_0l42, yown28_0l42, yown29_0l42) e40 (hW.seeOwn 5 rfl hLyown27_0l42) (hW.seeOwn 4 rfl hLyown28_0l42) (hW.seeOwn 3 rfl hLyown29_0l42) hp45) rfl fun g46 _ _ _ hx46 hV46 => ?_)
           obtain ⟨a46_0, c46_0, xs46_0, a46_3, c46_3, xs46_3, a46_6, c46_6, xs46_6, rfl, hL46_0, hL46_3, hL46_6, rfl⟩ := hV46
           replace hL46_0 := RepL.any (g' := g46) rfl hL46_0
           replace hL46_3 := RepL.any (g' := g46) rfl hL46_3
           replace hL46_6 := RepL.any (g' := g46) rfl hL46_6
           replace hLyown31_0l42 := hLyown31_0l42.mono hx46.1
           replace hRxasks_0 := hRxasks_0.mono hx46.1
           replace hLyown27_0l42 := hLyown27_0l42.mono hx46.1
           replace hLyown28_0l42 := hLyown28_0l42.mono hx46.1
           replace hLyown29_0l42 := hLyown29_0l42.mono hx46.1
           replace hL1 := hL1.mono hx46.1
           replace hL2 := hL2.mono hx46.1
           replace hL3 := hL3.mono hx46.1
           refine Ok.bat 4 [3, 7, 8, 33, 34, 35] [(46, .agg #[.int .i64 (lasS (ybs7_0l42, ybs7_1l42, yown27_0l42, yown28_0l42, yown29_0l42) e40).1.1, .int .i64 (lasS (ybs7_0l42, ybs7_1l42, yown27_0l42, yown28_0l42, yown29_0l42) e40).1.2.1, .slice a46_0 ((lasS (ybs7_0l42, ybs7_1l42, yown27_0l42, yown28_0l42, yown29_0l42) e40).1.2.2.1).length c46_0, .slice a46_3 ((lasS (ybs7_0l42, ybs7_1l42, yown27_0l42, yown28_0l42, yown29_0l42) e40).1.2.2.2.1).length c46_3, .slice a46_6 ((lasS (ybs7_0l42, ybs7_1l42, yown27_0l42, yown28_0l42, yown29_0l42) e40).1.2.2.2.2).length c46_6]), (47, .int .i64 (lasS (ybs7_0l42, ybs7_1l42, yown27_0l42, yown28_0l42, yown29_0l42) e40).2.1), (48, .int .i64 (lasS (ybs7_0l42, ybs7_1l42, yown27_0l42, yown28_0l42, yown29_0l42) e40).2.2)] ?_
           have hL47 : RepL g46 (.pair (.int .i64) (.pair (.int .i64) (.pair (.bool) (.pair (.str) (.pair (.int .i64) (.pair (.int .i64) (.str))))))) [] [] := rfl
           refine Ok.ownNil 43 7 ?_
           have hL48 : RepL g46 (.pair (.int .i64) (.pair (.int .i64) (.pair (.bool) (.pair (.str) (.pair (.int .i64) (.pair (.int .i64) (.str))))))) [] [] := rfl
           refine Ok.ownNil 43 7 ?_
           have hL49 : RepL g46 (.pair (.int .i64) (.pair (.int .i64) (.pair (.int .i64) (.pair (.int .i64) (.str))))) [] [] := rfl
           refine Ok.ownNil 93 5 (Ok.op rfl (OpOk.alloc (z := .agg #[.int .i64 0, .int .i64 0, .slice none ([] : List (JJ)).length 0, .slice none ([] : List (JJ)).length 0, .slice none ([] : List (JT)).length 0]) (cs := #[.int .i64 0, .int .i64 0, .slice none ([] : List (JJ)).length 0, .slice none ([] : List (JJ)).length 0, .slice none ([] : List (JT)).length 0]) (by kernel_rfl) (by kernel_rfl) rfl fun bs11 => ?_))
           refine Ok.op rfl (OpOk.sto (k := 5) (v := .agg #[.int .i64 (lasS (ybs7_0l42, ybs7_1l42, yown27_0l42, yown28_0l42, yown29_0l42) e40).1.1, .int .i64 (lasS (ybs7_0l42, ybs7_1l42, yown27_0l42, yown28_0l42, yown29_0l42) e40).1.2.1, .slice a46_0 ((lasS (ybs7_0l42, ybs7_1l42, yown27_0l42, yown28_0l42, yown29_0l42) e40).1.2.2.1).length c46_0, .slice a46_3 ((lasS (ybs7_0l42, ybs7_1l42, yown27_0l42, yown28_0l42, yown29_0l42) e40).1.2.2.2.1).length c46_3, .slice a46_6 ((lasS (ybs7_0l42, ybs7_1l42, yown27_0l42, yown28_0l42, yown29_0l42) e40).1.2.2.2.2).length c46_6]) 0 #[.int .i64 (lasS (ybs7_0l42, ybs7_1l42, yown27_0l42, yown28_0l42, yown29_0l42) e40).1.1, .int .i64 (lasS (ybs7_0l42, ybs7_1l42, yown27_0l42, yown28_0l42, yown29_0l42) e40).1.2.1, .slice a46_0 ((lasS (ybs7_0l42, ybs7_1l42, yown27_0l42, yown28_0l42, yown29_0l42) e40).1.2.2.1).length c46_0, .slice a46_3 ((lasS (ybs7_0l42, ybs7_1l42, yown27_0l42, yown28_0l42, yown29_0l42) e40).1.2.2.2.1).length c46_3, .slice a46_6 ((lasS (ybs7_0l42, ybs7_1l42, yown27_0l42, yown28_0l42, yown29_0l42) e40).1.2.2.2.2).length c46_6] rfl rfl rfl ?_)
           refine Ok.bat 2 [3, 7, 8, 33, 34, 35] [(11, pv bs11 0), (13, .int .i64 (lasS (ybs7_0l42, ybs7_1l42, yown27_0l42, yown28_0l42, yown29_0l42) e40).2.2)] ?_
           refine Ok.nil (Ok.thenN (Ok.seq (Ok.region (Ok.bat 2 [3, 7, 8, 11, 33, 34, 35] [(50, .bool ((lasS (ybs7_0l42, ybs7_1l42, yown27_0l42, yown28_0l42, yown29_0l42) e40).2.2 == 0))] ?_))))
           refine Ok.nil (Ok.thenN (Ok.cond (b := ((lasS (ybs7_0l42, ybs7_1l42, yown27_0l42, yown28_0l42, yown29_0l42) e40).2.2 == 0)) rfl (fun hc51 => ?_) (fun hc51 => ?_)))
           ·replace hF := hF.1 hc51
            refine Ok.region (Ok.op rfl (OpOk.step (v := .agg #[.int .i64 (lasS (ybs7_0l42, ybs7_1l42, yown27_0l42, yown28_0l42, yown29_0l42) e40).1.1, .int .i64 (lasS (ybs7_0l42, ybs7_1l42, yown27_0l42, yown28_0l42, yown29_0l42) e40).1.2.1, .slice a46_0 ((lasS (ybs7_0l42, ybs7_1l42, yown27_0l42, yown28_0l42, yown29_0l42) e40).1.2.2.1).length c46_0, .slice a46_3 ((lasS (ybs7_0l42, ybs7_1l42, yown27_0l42, yown28_0l42, yown29_0l42) e40).1.2.2.2.1).length c46_3, .slice a46_6 ((lasS (ybs7_0l42, ybs7_1l42, yown27_0l42, yown28_0l42, yown29_0l42) e40).1.2.2.2.2).length c46_6]) (Yields.loadAgg 0 5 #[.int .i64 (lasS (ybs7_0l42, ybs7_1l42, yown27_0l42, yown28_0l42, yown29_0l42) e40).1.1, .int .i64 (lasS (ybs7_0l42, ybs7_1l42, yown27_0l42, yown28_0l42, yown29_0l42) e40).1.2.1, .slice a46_0 ((lasS (ybs7_0l42, ybs7_1l42, yown27_0l42, yown28_0l42, yown29_0l42) e40).1.2.2.1).length c46_0, .slice a46_3 ((lasS (ybs7_0l42, ybs7_1l42, yown27_0l42, yown28_0l42, yown29_0l42) e40).1.2.2.2.1).length c46_3, .slice a46_6 ((lasS (ybs7_0l42, ybs7_1l42, yown27_0l42, yown28_0l42, yown29_0l42) e40).1.2.2.2.2).length c46_6] rfl rfl Try.underlying37 rfl (by kernel_rfl) (by kernel_rfl) (by kernel_rfl)) rfl rfl (Ok.op rfl (OpOk.sto (k := 5) (v := .agg #[.int .i64 (lasS (ybs7_0l42, ybs7_1l42, yown27_0l42, yown28_0l42, yown29_0l42) e40).1.1, .int .i64 (lasS (ybs7_0l42, ybs7_1l42, yown27_0l42, yown28_0l42, yown29_0l42) e40).1.2.1, .slice a46_0 ((lasS (ybs7_0l42, ybs7_1l42, yown27_0l42, yown28_0l42, yown29_0l42) e40).1.2.2.1).length c46_0, .slice a46_3 ((lasS (ybs7_0l42, ybs7_1l42, yown27_0l42, yown28_0l42, yown29_0l42) e40).1.2.2.2.1).length c46_3, .slice a46_6 ((lasS (ybs7_0l42, ybs7_1l42, yown27_0l42, yown28_0l42, yown29_0l42) e40).1.2.2.2.2).length c46_6]) 9 #[.int .i64 (lasS (ybs7_0l42, ybs7_1l42, yown27_0l42, yown28_0l42, yown29_0l42) e40).1.1, .int .i64 (lasS (ybs7_0l42, ybs7_1l42, yown27_0l42, yown28_0l42, yown29_0l42) e40).1.2.1, .slice a46_0 ((lasS (ybs7_0l42, ybs7_1l42, yown27_0l42, yown28_0l42, yown29_0l42) e40).1.2.2.1).length c46_0, .slice a46_3 ((lasS (ybs7_0l42, ybs7_1l42, yown27_0l42, yown28_0l42, yown29_0l42) e40).1.2.2.2.1).length c46_3, .slice a46_6 ((lasS (ybs7_0l42, ybs7_1l42, yown27_0l42, yown28_0l42, yown29_0l42) e40).1.2.2.2.2).length c46_6] rfl rfl rfl ?_))))
            refine Ok.nil (Ok.thenN (Ok.entEq 4 (e' := .own (.slice a46_0 (lplV20 ybs7_0l42 ybs7_1l42 yown29_0l42 yown28_0l42 yown27_0l42 e40).length c46_0) 43 7 (lplV20 ybs7_0l42 ybs7_1l42 yown29_0l42 yown28_0l42 yown27_0l42 e40).length xs46_0) rfl (congrArg (fun l : List (JJ) => Ent.own (.slice a46_0 l.length c46_0) 43 7 l.length xs46_0) ((if_t hc51).symm)) ?_))
            refine Ok.entEq 5 (e' := .own (.slice a46_3 (lplV21 ybs7_0l42 ybs7_1l42 yown29_0l42 yown28_0l42 yown27_0l42 e40).length c46_3) 43 7 (lplV21 ybs7_0l42 ybs7_1l42 yown29_0l42 yown28_0l42 yown27_0l42 e40).length xs46_3) rfl (congrArg (fun l : List (JJ) => Ent.own (.slice a46_3 l.length c46_3) 43 7 l.length xs46_3) ((if_t hc51).symm)) ?_
            refine Ok.entEq 6 (e' := .own (.slice a46_6 (lplV22 ybs7_0l42 ybs7_1l42 yown29_0l42 yown28_0l42 yown27_0l42 e40).length c46_6) 93 5 (lplV22 ybs7_0l42 ybs7_1l42 yown29_0l42 yown28_0l42 yown27_0l42 e40).length xs46_6) rfl (congrArg (fun l : List (JT) => Ent.own (.slice a46_6 l.length c46_6) 93 5 l.length xs46_6) ((if_t hc51).symm)) ?_
            refine Ok.entEq 9 (e' := .blk bs7 (.cells #[.int .i64 (lplV23 ybs7_0l42 ybs7_1l42 yown29_0l42 yown28_0l42 yown27_0l42 e40), .int .i64 (lplV24 ybs7_0l42 ybs7_1l42 yown29_0l42 yown28_0l42 yown27_0l42 e40), .slice a46_0 (lplV20 ybs7_0l42 ybs7_1l42 yown29_0l42 yown28_0l42 yown27_0l42 e40).length c46_0, .slice a46_3 (lplV21 ybs7_0l42 ybs7_1l42 yown29_0l42 yown28_0l42 yown27_0l42 e40).length c46_3, .slice a46_6 (lplV22 ybs7_0l42 ybs7_1l42 yown29_0l42 yown28_0l42 yown27_0l42 e40).length c46_6] 37)) rfl (congrArg (fun l : List Value => Ent.blk bs7 (.cells ⟨l⟩ 37)) (lcons (congrArg (Value.int .i64) ((if_t hc51).symm)) (lcons (congrArg (Value.int .i64) ((if_t hc51).symm)) (lcons (congrArg (fun l : List (JJ) => Value.slice a46_0 l.length c46_0) ((if_t hc51).symm)) (lcons (congrArg (fun l : List (JJ) => Value.slice a46_3 l.length c46_3) ((if_t hc51).symm)) (lcons (congrArg (fun l : List (JT) => Value.slice a46_6 l.length c46_6) ((if_t hc51).symm)) rfl)))))) ?_
            exact fun a W hA hW => ⟨g46, hx46, a46_0, c46_0, xs46_0, a46_3, c46_3, xs46_3, a46_6, c46_6, xs46_6, (Eq.mp (congrArg (fun l : List (JJ) => RepL g46 (.pair (.int .i64) (.pair (.int .i64) (.pair (.bool) (.pair (.str) (.pair (.int .i64) (.pair (.int .i64) (.str))))))) xs46_0 l) ((if_t hc51).symm)) hL46_0), (Eq.mp (congrArg (fun l : List (JJ) => RepL g46 (.pair (.int .i64) (.pair (.int .i64) (.pair (.bool) (.pair (.str) (.pair (.int .i64) (.pair (.int .i64) (.str))))))) xs46_3 l) ((if_t hc51).symm)) hL46_3), (Eq.mp (congrArg (fun l : List (JT) => RepL g46 (.pair (.int .i64) (.pair (.int .i64) (.pair (.int .i64) (.pair (.int .i64) (.str))))) xs46_6 l) ((if_t hc51).symm)) hL46_6), hA.sub (by kernel_rfl), hW.sub (.cons _ (.cons _ (.cons _ (.cons _ (.cons_cons _ (.cons_cons _ (.cons_cons _ (.cons _ (.cons_cons _ (.cons_cons _ (.cons _ (.cons _ (.cons _ (.cons_cons _ (.cons_cons _ (.cons_cons _ (.cons_cons _ .slnil))))))))))))))))), hF⟩
           ·replace hF := hF.2 hc51
            refine Ok.skip (Ok.thenN (Ok.entEq 9 (e' := .blk bs7 (.cells #[.int .i64 (lplV23 ybs7_0l42 ybs7_1l42 yown29_0l42 yown28_0l42 yown27_0l42 e40), .int .i64 (lplV24 ybs7_0l42 ybs7_1l42 yown29_0l42 yown28_0l42 yown27_0l42 e40), .slice ayown27_0l42 (lplV20 ybs7_0l42 ybs7_1l42 yown29_0l42 yown28_0l42 yown27_0l42 e40).length cyown27_0l42, .slice ayown28_0l42 (lplV21 ybs7_0l42 ybs7_1l42 yown29_0l42 yown28_0l42 yown27_0l42 e40).length cyown28_0l42, .slice ayown29_0l42 (lplV22 ybs7_0l42 ybs7_1l42 yown29_0l42 yown28_0l42 yown27_0l42 e40).length cyown29_0l42] 37)) rfl (congrArg (fun l : List Value => Ent.blk bs7 (.cells ⟨l⟩ 37)) (lcons (congrArg (Value.int .i64) ((if_f hc51).symm)) (lcons (congrArg (Value.int .i64) ((if_f hc51).symm)) (lcons (congrArg (fun l : List (JJ) => Value.slice ayown27_0l42 l.length cyown27_0l42) ((if_f hc51).symm)) (lcons (congrArg (fun l : List (JJ) => Value.slice ayown28_0l42 l.length cyown28_0l42) ((if_f hc51).symm)) (lcons (congrArg (fun l : List (JT) => Value.slice ayown29_0l42 l.length cyown29_0l42) ((if_f hc51).symm)) rfl)))))) ?_))
            refine Ok.entEq 10 (e' := .own (.slice ayown29_0l42 (lplV22 ybs7_0l42 ybs7_1l42 yown29_0l42 yown28_0l42 yown27_0l42 e40).length cyown29_0l42) 93 5 (lplV22 ybs7_0l42 ybs7_1l42 yown29_0l42 yown28_0l42 yown27_0l42 e40).length xsyown29_0l42) rfl (congrArg (fun l : List (JT) => Ent.own (.slice ayown29_0l42 l.length cyown29_0l42) 93 5 l.length xsyown29_0l42) ((if_f hc51).symm)) ?_
            refine Ok.entEq 11 (e' := .own (.slice ayown28_0l42 (lplV21 ybs7_0l42 ybs7_1l42 yown29_0l42 yown28_0l42 yown27_0l42 e40).length cyown28_0l42) 43 7 (lplV21 ybs7_0l42 ybs7_1l42 yown29_0l42 yown28_0l42 yown27_0l42 e40).length xsyown28_0l42) rfl (congrArg (fun l : List (JJ) => Ent.own (.slice ayown28_0l42 l.length cyown28_0l42) 43 7 l.length xsyown28_0l42) ((if_f hc51).symm)) ?_
            refine Ok.entEq 12 (e' := .own (.slice ayown27_0l42 (lplV20 ybs7_0l42 ybs7_1l42 yown29_0l42 yown28_0l42 yown27_0l42 e40).length cyown27_0l42) 43 7 (lplV20 ybs7_0l42 ybs7_1l42 yown29_0l42 yown28_0l42 yown27_0l42 e40).length xsyown27_0l42) rfl (congrArg (fun l : List (JJ) => Ent.own (.slice ayown27_0l42 l.length cyown27_0l42) 43 7 l.length xsyown27_0l42) ((if_f hc51).symm)) ?_
            exact fun a W hA hW => ⟨g46, hx46, ayown27_0l42, cyown27_0l42, xsyown27_0l42, ayown28_0l42, cyown28_0l42, xsyown28_0l42, ayown29_0l42, cyown29_0l42, xsyown29_0l42, (Eq.mp (congrArg (fun l : List (JJ) => RepL g46 (.pair (.int .i64) (.pair (.int .i64) (.pair (.bool) (.pair (.str) (.pair (.int .i64) (.pair (.int .i64) (.str))))))) xsyown27_0l42 l) ((if_f hc51).symm)) hLyown27_0l42), (Eq.mp (congrArg (fun l : List (JJ) => RepL g46 (.pair (.int .i64) (.pair (.int .i64) (.pair (.bool) (.pair (.str) (.pair (.int .i64) (.pair (.int .i64) (.str))))))) xsyown28_0l42 l) ((if_f hc51).symm)) hLyown28_0l42), (Eq.mp (congrArg (fun l : List (JT) => RepL g46 (.pair (.int .i64) (.pair (.int .i64) (.pair (.int .i64) (.pair (.int .i64) (.str))))) xsyown29_0l42 l) ((if_f hc51).symm)) hLyown29_0l42), hA.sub (by kernel_rfl), hW.pick [12, 11, 10, 8, 9, 13, 14, 15, 16] _ (by decide) rfl, hF⟩
          ·
           clear hF
           rintro a W ⟨gj57, hxj57, ayown44_0_0j57, cyown44_0_0j57, xsyown44_0_0j57, ayown44_1_0j57, cyown44_1_0j57, xsyown44_1_0j57, ayown44_2_0j57, cyown44_2_0j57, xsyown44_2_0j57, hLyown44_0_0j57, hLyown44_1_0j57, hLyown44_2_0j57, hA, hW, hF⟩
           refine (?_ : Ok _ _ _ _ _ _) a W hA hW
           clear hA hW
           replace hLyown31_0l42 := hLyown31_0l42.mono hxj57.1
           replace hRxasks_0 := hRxasks_0.mono hxj57.1
           replace hL1 := hL1.mono hxj57.1
           replace hL2 := hL2.mono hxj57.1
           replace hL3 := hL3.mono hxj57.1
           refine Ok.exit (Ok.thenE (Ok.blockHit (Ok.thenN ?_)))
           subst hg40
           exact fun a W hA hW => ⟨gj57, hxj57, ayown44_0_0j57, cyown44_0_0j57, (lplV20 ybs7_0l42 ybs7_1l42 yown29_0l42 yown28_0l42 yown27_0l42 (xasks.getD (Int.toNat x35l42) default)), xsyown44_0_0j57, ayown44_1_0j57, cyown44_1_0j57, (lplV21 ybs7_0l42 ybs7_1l42 yown29_0l42 yown28_0l42 yown27_0l42 (xasks.getD (Int.toNat x35l42) default)), xsyown44_1_0j57, ayown44_2_0j57, cyown44_2_0j57, (lplV22 ybs7_0l42 ybs7_1l42 yown29_0l42 yown28_0l42 yown27_0l42 (xasks.getD (Int.toNat x35l42) default)), xsyown44_2_0j57, ayown31_0l42, cyown31_0l42, yown31_0l42, xsyown31_0l42, (lplV23 ybs7_0l42 ybs7_1l42 yown29_0l42 yown28_0l42 yown27_0l42 (xasks.getD (Int.toNat x35l42) default)), (lplV24 ybs7_0l42 ybs7_1l42 yown29_0l42 yown28_0l42 yown27_0l42 (xasks.getD (Int.toNat x35l42) default)), hLyown44_0_0j57, hLyown44_1_0j57, hLyown44_2_0j57, hLyown31_0l42, hA.sub (by kernel_rfl), hW, hF⟩
         ·replace hF := hF.2 hc42
          refine Ok.skip (Ok.thenN (Ok.seq (Ok.region (Ok.bat 1 [3, 7, 8, 10, 33, 34, 35] [(52, pv bs7 0)] ?_))))
          refine Ok.op rfl (OpOk.step (v := .int .i64 ybs7_0l42) (Yields.load 2 rfl rfl Try.underlying3 rfl (by kernel_rfl)) rfl rfl (Ok.bat 1 [3, 7, 8, 10, 33, 34, 35] [(53, .int .i64 ybs7_0l42), (54, pv bs10 2)] ?_))
          refine Ok.op rfl (OpOk.step (v := .int .i64 e40.2.2.1) (Yields.load 0 rfl rfl Try.underlying3 rfl (by kernel_rfl)) rfl rfl (Ok.bat 2 [3, 7, 8, 10, 33, 34, 35] [(14, .int .i64 (w6 (ybs7_0l42 + e40.2.2.1)))] ?_))
          refine Ok.nil (Ok.thenN (Ok.seq (Ok.region (Ok.bat 1 [3, 7, 8, 14, 33, 34, 35] [(57, pv bs10 2)] ?_))))
          refine Ok.op rfl (OpOk.step (v := .int .i64 e40.2.2.1) (Yields.load 0 rfl rfl Try.underlying3 rfl (by kernel_rfl)) rfl rfl (Ok.op rfl (OpOk.callG (v := .bool (lwiM e40.2.2.1 0 1000000)) enr (fun W hW => lwi_c e40.2.2.1 0 1000000) rfl ?_)))
          refine Ok.bat 1 [3, 7, 8, 14, 33, 34, 35] [(60, .bool (lwiM e40.2.2.1 0 1000000))] ?_
          refine Ok.midway 3 [(3, pv bs3 0), (7, pv bs7 0), (8, .slice ayown31_0l42 yown31_0l42.length cyown31_0l42), (14, .int .i64 (w6 (ybs7_0l42 + e40.2.2.1))), (33, .slice axasks_0 xasks.length cxasks_0), (34, .int .i64 (xasks.length : Int)), (35, .int .i64 x35l42), (63, .bool ((lwiM e40.2.2.1 0 1000000) && (decide ((w6 (ybs7_0l42 + e40.2.2.1)) ≤ 1000000000))))] (fun hR52 => ?_) ?_
          ·refine Ok.boolAt 60 ((lwiM e40.2.2.1 0 1000000)) rfl (fun hc53 => ?_) (fun hc53 => ?_)
           ·skip
            refine Ok.bat 3 [3, 7, 8, 14, 33, 34, 35] [(63, .bool (decide ((w6 (ybs7_0l42 + e40.2.2.1)) ≤ 1000000000)))] ?_
            refine Ok.reval 63 rfl (show (.bool (decide ((w6 (ybs7_0l42 + e40.2.2.1)) ≤ 1000000000)) : Value) = .bool ((lwiM e40.2.2.1 0 1000000) && (decide ((w6 (ybs7_0l42 + e40.2.2.1)) ≤ 1000000000))) from congrArg Value.bool (mand_t hc53)) (Ok.bat 0 [3, 7, 8, 14, 33, 34, 35] [(63, .bool ((lwiM e40.2.2.1 0 1000000) && (decide ((w6 (ybs7_0l42 + e40.2.2.1)) ≤ 1000000000))))] ?_)
            exact hR52
           ·skip
            refine Ok.bat 3 [3, 7, 8, 14, 33, 34, 35] [(63, .bool false)] ?_
            refine Ok.reval 63 rfl (show (.bool false : Value) = .bool ((lwiM e40.2.2.1 0 1000000) && (decide ((w6 (ybs7_0l42 + e40.2.2.1)) ≤ 1000000000))) from congrArg Value.bool (mand_f hc53)) (Ok.bat 0 [3, 7, 8, 14, 33, 34, 35] [(63, .bool ((lwiM e40.2.2.1 0 1000000) && (decide ((w6 (ybs7_0l42 + e40.2.2.1)) ≤ 1000000000))))] ?_)
            exact hR52
          refine Ok.bat 1 [3, 7, 8, 14, 33, 34, 35] [(15, .bool ((lwiM e40.2.2.1 0 1000000) && (decide ((w6 (ybs7_0l42 + e40.2.2.1)) ≤ 1000000000))))] ?_
          refine Ok.nil (Ok.thenN (Ok.block ?_))
          obtain ⟨k, hF⟩ := hF
          refine Ok.loop (fun k a W => ∃ gl72 : Ghost, Gext w0 gl42 gl72 ∧ ∃ (x15l72 : Bool) (ayown31_0l72 : Option Addr) (cyown31_0l72 : Nat) (yown31_0l72 : List (JJ)) (xsyown31_0l72 : List Value) (ybs7_0l72 : Int) (ybs7_1l72 : Int) (ayown29_0l72 : Option Addr) (cyown29_0l72 : Nat) (yown29_0l72 : List (JT)) (xsyown29_0l72 : List Value) (ayown28_0l72 : Option Addr) (cyown28_0l72 : Nat) (yown28_0l72 : List (JJ)) (xsyown28_0l72 : List Value) (ayown27_0l72 : Option Addr) (cyown27_0l72 : Nat) (yown27_0l72 : List (JJ)) (xsyown27_0l72 : List Value), RepL gl72 (.pair (.int .i64) (.pair (.int .i64) (.pair (.bool) (.pair (.str) (.pair (.int .i64) (.pair (.int .i64) (.str))))))) xsyown31_0l72 yown31_0l72 ∧ RepL gl72 (.pair (.int .i64) (.pair (.int .i64) (.pair (.int .i64) (.pair (.int .i64) (.str))))) xsyown29_0l72 yown29_0l72 ∧ RepL gl72 (.pair (.int .i64) (.pair (.int .i64) (.pair (.bool) (.pair (.str) (.pair (.int .i64) (.pair (.int .i64) (.str))))))) xsyown28_0l72 yown28_0l72 ∧ RepL gl72 (.pair (.int .i64) (.pair (.int .i64) (.pair (.bool) (.pair (.str) (.pair (.int .i64) (.pair (.int .i64) (.str))))))) xsyown27_0l72 yown27_0l72 ∧ StA 85 [(3, pv bs3 0), (7, pv bs7 0), (8, .slice ayown31_0l72 yown31_0l72.length cyown31_0l72), (14, .int .i64 (w6 (ybs7_0l42 + e40.2.2.1))), (15, .bool x15l72), (33, .slice axasks_0 xasks.length cxasks_0), (34, .int .i64 (xasks.length : Int)), (35, .int .i64 x35l42)] a ∧ StW w0 [.own (.slice ayown31_0l72 yown31_0l72.length cyown31_0l72) 43 7 yown31_0l72.length xsyown31_0l72, .blk bs7 (.cells #[.int .i64 ybs7_0l72, .int .i64 ybs7_1l72, .slice ayown27_0l72 yown27_0l72.length cyown27_0l72, .slice ayown28_0l72 yown28_0l72.length cyown28_0l72, .slice ayown29_0l72 yown29_0l72.length cyown29_0l72] 37), .own (.slice ayown29_0l72 yown29_0l72.length cyown29_0l72) 93 5 yown29_0l72.length xsyown29_0l72, .own (.slice ayown28_0l72 yown28_0l72.length cyown28_0l72) 43 7 yown28_0l72.length xsyown28_0l72, .own (.slice ayown27_0l72 yown27_0l72.length cyown27_0l72) 43 7 yown27_0l72.length xsyown27_0l72, .blk bs3 (.cells #[.int .i64 0, .int .i64 0, .slice none ([] : List (JJ)).length 0, .slice none ([] : List (JJ)).length 0, .slice none ([] : List (JT)).length 0] 37), .own (.slice none ([] : List (JT)).length 0) 93 5 ([] : List (JT)).length ([]), .own (.slice none ([] : List (JJ)).length 0) 43 7 ([] : List (JJ)).length ([]), .own (.slice none ([] : List (JJ)).length 0) 43 7 ([] : List (JJ)).length ([])] gl72 W ∧ lpll72 x35l42 ybs7_0l42 (lpll42 xasks K k42) e40 k x15l72 yown31_0l72 ybs7_0l72 ybs7_1l72 yown29_0l72 yown28_0l72 yown27_0l72) k ?_ ?_
          ·
           exact fun a W hA hW => ⟨gl42, (Gext.refl w0 gl42), ((lwiM e40.2.2.1 0 1000000) && (decide ((w6 (ybs7_0l42 + e40.2.2.1)) ≤ 1000000000))), ayown31_0l42, cyown31_0l42, yown31_0l42, xsyown31_0l42, ybs7_0l42, ybs7_1l42, ayown29_0l42, cyown29_0l42, yown29_0l42, xsyown29_0l42, ayown28_0l42, cyown28_0l42, yown28_0l42, xsyown28_0l42, ayown27_0l42, cyown27_0l42, yown27_0l42, xsyown27_0l42, hLyown31_0l42, hLyown29_0l42, hLyown28_0l42, hLyown27_0l42, hA.sub (by kernel_rfl), hW.sub (.cons _ (.cons_cons _ (.cons_cons _ (.cons_cons _ (.cons_cons _ (.cons_cons _ (.cons_cons _ (.cons_cons _ (.cons_cons _ (.cons_cons _ .slnil)))))))))), hF⟩
          ·
           clear hF
           rintro k72 a W ⟨gl72, hxl72, x15l72, ayown31_0l72, cyown31_0l72, yown31_0l72, xsyown31_0l72, ybs7_0l72, ybs7_1l72, ayown29_0l72, cyown29_0l72, yown29_0l72, xsyown29_0l72, ayown28_0l72, cyown28_0l72, yown28_0l72, xsyown28_0l72, ayown27_0l72, cyown27_0l72, yown27_0l72, xsyown27_0l72, hLyown31_0l72, hLyown29_0l72, hLyown28_0l72, hLyown27_0l72, hA, hW, hF⟩
           cases k72 with
           | zero => exact (hF : False).elim
           | succ k72 =>
            refine (?_ : Ok _ _ _ _ _ _) a W hA hW
            clear hA hW
            replace hRxasks_0 := hRxasks_0.mono hxl72.1
            replace hL1 := hL1.mono hxl72.1
            replace hL2 := hL2.mono hxl72.1
            replace hL3 := hL3.mono hxl72.1
            refine Ok.seq (Ok.seq (Ok.region (Ok.bat 2 [3, 7, 8, 14, 33, 34, 35] [(65, .bool x15l72)] ?_)))
            refine Ok.midway 4 [(3, pv bs3 0), (7, pv bs7 0), (8, .slice ayown31_0l72 yown31_0l72.length cyown31_0l72), (14, .int .i64 (w6 (ybs7_0l42 + e40.2.2.1))), (33, .slice axasks_0 xasks.length cxasks_0), (34, .int .i64 (xasks.length : Int)), (35, .int .i64 x35l42), (69, .bool (x15l72 && (decide ((yown31_0l72.length : Int) < 300))))] (fun hR54 => ?_) ?_
            ·refine Ok.boolAt 65 (x15l72) rfl (fun hc55 => ?_) (fun hc55 => ?_)
             ·skip
              refine Ok.bat 4 [3, 7, 8, 14, 33, 34, 35] [(69, .bool (decide ((yown31_0l72.length : Int) < 300)))] ?_
              refine Ok.reval 69 rfl (show (.bool (decide ((yown31_0l72.length : Int) < 300)) : Value) = .bool (x15l72 && (decide ((yown31_0l72.length : Int) < 300))) from congrArg Value.bool (mand_t hc55)) (Ok.bat 0 [3, 7, 8, 14, 33, 34, 35] [(69, .bool (x15l72 && (decide ((yown31_0l72.length : Int) < 300))))] ?_)
              exact hR54
             ·skip
              refine Ok.bat 4 [3, 7, 8, 14, 33, 34, 35] [(69, .bool false)] ?_
              refine Ok.reval 69 rfl (show (.bool false : Value) = .bool (x15l72 && (decide ((yown31_0l72.length : Int) < 300))) from congrArg Value.bool (mand_f hc55)) (Ok.bat 0 [3, 7, 8, 14, 33, 34, 35] [(69, .bool (x15l72 && (decide ((yown31_0l72.length : Int) < 300))))] ?_)
              exact hR54
            refine Ok.nil (Ok.thenN (Ok.cond (b := (x15l72 && (decide ((yown31_0l72.length : Int) < 300)))) rfl (fun hc56 => ?_) (fun hc56 => ?_)))
            ·replace hF := hF.1 hc56
             refine Ok.skip (Ok.thenN (Ok.block (Ok.seq (Ok.region (Ok.op rfl (OpOk.alloc (z := .agg #[.int .i64 0, .int .i64 0, .bool false, sv ([] : Bs), .int .i64 0, .int .i64 0, sv ([] : Bs)]) (cs := #[.int .i64 0, .int .i64 0, .bool false, sv ([] : Bs), .int .i64 0, .int .i64 0, sv ([] : Bs)]) (by kernel_rfl) (by kernel_rfl) rfl fun bs16 => ?_))))))
             refine Ok.nil (Ok.thenN (Ok.seq (Ok.region (Ok.op rfl (OpOk.step (v := .agg #[.int .i64 ybs7_0l72, .int .i64 ybs7_1l72, .slice ayown27_0l72 yown27_0l72.length cyown27_0l72, .slice ayown28_0l72 yown28_0l72.length cyown28_0l72, .slice ayown29_0l72 yown29_0l72.length cyown29_0l72]) (Yields.loadAgg 2 5 #[.int .i64 ybs7_0l72, .int .i64 ybs7_1l72, .slice ayown27_0l72 yown27_0l72.length cyown27_0l72, .slice ayown28_0l72 yown28_0l72.length cyown28_0l72, .slice ayown29_0l72 yown29_0l72.length cyown29_0l72] rfl rfl Try.underlying37 rfl (by kernel_rfl) (by kernel_rfl) (by kernel_rfl)) rfl rfl (Ok.bat 1 [3, 7, 8, 14, 33, 34, 35] [(16, pv bs16 0), (71, .agg #[.int .i64 ybs7_0l72, .int .i64 ybs7_1l72, .slice ayown27_0l72 yown27_0l72.length cyown27_0l72, .slice ayown28_0l72 yown28_0l72.length cyown28_0l72, .slice ayown29_0l72 yown29_0l72.length cyown29_0l72]), (72, .int .i64 (w6 (ybs7_0l42 + e40.2.2.1)))] ?_))))))
             obtain ⟨hp58, hF⟩ := hF
             refine Ok.entries [5, 4, 3, 0, 1, 2, 6, 7, 8, 9] [.own (.slice ayown27_0l72 yown27_0l72.length cyown27_0l72) 43 7 yown27_0l72.length xsyown27_0l72, .own (.slice ayown28_0l72 yown28_0l72.length cyown28_0l72) 43 7 yown28_0l72.length xsyown28_0l72, .own (.slice ayown29_0l72 yown29_0l72.length cyown29_0l72) 93 5 yown29_0l72.length xsyown29_0l72, .blk bs16 (.cells #[.int .i64 0, .int .i64 0, .bool false, sv ([] : Bs), .int .i64 0, .int .i64 0, sv ([] : Bs)] 43), .own (.slice ayown31_0l72 yown31_0l72.length cyown31_0l72) 43 7 yown31_0l72.length xsyown31_0l72, .blk bs7 (.cells #[.int .i64 ybs7_0l72, .int .i64 ybs7_1l72, .slice ayown27_0l72 yown27_0l72.length cyown27_0l72, .slice ayown28_0l72 yown28_0l72.length cyown28_0l72, .slice ayown29_0l72 yown29_0l72.length cyown29_0l72] 37), .blk bs3 (.cells #[.int .i64 0, .int .i64 0, .slice none ([] : List (JJ)).length 0, .slice none ([] : List (JJ)).length 0, .slice none ([] : List (JT)).length 0] 37), .own (.slice none ([] : List (JT)).length 0) 93 5 ([] : List (JT)).length ([]), .own (.slice none ([] : List (JJ)).length 0) 43 7 ([] : List (JJ)).length ([]), .own (.slice none ([] : List (JJ)).length 0) 43 7 ([] : List (JJ)).length ([])] (by decide) rfl (Ok.op rfl (OpOk.callH [_, _, _] _ enr rfl (lnx_c (ybs7_0l72, ybs7_1l72, yown27_0l72, yown28_0l72, yown29_0l72) (w6 (ybs7_0l42 + e40.2.2.1)) hLyown27_0l72 hLyown28_0l72 hLyown29_0l72 hp58) rfl fun g59 _ _ hx59 hV59 => ?_))
             obtain ⟨a59_0, c59_0, xs59_0, a59_3, c59_3, xs59_3, a59_6, c59_6, xs59_6, rfl, hL59_0, hL59_3, hL59_6, rfl⟩ := hV59
             replace hLyown31_0l72 := hLyown31_0l72.mono hx59.1
             replace hRxasks_0 := hRxasks_0.mono hx59.1
             replace hLyown27_0l72 := hLyown27_0l72.mono hx59.1
             replace hLyown28_0l72 := hLyown28_0l72.mono hx59.1
             replace hLyown29_0l72 := hLyown29_0l72.mono hx59.1
             replace hL1 := hL1.mono hx59.1
             replace hL2 := hL2.mono hx59.1
             replace hL3 := hL3.mono hx59.1
             refine Ok.batch 4 [(3, pv bs3 0), (7, pv bs7 0), (8, .slice ayown31_0l72 yown31_0l72.length cyown31_0l72), (14, .int .i64 (w6 (ybs7_0l42 + e40.2.2.1))), (16, pv bs16 0), (33, .slice axasks_0 xasks.length cxasks_0), (34, .int .i64 (xasks.length : Int)), (35, .int .i64 x35l42), (74, .agg #[.int .i64 (rnS (ybs7_0l72, ybs7_1l72, yown27_0l72, yown28_0l72, yown29_0l72) (w6 (ybs7_0l42 + e40.2.2.1))).1.1, .int .i64 (rnS (ybs7_0l72, ybs7_1l72, yown27_0l72, yown28_0l72, yown29_0l72) (w6 (ybs7_0l42 + e40.2.2.1))).1.2.1, .slice a59_0 ((rnS (ybs7_0l72, ybs7_1l72, yown27_0l72, yown28_0l72, yown29_0l72) (w6 (ybs7_0l42 + e40.2.2.1))).1.2.2.1).length c59_0, .slice a59_3 ((rnS (ybs7_0l72, ybs7_1l72, yown27_0l72, yown28_0l72, yown29_0l72) (w6 (ybs7_0l42 + e40.2.2.1))).1.2.2.2.1).length c59_3, .slice a59_6 ((rnS (ybs7_0l72, ybs7_1l72, yown27_0l72, yown28_0l72, yown29_0l72) (w6 (ybs7_0l42 + e40.2.2.1))).1.2.2.2.2).length c59_6]), (75, .agg #[.int .i64 (rnS (ybs7_0l72, ybs7_1l72, yown27_0l72, yown28_0l72, yown29_0l72) (w6 (ybs7_0l42 + e40.2.2.1))).2.1.1, .int .i64 (rnS (ybs7_0l72, ybs7_1l72, yown27_0l72, yown28_0l72, yown29_0l72) (w6 (ybs7_0l42 + e40.2.2.1))).2.1.2.1, .bool (rnS (ybs7_0l72, ybs7_1l72, yown27_0l72, yown28_0l72, yown29_0l72) (w6 (ybs7_0l42 + e40.2.2.1))).2.1.2.2.1, sv ((rnS (ybs7_0l72, ybs7_1l72, yown27_0l72, yown28_0l72, yown29_0l72) (w6 (ybs7_0l42 + e40.2.2.1))).2.1.2.2.2.1), .int .i64 (rnS (ybs7_0l72, ybs7_1l72, yown27_0l72, yown28_0l72, yown29_0l72) (w6 (ybs7_0l42 + e40.2.2.1))).2.1.2.2.2.2.1, .int .i64 (rnS (ybs7_0l72, ybs7_1l72, yown27_0l72, yown28_0l72, yown29_0l72) (w6 (ybs7_0l42 + e40.2.2.1))).2.1.2.2.2.2.2.1, sv ((rnS (ybs7_0l72, ybs7_1l72, yown27_0l72, yown28_0l72, yown29_0l72) (w6 (ybs7_0l42 + e40.2.2.1))).2.1.2.2.2.2.2.2)]), (76, .bool (rnS (ybs7_0l72, ybs7_1l72, yown27_0l72, yown28_0l72, yown29_0l72) (w6 (ybs7_0l42 + e40.2.2.1))).2.2)] (by kernel_rfl) (Ok.op rfl (OpOk.sto (k := 5) (v := .agg #[.int .i64 (rnS (ybs7_0l72, ybs7_1l72, yown27_0l72, yown28_0l72, yown29_0l72) (w6 (ybs7_0l42 + e40.2.2.1))).1.1, .int .i64 (rnS (ybs7_0l72, ybs7_1l72, yown27_0l72, yown28_0l72, yown29_0l72) (w6 (ybs7_0l42 + e40.2.2.1))).1.2.1, .slice a59_0 ((rnS (ybs7_0l72, ybs7_1l72, yown27_0l72, yown28_0l72, yown29_0l72) (w6 (ybs7_0l42 + e40.2.2.1))).1.2.2.1).length c59_0, .slice a59_3 ((rnS (ybs7_0l72, ybs7_1l72, yown27_0l72, yown28_0l72, yown29_0l72) (w6 (ybs7_0l42 + e40.2.2.1))).1.2.2.2.1).length c59_3, .slice a59_6 ((rnS (ybs7_0l72, ybs7_1l72, yown27_0l72, yown28_0l72, yown29_0l72) (w6 (ybs7_0l42 + e40.2.2.1))).1.2.2.2.2).length c59_6]) 5 #[.int .i64 (rnS (ybs7_0l72, ybs7_1l72, yown27_0l72, yown28_0l72, yown29_0l72) (w6 (ybs7_0l42 + e40.2.2.1))).1.1, .int .i64 (rnS (ybs7_0l72, ybs7_1l72, yown27_0l72, yown28_0l72, yown29_0l72) (w6 (ybs7_0l42 + e40.2.2.1))).1.2.1, .slice a59_0 ((rnS (ybs7_0l72, ybs7_1l72, yown27_0l72, yown28_0l72, yown29_0l72) (w6 (ybs7_0l42 + e40.2.2.1))).1.2.2.1).length c59_0, .slice a59_3 ((rnS (ybs7_0l72, ybs7_1l72, yown27_0l72, yown28_0l72, yown29_0l72) (w6 (ybs7_0l42 + e40.2.2.1))).1.2.2.2.1).length c59_3, .slice a59_6 ((rnS (ybs7_0l72, ybs7_1l72, yown27_0l72, yown28_0l72, yown29_0l72) (w6 (ybs7_0l42 + e40.2.2.1))).1.2.2.2.2).length c59_6] rfl rfl rfl ?_))
             refine Ok.op rfl (OpOk.sto (k := 7) (v := .agg #[.int .i64 (rnS (ybs7_0l72, ybs7_1l72, yown27_0l72, yown28_0l72, yown29_0l72) (w6 (ybs7_0l42 + e40.2.2.1))).2.1.1, .int .i64 (rnS (ybs7_0l72, ybs7_1l72, yown27_0l72, yown28_0l72, yown29_0l72) (w6 (ybs7_0l42 + e40.2.2.1))).2.1.2.1, .bool (rnS (ybs7_0l72, ybs7_1l72, yown27_0l72, yown28_0l72, yown29_0l72) (w6 (ybs7_0l42 + e40.2.2.1))).2.1.2.2.1, sv ((rnS (ybs7_0l72, ybs7_1l72, yown27_0l72, yown28_0l72, yown29_0l72) (w6 (ybs7_0l42 + e40.2.2.1))).2.1.2.2.2.1), .int .i64 (rnS (ybs7_0l72, ybs7_1l72, yown27_0l72, yown28_0l72, yown29_0l72) (w6 (ybs7_0l42 + e40.2.2.1))).2.1.2.2.2.2.1, .int .i64 (rnS (ybs7_0l72, ybs7_1l72, yown27_0l72, yown28_0l72, yown29_0l72) (w6 (ybs7_0l42 + e40.2.2.1))).2.1.2.2.2.2.2.1, sv ((rnS (ybs7_0l72, ybs7_1l72, yown27_0l72, yown28_0l72, yown29_0l72) (w6 (ybs7_0l42 + e40.2.2.1))).2.1.2.2.2.2.2.2)]) 3 #[.int .i64 (rnS (ybs7_0l72, ybs7_1l72, yown27_0l72, yown28_0l72, yown29_0l72) (w6 (ybs7_0l42 + e40.2.2.1))).2.1.1, .int .i64 (rnS (ybs7_0l72, ybs7_1l72, yown27_0l72, yown28_0l72, yown29_0l72) (w6 (ybs7_0l42 + e40.2.2.1))).2.1.2.1, .bool (rnS (ybs7_0l72, ybs7_1l72, yown27_0l72, yown28_0l72, yown29_0l72) (w6 (ybs7_0l42 + e40.2.2.1))).2.1.2.2.1, sv ((rnS (ybs7_0l72, ybs7_1l72, yown27_0l72, yown28_0l72, yown29_0l72) (w6 (ybs7_0l42 + e40.2.2.1))).2.1.2.2.2.1), .int .i64 (rnS (ybs7_0l72, ybs7_1l72, yown27_0l72, yown28_0l72, yown29_0l72) (w6 (ybs7_0l42 + e40.2.2.1))).2.1.2.2.2.2.1, .int .i64 (rnS (ybs7_0l72, ybs7_1l72, yown27_0l72, yown28_0l72, yown29_0l72) (w6 (ybs7_0l42 + e40.2.2.1))).2.1.2.2.2.2.2.1, sv ((rnS (ybs7_0l72, ybs7_1l72, yown27_0l72, yown28_0l72, yown29_0l72) (w6 (ybs7_0l42 + e40.2.2.1))).2.1.2.2.2.2.2.2)] rfl rfl rfl ?_)
             refine Ok.bat 1 [3, 7, 8, 14, 16, 33, 34, 35] [(15, .bool (rnS (ybs7_0l72, ybs7_1l72, yown27_0l72, yown28_0l72, yown29_0l72) (w6 (ybs7_0l42 + e40.2.2.1))).2.2)] ?_
             refine Ok.nil (Ok.thenN (Ok.seq (Ok.region (Ok.bat 1 [3, 7, 8, 14, 15, 16, 33, 34, 35] [(77, .bool (rnS (ybs7_0l72, ybs7_1l72, yown27_0l72, yown28_0l72, yown29_0l72) (w6 (ybs7_0l42 + e40.2.2.1))).2.2)] ?_))))
             refine Ok.nil (Ok.thenN (Ok.cond (b := (rnS (ybs7_0l72, ybs7_1l72, yown27_0l72, yown28_0l72, yown29_0l72) (w6 (ybs7_0l42 + e40.2.2.1))).2.2) rfl (fun hc60 => ?_) (fun hc60 => ?_)))
             ·replace hF := hF.1 hc60
              refine Ok.region (Ok.bat 1 [3, 7, 14, 15, 16, 33, 34, 35] [(78, .slice ayown31_0l72 yown31_0l72.length cyown31_0l72)] ?_)
              refine Ok.op rfl (OpOk.step (v := .agg #[.int .i64 (rnS (ybs7_0l72, ybs7_1l72, yown27_0l72, yown28_0l72, yown29_0l72) (w6 (ybs7_0l42 + e40.2.2.1))).2.1.1, .int .i64 (rnS (ybs7_0l72, ybs7_1l72, yown27_0l72, yown28_0l72, yown29_0l72) (w6 (ybs7_0l42 + e40.2.2.1))).2.1.2.1, .bool (rnS (ybs7_0l72, ybs7_1l72, yown27_0l72, yown28_0l72, yown29_0l72) (w6 (ybs7_0l42 + e40.2.2.1))).2.1.2.2.1, sv ((rnS (ybs7_0l72, ybs7_1l72, yown27_0l72, yown28_0l72, yown29_0l72) (w6 (ybs7_0l42 + e40.2.2.1))).2.1.2.2.2.1), .int .i64 (rnS (ybs7_0l72, ybs7_1l72, yown27_0l72, yown28_0l72, yown29_0l72) (w6 (ybs7_0l42 + e40.2.2.1))).2.1.2.2.2.2.1, .int .i64 (rnS (ybs7_0l72, ybs7_1l72, yown27_0l72, yown28_0l72, yown29_0l72) (w6 (ybs7_0l42 + e40.2.2.1))).2.1.2.2.2.2.2.1, sv ((rnS (ybs7_0l72, ybs7_1l72, yown27_0l72, yown28_0l72, yown29_0l72) (w6 (ybs7_0l42 + e40.2.2.1))).2.1.2.2.2.2.2.2)]) (Yields.loadAgg 3 7 #[.int .i64 (rnS (ybs7_0l72, ybs7_1l72, yown27_0l72, yown28_0l72, yown29_0l72) (w6 (ybs7_0l42 + e40.2.2.1))).2.1.1, .int .i64 (rnS (ybs7_0l72, ybs7_1l72, yown27_0l72, yown28_0l72, yown29_0l72) (w6 (ybs7_0l42 + e40.2.2.1))).2.1.2.1, .bool (rnS (ybs7_0l72, ybs7_1l72, yown27_0l72, yown28_0l72, yown29_0l72) (w6 (ybs7_0l42 + e40.2.2.1))).2.1.2.2.1, sv ((rnS (ybs7_0l72, ybs7_1l72, yown27_0l72, yown28_0l72, yown29_0l72) (w6 (ybs7_0l42 + e40.2.2.1))).2.1.2.2.2.1), .int .i64 (rnS (ybs7_0l72, ybs7_1l72, yown27_0l72, yown28_0l72, yown29_0l72) (w6 (ybs7_0l42 + e40.2.2.1))).2.1.2.2.2.2.1, .int .i64 (rnS (ybs7_0l72, ybs7_1l72, yown27_0l72, yown28_0l72, yown29_0l72) (w6 (ybs7_0l42 + e40.2.2.1))).2.1.2.2.2.2.2.1, sv ((rnS (ybs7_0l72, ybs7_1l72, yown27_0l72, yown28_0l72, yown29_0l72) (w6 (ybs7_0l42 + e40.2.2.1))).2.1.2.2.2.2.2.2)] rfl rfl Try.underlying43 rfl (by kernel_rfl) (by kernel_rfl) (by kernel_rfl)) rfl rfl ?_)
              have hL61 : RepL g59 (.pair (.int .i64) (.pair (.int .i64) (.pair (.bool) (.pair (.str) (.pair (.int .i64) (.pair (.int .i64) (.str))))))) ([.int .i64 (rnS (ybs7_0l72, ybs7_1l72, yown27_0l72, yown28_0l72, yown29_0l72) (w6 (ybs7_0l42 + e40.2.2.1))).2.1.1, .int .i64 (rnS (ybs7_0l72, ybs7_1l72, yown27_0l72, yown28_0l72, yown29_0l72) (w6 (ybs7_0l42 + e40.2.2.1))).2.1.2.1, .bool (rnS (ybs7_0l72, ybs7_1l72, yown27_0l72, yown28_0l72, yown29_0l72) (w6 (ybs7_0l42 + e40.2.2.1))).2.1.2.2.1, sv ((rnS (ybs7_0l72, ybs7_1l72, yown27_0l72, yown28_0l72, yown29_0l72) (w6 (ybs7_0l42 + e40.2.2.1))).2.1.2.2.2.1), .int .i64 (rnS (ybs7_0l72, ybs7_1l72, yown27_0l72, yown28_0l72, yown29_0l72) (w6 (ybs7_0l42 + e40.2.2.1))).2.1.2.2.2.2.1, .int .i64 (rnS (ybs7_0l72, ybs7_1l72, yown27_0l72, yown28_0l72, yown29_0l72) (w6 (ybs7_0l42 + e40.2.2.1))).2.1.2.2.2.2.2.1, sv ((rnS (ybs7_0l72, ybs7_1l72, yown27_0l72, yown28_0l72, yown29_0l72) (w6 (ybs7_0l42 + e40.2.2.1))).2.1.2.2.2.2.2.2)] : List Value) ([((rnS (ybs7_0l72, ybs7_1l72, yown27_0l72, yown28_0l72, yown29_0l72) (w6 (ybs7_0l42 + e40.2.2.1))).2.1.1, (rnS (ybs7_0l72, ybs7_1l72, yown27_0l72, yown28_0l72, yown29_0l72) (w6 (ybs7_0l42 + e40.2.2.1))).2.1.2.1, (rnS (ybs7_0l72, ybs7_1l72, yown27_0l72, yown28_0l72, yown29_0l72) (w6 (ybs7_0l42 + e40.2.2.1))).2.1.2.2.1, (rnS (ybs7_0l72, ybs7_1l72, yown27_0l72, yown28_0l72, yown29_0l72) (w6 (ybs7_0l42 + e40.2.2.1))).2.1.2.2.2.1, (rnS (ybs7_0l72, ybs7_1l72, yown27_0l72, yown28_0l72, yown29_0l72) (w6 (ybs7_0l42 + e40.2.2.1))).2.1.2.2.2.2)] : List (JJ)) := (RepL.consN (c := [.int .i64 (rnS (ybs7_0l72, ybs7_1l72, yown27_0l72, yown28_0l72, yown29_0l72) (w6 (ybs7_0l42 + e40.2.2.1))).2.1.1, .int .i64 (rnS (ybs7_0l72, ybs7_1l72, yown27_0l72, yown28_0l72, yown29_0l72) (w6 (ybs7_0l42 + e40.2.2.1))).2.1.2.1, .bool (rnS (ybs7_0l72, ybs7_1l72, yown27_0l72, yown28_0l72, yown29_0l72) (w6 (ybs7_0l42 + e40.2.2.1))).2.1.2.2.1, sv ((rnS (ybs7_0l72, ybs7_1l72, yown27_0l72, yown28_0l72, yown29_0l72) (w6 (ybs7_0l42 + e40.2.2.1))).2.1.2.2.2.1), .int .i64 (rnS (ybs7_0l72, ybs7_1l72, yown27_0l72, yown28_0l72, yown29_0l72) (w6 (ybs7_0l42 + e40.2.2.1))).2.1.2.2.2.2.1, .int .i64 (rnS (ybs7_0l72, ybs7_1l72, yown27_0l72, yown28_0l72, yown29_0l72) (w6 (ybs7_0l42 + e40.2.2.1))).2.1.2.2.2.2.2.1, sv ((rnS (ybs7_0l72, ybs7_1l72, yown27_0l72, yown28_0l72, yown29_0l72) (w6 (ybs7_0l42 + e40.2.2.1))).2.1.2.2.2.2.2.2)]) ⟨[.int .i64 (rnS (ybs7_0l72, ybs7_1l72, yown27_0l72, yown28_0l72, yown29_0l72) (w6 (ybs7_0l42 + e40.2.2.1))).2.1.1], [.int .i64 (rnS (ybs7_0l72, ybs7_1l72, yown27_0l72, yown28_0l72, yown29_0l72) (w6 (ybs7_0l42 + e40.2.2.1))).2.1.2.1, .bool (rnS (ybs7_0l72, ybs7_1l72, yown27_0l72, yown28_0l72, yown29_0l72) (w6 (ybs7_0l42 + e40.2.2.1))).2.1.2.2.1, sv ((rnS (ybs7_0l72, ybs7_1l72, yown27_0l72, yown28_0l72, yown29_0l72) (w6 (ybs7_0l42 + e40.2.2.1))).2.1.2.2.2.1), .int .i64 (rnS (ybs7_0l72, ybs7_1l72, yown27_0l72, yown28_0l72, yown29_0l72) (w6 (ybs7_0l42 + e40.2.2.1))).2.1.2.2.2.2.1, .int .i64 (rnS (ybs7_0l72, ybs7_1l72, yown27_0l72, yown28_0l72, yown29_0l72) (w6 (ybs7_0l42 + e40.2.2.1))).2.1.2.2.2.2.2.1, sv ((rnS (ybs7_0l72, ybs7_1l72, yown27_0l72, yown28_0l72, yown29_0l72) (w6 (ybs7_0l42 + e40.2.2.1))).2.1.2.2.2.2.2.2)], rfl, rfl, ⟨[.int .i64 (rnS (ybs7_0l72, ybs7_1l72, yown27_0l72, yown28_0l72, yown29_0l72) (w6 (ybs7_0l42 + e40.2.2.1))).2.1.2.1], [.bool (rnS (ybs7_0l72, ybs7_1l72, yown27_0l72, yown28_0l72, yown29_0l72) (w6 (ybs7_0l42 + e40.2.2.1))).2.1.2.2.1, sv ((rnS (ybs7_0l72, ybs7_1l72, yown27_0l72, yown28_0l72, yown29_0l72) (w6 (ybs7_0l42 + e40.2.2.1))).2.1.2.2.2.1), .int .i64 (rnS (ybs7_0l72, ybs7_1l72, yown27_0l72, yown28_0l72, yown29_0l72) (w6 (ybs7_0l42 + e40.2.2.1))).2.1.2.2.2.2.1, .int .i64 (rnS (ybs7_0l72, ybs7_1l72, yown27_0l72, yown28_0l72, yown29_0l72) (w6 (ybs7_0l42 + e40.2.2.1))).2.1.2.2.2.2.2.1, sv ((rnS (ybs7_0l72, ybs7_1l72, yown27_0l72, yown28_0l72, yown29_0l72) (w6 (ybs7_0l42 + e40.2.2.1))).2.1.2.2.2.2.2.2)], rfl, rfl, ⟨[.bool (rnS (ybs7_0l72, ybs7_1l72, yown27_0l72, yown28_0l72, yown29_0l72) (w6 (ybs7_0l42 + e40.2.2.1))).2.1.2.2.1], [sv ((rnS (ybs7_0l72, ybs7_1l72, yown27_0l72, yown28_0l72, yown29_0l72) (w6 (ybs7_0l42 + e40.2.2.1))).2.1.2.2.2.1), .int .i64 (rnS (ybs7_0l72, ybs7_1l72, yown27_0l72, yown28_0l72, yown29_0l72) (w6 (ybs7_0l42 + e40.2.2.1))).2.1.2.2.2.2.1, .int .i64 (rnS (ybs7_0l72, ybs7_1l72, yown27_0l72, yown28_0l72, yown29_0l72) (w6 (ybs7_0l42 + e40.2.2.1))).2.1.2.2.2.2.2.1, sv ((rnS (ybs7_0l72, ybs7_1l72, yown27_0l72, yown28_0l72, yown29_0l72) (w6 (ybs7_0l42 + e40.2.2.1))).2.1.2.2.2.2.2.2)], rfl, rfl, ⟨[sv ((rnS (ybs7_0l72, ybs7_1l72, yown27_0l72, yown28_0l72, yown29_0l72) (w6 (ybs7_0l42 + e40.2.2.1))).2.1.2.2.2.1)], [.int .i64 (rnS (ybs7_0l72, ybs7_1l72, yown27_0l72, yown28_0l72, yown29_0l72) (w6 (ybs7_0l42 + e40.2.2.1))).2.1.2.2.2.2.1, .int .i64 (rnS (ybs7_0l72, ybs7_1l72, yown27_0l72, yown28_0l72, yown29_0l72) (w6 (ybs7_0l42 + e40.2.2.1))).2.1.2.2.2.2.2.1, sv ((rnS (ybs7_0l72, ybs7_1l72, yown27_0l72, yown28_0l72, yown29_0l72) (w6 (ybs7_0l42 + e40.2.2.1))).2.1.2.2.2.2.2.2)], rfl, rfl, ⟨[.int .i64 (rnS (ybs7_0l72, ybs7_1l72, yown27_0l72, yown28_0l72, yown29_0l72) (w6 (ybs7_0l42 + e40.2.2.1))).2.1.2.2.2.2.1], [.int .i64 (rnS (ybs7_0l72, ybs7_1l72, yown27_0l72, yown28_0l72, yown29_0l72) (w6 (ybs7_0l42 + e40.2.2.1))).2.1.2.2.2.2.2.1, sv ((rnS (ybs7_0l72, ybs7_1l72, yown27_0l72, yown28_0l72, yown29_0l72) (w6 (ybs7_0l42 + e40.2.2.1))).2.1.2.2.2.2.2.2)], rfl, rfl, ⟨[.int .i64 (rnS (ybs7_0l72, ybs7_1l72, yown27_0l72, yown28_0l72, yown29_0l72) (w6 (ybs7_0l42 + e40.2.2.1))).2.1.2.2.2.2.2.1], [sv ((rnS (ybs7_0l72, ybs7_1l72, yown27_0l72, yown28_0l72, yown29_0l72) (w6 (ybs7_0l42 + e40.2.2.1))).2.1.2.2.2.2.2.2)], rfl, rfl, rfl⟩⟩⟩⟩⟩⟩ rfl)
              refine Ok.op rfl (OpOk.lit (E := 43) (.pair (.int .i64) (.pair (.int .i64) (.pair (.bool) (.pair (.str) (.pair (.int .i64) (.pair (.int .i64) (.str))))))) ([((rnS (ybs7_0l72, ybs7_1l72, yown27_0l72, yown28_0l72, yown29_0l72) (w6 (ybs7_0l42 + e40.2.2.1))).2.1.1, (rnS (ybs7_0l72, ybs7_1l72, yown27_0l72, yown28_0l72, yown29_0l72) (w6 (ybs7_0l42 + e40.2.2.1))).2.1.2.1, (rnS (ybs7_0l72, ybs7_1l72, yown27_0l72, yown28_0l72, yown29_0l72) (w6 (ybs7_0l42 + e40.2.2.1))).2.1.2.2.1, (rnS (ybs7_0l72, ybs7_1l72, yown27_0l72, yown28_0l72, yown29_0l72) (w6 (ybs7_0l42 + e40.2.2.1))).2.1.2.2.2.1, (rnS (ybs7_0l72, ybs7_1l72, yown27_0l72, yown28_0l72, yown29_0l72) (w6 (ybs7_0l42 + e40.2.2.1))).2.1.2.2.2.2)] : List (JJ)) ([.int .i64 (rnS (ybs7_0l72, ybs7_1l72, yown27_0l72, yown28_0l72, yown29_0l72) (w6 (ybs7_0l42 + e40.2.2.1))).2.1.1, .int .i64 (rnS (ybs7_0l72, ybs7_1l72, yown27_0l72, yown28_0l72, yown29_0l72) (w6 (ybs7_0l42 + e40.2.2.1))).2.1.2.1, .bool (rnS (ybs7_0l72, ybs7_1l72, yown27_0l72, yown28_0l72, yown29_0l72) (w6 (ybs7_0l42 + e40.2.2.1))).2.1.2.2.1, sv ((rnS (ybs7_0l72, ybs7_1l72, yown27_0l72, yown28_0l72, yown29_0l72) (w6 (ybs7_0l42 + e40.2.2.1))).2.1.2.2.2.1), .int .i64 (rnS (ybs7_0l72, ybs7_1l72, yown27_0l72, yown28_0l72, yown29_0l72) (w6 (ybs7_0l42 + e40.2.2.1))).2.1.2.2.2.2.1, .int .i64 (rnS (ybs7_0l72, ybs7_1l72, yown27_0l72, yown28_0l72, yown29_0l72) (w6 (ybs7_0l42 + e40.2.2.1))).2.1.2.2.2.2.2.1, sv ((rnS (ybs7_0l72, ybs7_1l72, yown27_0l72, yown28_0l72, yown29_0l72) (w6 (ybs7_0l42 + e40.2.2.1))).2.1.2.2.2.2.2.2)] : List Value) (by kernel_rfl) (by kernel_rfl) rfl (by kernel_rfl) hL61 rfl fun b61 => ?_)
              obtain ⟨hb62, hF⟩ := hF
              refine Ok.op rfl (OpOk.append' (e := .pair (.int .i64) (.pair (.int .i64) (.pair (.bool) (.pair (.str) (.pair (.int .i64) (.pair (.int .i64) (.str))))))) 72 1954687338268 5 0 rfl rfl rfl rfl hLyown31_0l72 hL61 Try.underlying34 (by kernel_rfl) (by kernel_rfl) (by kernel_rfl) hb62 rfl fun a62 c62 xs62 hL62 => ?_)
              refine Ok.bat 1 [3, 7, 14, 15, 33, 34, 35] [(8, .slice a62 (yown31_0l72 ++ ([((rnS (ybs7_0l72, ybs7_1l72, yown27_0l72, yown28_0l72, yown29_0l72) (w6 (ybs7_0l42 + e40.2.2.1))).2.1.1, (rnS (ybs7_0l72, ybs7_1l72, yown27_0l72, yown28_0l72, yown29_0l72) (w6 (ybs7_0l42 + e40.2.2.1))).2.1.2.1, (rnS (ybs7_0l72, ybs7_1l72, yown27_0l72, yown28_0l72, yown29_0l72) (w6 (ybs7_0l42 + e40.2.2.1))).2.1.2.2.1, (rnS (ybs7_0l72, ybs7_1l72, yown27_0l72, yown28_0l72, yown29_0l72) (w6 (ybs7_0l42 + e40.2.2.1))).2.1.2.2.2.1, (rnS (ybs7_0l72, ybs7_1l72, yown27_0l72, yown28_0l72, yown29_0l72) (w6 (ybs7_0l42 + e40.2.2.1))).2.1.2.2.2.2)] : List (JJ))).length c62)] ?_
              refine Ok.nil (Ok.blockN (Ok.thenN ?_))
              exact fun a W hA hW => ⟨k72, Nat.lt_succ_self _, g59, (hxl72.trans hx59), (rnS (ybs7_0l72, ybs7_1l72, yown27_0l72, yown28_0l72, yown29_0l72) (w6 (ybs7_0l42 + e40.2.2.1))).2.2, a62, c62, (yown31_0l72 ++ ([((rnS (ybs7_0l72, ybs7_1l72, yown27_0l72, yown28_0l72, yown29_0l72) (w6 (ybs7_0l42 + e40.2.2.1))).2.1.1, (rnS (ybs7_0l72, ybs7_1l72, yown27_0l72, yown28_0l72, yown29_0l72) (w6 (ybs7_0l42 + e40.2.2.1))).2.1.2.1, (rnS (ybs7_0l72, ybs7_1l72, yown27_0l72, yown28_0l72, yown29_0l72) (w6 (ybs7_0l42 + e40.2.2.1))).2.1.2.2.1, (rnS (ybs7_0l72, ybs7_1l72, yown27_0l72, yown28_0l72, yown29_0l72) (w6 (ybs7_0l42 + e40.2.2.1))).2.1.2.2.2.1, (rnS (ybs7_0l72, ybs7_1l72, yown27_0l72, yown28_0l72, yown29_0l72) (w6 (ybs7_0l42 + e40.2.2.1))).2.1.2.2.2.2)] : List (JJ))), xs62, (rnS (ybs7_0l72, ybs7_1l72, yown27_0l72, yown28_0l72, yown29_0l72) (w6 (ybs7_0l42 + e40.2.2.1))).1.1, (rnS (ybs7_0l72, ybs7_1l72, yown27_0l72, yown28_0l72, yown29_0l72) (w6 (ybs7_0l42 + e40.2.2.1))).1.2.1, a59_6, c59_6, (rnS (ybs7_0l72, ybs7_1l72, yown27_0l72, yown28_0l72, yown29_0l72) (w6 (ybs7_0l42 + e40.2.2.1))).1.2.2.2.2, xs59_6, a59_3, c59_3, (rnS (ybs7_0l72, ybs7_1l72, yown27_0l72, yown28_0l72, yown29_0l72) (w6 (ybs7_0l42 + e40.2.2.1))).1.2.2.2.1, xs59_3, a59_0, c59_0, (rnS (ybs7_0l72, ybs7_1l72, yown27_0l72, yown28_0l72, yown29_0l72) (w6 (ybs7_0l42 + e40.2.2.1))).1.2.2.1, xs59_0, hL62, hL59_6, hL59_3, hL59_0, hA.sub (by kernel_rfl), hW.pick [5, 6, 3, 2, 1, 7, 8, 9, 10] _ (by decide) rfl, hF⟩
             ·replace hF := hF.2 hc60
              refine Ok.skip (Ok.blockN (Ok.thenN ?_))
              exact fun a W hA hW => ⟨k72, Nat.lt_succ_self _, g59, (hxl72.trans hx59), (rnS (ybs7_0l72, ybs7_1l72, yown27_0l72, yown28_0l72, yown29_0l72) (w6 (ybs7_0l42 + e40.2.2.1))).2.2, ayown31_0l72, cyown31_0l72, yown31_0l72, xsyown31_0l72, (rnS (ybs7_0l72, ybs7_1l72, yown27_0l72, yown28_0l72, yown29_0l72) (w6 (ybs7_0l42 + e40.2.2.1))).1.1, (rnS (ybs7_0l72, ybs7_1l72, yown27_0l72, yown28_0l72, yown29_0l72) (w6 (ybs7_0l42 + e40.2.2.1))).1.2.1, a59_6, c59_6, (rnS (ybs7_0l72, ybs7_1l72, yown27_0l72, yown28_0l72, yown29_0l72) (w6 (ybs7_0l42 + e40.2.2.1))).1.2.2.2.2, xs59_6, a59_3, c59_3, (rnS (ybs7_0l72, ybs7_1l72, yown27_0l72, yown28_0l72, yown29_0l72) (w6 (ybs7_0l42 + e40.2.2.1))).1.2.2.2.1, xs59_3, a59_0, c59_0, (rnS (ybs7_0l72, ybs7_1l72, yown27_0l72, yown28_0l72, yown29_0l72) (w6 (ybs7_0l42 + e40.2.2.1))).1.2.2.1, xs59_0, hLyown31_0l72, hL59_6, hL59_3, hL59_0, hA.sub (by kernel_rfl), hW.pick [4, 5, 2, 1, 0, 6, 7, 8, 9] _ (by decide) rfl, hF⟩
            ·replace hF := hF.2 hc56
             refine Ok.exit (Ok.thenE (Ok.thenE (Ok.blockHit (Ok.blockN (Ok.thenN ?_)))))
             subst hg40
             exact fun a W hA hW => ⟨gl72, hxl72, ayown27_0l72, cyown27_0l72, yown27_0l72, xsyown27_0l72, ayown28_0l72, cyown28_0l72, yown28_0l72, xsyown28_0l72, ayown29_0l72, cyown29_0l72, yown29_0l72, xsyown29_0l72, ayown31_0l72, cyown31_0l72, yown31_0l72, xsyown31_0l72, ybs7_0l72, ybs7_1l72, hLyown27_0l72, hLyown28_0l72, hLyown29_0l72, hLyown31_0l72, hA.sub (by kernel_rfl), hW.pick [4, 3, 2, 0, 1, 5, 6, 7, 8] _ (by decide) rfl, hF⟩
        ·
         clear hF
         rintro a W ⟨gj49, hxj49, ayown38_0_0j49, cyown38_0_0j49, yown38_0_0j49, xsyown38_0_0j49, ayown38_1_0j49, cyown38_1_0j49, yown38_1_0j49, xsyown38_1_0j49, ayown38_2_0j49, cyown38_2_0j49, yown38_2_0j49, xsyown38_2_0j49, ayown31_0j49, cyown31_0j49, yown31_0j49, xsyown31_0j49, ybs7_0j49, ybs7_1j49, hLyown38_0_0j49, hLyown38_1_0j49, hLyown38_2_0j49, hLyown31_0j49, hA, hW, hF⟩
         refine (?_ : Ok _ _ _ _ _ _) a W hA hW
         clear hA hW
         replace hRxasks_0 := hRxasks_0.mono hxj49.1
         replace hL1 := hL1.mono hxj49.1
         replace hL2 := hL2.mono hxj49.1
         replace hL3 := hL3.mono hxj49.1
         refine Ok.region (Ok.bat 2 [3, 7, 8, 33, 34] [(35, .int .i64 (w6 (x35l42 + 1)))] ?_)
         refine Ok.nil (Ok.thenN ?_)
         exact fun a W hA hW => ⟨k42, Nat.lt_succ_self _, gj49, (hxl42.trans hxj49), w6 (x35l42 + 1), ayown31_0j49, cyown31_0j49, yown31_0j49, xsyown31_0j49, ybs7_0j49, ybs7_1j49, ayown38_2_0j49, cyown38_2_0j49, yown38_2_0j49, xsyown38_2_0j49, ayown38_1_0j49, cyown38_1_0j49, yown38_1_0j49, xsyown38_1_0j49, ayown38_0_0j49, cyown38_0_0j49, yown38_0_0j49, xsyown38_0_0j49, hLyown31_0j49, hLyown38_2_0j49, hLyown38_1_0j49, hLyown38_0_0j49, hA.sub (by kernel_rfl), hW.pick [3, 4, 2, 1, 0, 5, 6, 7, 8] _ (by decide) rfl, hF⟩
       ·replace hF := hF.2 hc32
        refine Ok.exit (Ok.thenE (Ok.thenE (Ok.blockHit (Ok.thenN (Ok.seq (Ok.mix [] [] _ [(0, true), (1, true), (2, true), (3, false), (4, true)] (by kernel_rfl) (by kernel_rfl) (.cons_cons _ (.cons_cons _ (.cons_cons _ (.cons_cons _ (.cons_cons _ (.cons _ (.cons_cons _ (.cons_cons _ (.cons_cons _ .slnil))))))))) (OkM.bat 1 [3, 7] [(83, .slice ayown31_0l42 yown31_0l42.length cyown31_0l42)] ?_)))))))
        refine OkM.head rfl rfl rfl (OpQ.step (v := .agg #[.int .i64 ybs7_0l42, .int .i64 ybs7_1l42, .slice ayown27_0l42 yown27_0l42.length cyown27_0l42, .slice ayown28_0l42 yown28_0l42.length cyown28_0l42, .slice ayown29_0l42 yown29_0l42.length cyown29_0l42]) (Yields.loadAgg 1 5 #[.int .i64 ybs7_0l42, .int .i64 ybs7_1l42, .slice ayown27_0l42 yown27_0l42.length cyown27_0l42, .slice ayown28_0l42 yown28_0l42.length cyown28_0l42, .slice ayown29_0l42 yown29_0l42.length cyown29_0l42] rfl rfl Try.underlying37 rfl (by kernel_rfl) (by kernel_rfl) (by kernel_rfl)) rfl rfl (OkM.bat 1 [3] [(2, .slice ayown31_0l42 yown31_0l42.length cyown31_0l42), (84, .agg #[.int .i64 ybs7_0l42, .int .i64 ybs7_1l42, .slice ayown27_0l42 yown27_0l42.length cyown27_0l42, .slice ayown28_0l42 yown28_0l42.length cyown28_0l42, .slice ayown29_0l42 yown29_0l42.length cyown29_0l42])] ?_))
        refine OkM.tail rfl rfl (OpOk.sto (k := 5) (v := .agg #[.int .i64 ybs7_0l42, .int .i64 ybs7_1l42, .slice ayown27_0l42 yown27_0l42.length cyown27_0l42, .slice ayown28_0l42 yown28_0l42.length cyown28_0l42, .slice ayown29_0l42 yown29_0l42.length cyown29_0l42]) 5 #[.int .i64 ybs7_0l42, .int .i64 ybs7_1l42, .slice ayown27_0l42 yown27_0l42.length cyown27_0l42, .slice ayown28_0l42 yown28_0l42.length cyown28_0l42, .slice ayown29_0l42 yown29_0l42.length cyown29_0l42] rfl rfl rfl ?_)
        refine OkM.leaf (i := 3) rfl (Gle.refl _) (.cons_cons _ (.cons_cons _ (.cons_cons _ (.cons_cons _ (.cons_cons _ (.cons _ (.cons_cons _ (.cons_cons _ (.cons_cons _ .slnil))))))))) (OkM.bat 1 [2, 3] [(4, .int .i64 0)] ?_)
        refine OkM.nil (Ok.thenN (Ok.ret (Ok.frz 0 rfl hLyown31_0l42 fun g63 hx63 hRf63 => ?_)))
        replace hLyown27_0l42 := hLyown27_0l42.mono hx63.1
        replace hLyown28_0l42 := hLyown28_0l42.mono hx63.1
        replace hLyown29_0l42 := hLyown29_0l42.mono hx63.1
        replace hL3 := hL3.mono hx63.1
        replace hL2 := hL2.mono hx63.1
        replace hL1 := hL1.mono hx63.1
        refine Ok.frz 3 rfl hLyown27_0l42 fun g64 hx64 hRf64 => ?_
        replace hRf63 := hRf63.mono hx64.1
        replace hLyown28_0l42 := hLyown28_0l42.mono hx64.1
        replace hLyown29_0l42 := hLyown29_0l42.mono hx64.1
        replace hL3 := hL3.mono hx64.1
        replace hL2 := hL2.mono hx64.1
        replace hL1 := hL1.mono hx64.1
        refine Ok.frz 2 rfl hLyown28_0l42 fun g65 hx65 hRf65 => ?_
        replace hRf63 := hRf63.mono hx65.1
        replace hRf64 := hRf64.mono hx65.1
        replace hLyown29_0l42 := hLyown29_0l42.mono hx65.1
        replace hL3 := hL3.mono hx65.1
        replace hL2 := hL2.mono hx65.1
        replace hL1 := hL1.mono hx65.1
        refine Ok.frz 1 rfl hLyown29_0l42 fun g66 hx66 hRf66 => ?_
        replace hRf63 := hRf63.mono hx66.1
        replace hRf64 := hRf64.mono hx66.1
        replace hRf65 := hRf65.mono hx66.1
        replace hL3 := hL3.mono hx66.1
        replace hL2 := hL2.mono hx66.1
        replace hL1 := hL1.mono hx66.1
        exact Ok.resP (vs := [.slice ayown31_0l42 yown31_0l42.length cyown31_0l42, .agg #[.int .i64 ybs7_0l42, .int .i64 ybs7_1l42, .slice ayown27_0l42 yown27_0l42.length cyown27_0l42, .slice ayown28_0l42 yown28_0l42.length cyown28_0l42, .slice ayown29_0l42 yown29_0l42.length cyown29_0l42], .int .i64 0]) [] [] (by decide) rfl (.inl rfl) rfl (.cons (.tmp rfl) (.cons (.cellAgg 1 5 #[.int .i64 ybs7_0l42, .int .i64 ybs7_1l42, .slice ayown27_0l42 yown27_0l42.length cyown27_0l42, .slice ayown28_0l42 yown28_0l42.length cyown28_0l42, .slice ayown29_0l42 yown29_0l42.length cyown29_0l42] rfl rfl Try.underlying37 rfl (by kernel_rfl) (by kernel_rfl) (by kernel_rfl)) (.cons (.tmp rfl) .nil))) (((((hxl15.trans hxl42).trans hx63).trans hx64).trans hx65).trans hx66) ⟨yown31_0l42, (ybs7_0l42, ybs7_1l42, yown27_0l42, yown28_0l42, yown29_0l42), 0, ayown31_0l42, cyown31_0l42, ayown27_0l42, cyown27_0l42, ayown28_0l42, cyown28_0l42, ayown29_0l42, cyown29_0l42, rfl, hRf63, hRf64, hRf65, hRf66, rfl, hF⟩
def lplS (l : List JK) : List JJ × JL × Int := if decide ((l.length : Int) > 200) = true then ([], zeroL, 2) else if l.any (fun a => !(lwiM a.1 1 6)) = true then ([], zeroL, 3) else ((plyS l).1, (plyS l).2, 0)
def lplP (l : List JK) : Prop := ∀ a ∈ l, -9223372036854775808 ≤ a.2.2.1 ∧ a.2.2.1 ≤ 9223372036854775807
theorem lch_P {q : JL} (hz : lchS q = 0) : lchP q := by
 obtain ⟨hb, -⟩ := lch_zero hz
 unfold big at hb; unfold lchP; omega
theorem lpl_F (l : List JK) (hp : lplP l) : lplF l (fun o q e => (o, q, e) = lplS l) := by
 refine ⟨fun h => by unfold lplS; rw [if_t h], fun h => ?_⟩
 have hlen : l.length ≤ 200 := by have := of_decide_eq_false h; omega
 have outer : ∀ (k i : Nat) (s : List JJ × JL), i + k = l.length → good s → (l.drop i).foldl ply s = plyS l → lplS l = ((plyS l).1, (plyS l).2, 0) → lpll42 l (fun o q e => (o, q, e) = lplS l) (k + 1) (i : Int) s.1 s.2.1 s.2.2.1 s.2.2.2.2.2 s.2.2.2.2.1 s.2.2.2.1 := by
  intro k
  induction k with
  | zero =>
   intro i s hi hg hf hS
   refine ⟨fun hh => by have := of_decide_eq_true hh; omega, fun _ => ?_⟩
   rw [List.drop_of_length_le (by omega)] at hf
   rw [hS, ← hf]; rfl
  | succ k ih =>
   intro i s hi hg hf hS
   have hil : i < l.length := by omega
   rw [drop_get default hil, List.foldl_cons] at hf
   have ih := ih (i + 1) (ply s (l.getD i default)) (by omega) (ply_good s _ hg) hf hS
   have hmem := mem_getD default hil
   generalize hC : lpll42 l (fun o q e => (o, q, e) = lplS l) (k + 1) = C at ih
   have hb := hp _ hmem
   refine ⟨fun _ => ⟨by omega, by rw [Int.toNat_natCast]; exact hil, fun h1 => ⟨⟨lch_P hg.1, by rw [Int.toNat_natCast]; exact hb⟩, ?_⟩, fun h1 => ?_⟩, fun hh => by have := of_decide_eq_false hh; omega⟩
   ·rw [hC]
    refine two ?_
    unfold lplj57 lplj49 lplV20 lplV21 lplV22 lplV23 lplV24
    rw [Int.toNat_natCast] at h1 ⊢
    generalize l.getD i default = a at *
    have hla : lasS s.2 a = raS s.2 a := by unfold lasS; rw [if_f (by rw [hg.1]; rfl)]
    rw [show ((s.2.1, s.2.2.1, s.2.2.2.1, s.2.2.2.2.1, s.2.2.2.2.2) : JL) = s.2 from rfl, hla, w64 (by omega)]
    unfold ply at ih
    rw [if_pos h1] at ih
    cases hc : ((raS s.2 a).2.2 == 0)
    ·rw [if_neg (by rw [hc]; simp)] at ih
     rw [if_f rfl, if_f rfl, if_f rfl, if_f rfl, if_f rfl]
     exact ih
    ·rw [if_pos hc] at ih
     rw [if_t rfl, if_t rfl, if_t rfl, if_t rfl, if_t rfl]
     exact ih
   ·rw [hC]
    rw [Int.toNat_natCast] at h1 ⊢
    generalize l.getD i default = a at *
    have hz := (lch_zero hg.1).2
    have hnow := hz.now
    have done : ∀ s' : List JJ × JL, C ((i + 1 : Nat) : Int) s'.1 s'.2.1 s'.2.2.1 s'.2.2.2.2.2 s'.2.2.2.2.1 s'.2.2.2.1 → lplj49 s'.2.1 s'.2.2.1 (i : Int) s'.2.2.2.1 s'.2.2.2.2.1 s'.2.2.2.2.2 s'.1 C := fun s' h => by
     unfold lplj49
     rw [w64 (by omega)]; exact h
    have stop : ∀ (n : Nat) (out : List JJ) (q : JL), C ((i + 1 : Nat) : Int) out q.1 q.2.1 q.2.2.2.2 q.2.2.2.1 q.2.2.1 → lpll72 (i : Int) s.2.1 C a (n + 1) false out q.1 q.2.1 q.2.2.2.2 q.2.2.2.1 q.2.2.1 := fun n out q h =>
     ⟨fun hh => by simp at hh, fun _ => done (out, q) h⟩
    unfold ply at ih
    rw [if_f h1] at ih
    cases hm : (lwiM a.2.2.1 0 1000000 && decide (s.2.1 + a.2.2.1 ≤ 1000000000))
    ·rw [hm, if_f rfl] at ih
     have hm2 : (lwiM a.2.2.1 0 1000000 && decide (w6 (s.2.1 + a.2.2.1) ≤ 1000000000)) = false := by
      cases hw : lwiM a.2.2.1 0 1000000
      ·rfl
      ·rw [hw] at hm
       rw [w64 (by have := (lwi_iff _ _ _).1 hw; omega)]; exact hm
     rw [hm2]
     exact ⟨1, stop 0 s.1 s.2 ih⟩
    ·rw [hm, if_t rfl] at ih
     have hm' := hm
     rw [Bool.and_eq_true, lwi_iff, decide_eq_true_eq] at hm'
     have hu : w6 (s.2.1 + a.2.2.1) = s.2.1 + a.2.2.1 := w64 (by omega)
     rw [hu, hm]
     have run : ∀ (n : Nat) (q : JL) (out : List JJ), lchS q = 0 → q.1 ≤ s.2.1 + a.2.2.1 → out.length + n = 300 → C ((i + 1 : Nat) : Int) (runP n q (s.2.1 + a.2.2.1) out).1 (runP n q (s.2.1 + a.2.2.1) out).2.1 (runP n q (s.2.1 + a.2.2.1) out).2.2.1 (runP n q (s.2.1 + a.2.2.1) out).2.2.2.2.2 (runP n q (s.2.1 + a.2.2.1) out).2.2.2.2.1 (runP n q (s.2.1 + a.2.2.1) out).2.2.2.1 → lpll72 (i : Int) s.2.1 C a (n + 2) true out q.1 q.2.1 q.2.2.2.2 q.2.2.2.1 q.2.2.1 := by
      intro n
      induction n with
      | zero =>
       intro q out hz hq hn hD
       exact ⟨fun hh => by simp at hh; omega, fun _ => done (out, q) hD⟩
      | succ n ihn =>
       intro q out hz hq hn hD
       have hk := rn_keep (u := s.2.1 + a.2.2.1) hz ⟨hq, hm'.2⟩
       refine ⟨fun _ => ⟨hz, ?_⟩, fun hh => by simp at hh; omega⟩
       rw [hu]
       refine ⟨fun hh => ⟨by rw [List.length_append, List.length_singleton]; omega, ?_⟩, fun hh => ?_⟩
       ·rw [hh]
        have h2 : (rnS q (s.2.1 + a.2.2.1)).2.2 = true := hh
        rw [runP, if_pos h2] at hD
        exact ihn _ _ hk.1 hk.2 (by rw [List.length_append, List.length_singleton]; omega) hD
       ·rw [hh]
        have h2 : ¬ (rnS q (s.2.1 + a.2.2.1)).2.2 = true := by rw [show (rnS q (s.2.1 + a.2.2.1)).2.2 = false from hh]; simp
        rw [runP, if_neg h2] at hD
        exact stop (n + 1) out (rnS q (s.2.1 + a.2.2.1)).1 hD
     have hl3 := hg.2
     exact ⟨_, run (300 - s.1.length) s.2 s.1 hg.1 (by omega) (by omega) ih⟩
 have first : ∀ (k i : Nat), i + k = l.length → (∀ a ∈ l.take i, (!(lwiM a.1 1 6)) = false) → lpll15 l (fun o q e => (o, q, e) = lplS l) (k + 1) (i : Int) := by
  intro k
  induction k with
  | zero =>
   intro i hi hall
   rw [List.take_of_length_le (by omega)] at hall
   have hS : lplS l = ((plyS l).1, (plyS l).2, 0) := by
    unfold lplS
    rw [if_f h, if_f (List.any_eq_false.2 fun a ha => by rw [hall a ha]; simp)]
   exact ⟨fun hh => by have := of_decide_eq_true hh; omega, fun _ => ⟨_, outer l.length 0 ([], zeroL) (by omega) zero_good (by rw [List.drop_zero]; rfl) hS⟩⟩
  | succ k ih =>
   intro i hi hall
   have hil : i < l.length := by omega
   have hmem := mem_getD default hil
   refine ⟨fun _ => ⟨by omega, by rw [Int.toNat_natCast]; exact hil, fun hh => ?_, fun hh => ?_⟩, fun hh => by have := of_decide_eq_false hh; omega⟩
   ·rw [Int.toNat_natCast] at hh
    unfold lplS
    rw [if_f h, if_t (List.any_eq_true.2 ⟨_, hmem, hh⟩)]
   ·rw [Int.toNat_natCast] at hh
    rw [w64 (by omega)]
    refine ih (i + 1) (by omega) fun a ha => ?_
    rw [take_get default hil] at ha
    rcases List.mem_append.1 ha with ha | ha
    ·exact hall a ha
    ·rw [List.mem_singleton] at ha; subst ha; exact hh
 exact ⟨_, first l.length 0 (by omega) fun a ha => by simp at ha⟩
theorem lpl_c {g : Ghost} {axasks_0 : Option Addr} {cxasks_0 : Nat} (xasks : List (Int × Int × Int × Bs × Int × Int × Bs)) (hRxasks_0 : Rep g (.slice (.pair (.int .i64) (.pair (.int .i64) (.pair (.int .i64) (.pair (.str) (.pair (.int .i64) (.pair (.int .i64) (.str)))))))) [.slice axasks_0 xasks.length cxasks_0] xasks)  (hp : lplP xasks) : CallsH Try.prog 19 #[.slice axasks_0 xasks.length cxasks_0] g [] (fun g' H' v => ∃ (ar0_0 : Option Addr) (cr0_0 : Nat), ∃ (ar1_0 : Option Addr) (cr1_0 : Nat), ∃ (ar1_1 : Option Addr) (cr1_1 : Nat), ∃ (ar1_2 : Option Addr) (cr1_2 : Nat), v = .tuple #[.slice ar0_0 ((lplS xasks).1).length cr0_0, .agg #[.int .i64 (lplS xasks).2.1.1, .int .i64 (lplS xasks).2.1.2.1, .slice ar1_0 (lplS xasks).2.1.2.2.1.length cr1_0, .slice ar1_1 (lplS xasks).2.1.2.2.2.1.length cr1_1, .slice ar1_2 (lplS xasks).2.1.2.2.2.2.length cr1_2], .int .i64 (lplS xasks).2.2] ∧ Rep g' (.slice (.pair (.int .i64) (.pair (.int .i64) (.pair (.bool) (.pair (.str) (.pair (.int .i64) (.pair (.int .i64) (.str)))))))) [.slice ar0_0 ((lplS xasks).1).length cr0_0] (lplS xasks).1 ∧ Rep g' (.slice (.pair (.int .i64) (.pair (.int .i64) (.pair (.bool) (.pair (.str) (.pair (.int .i64) (.pair (.int .i64) (.str)))))))) [.slice ar1_0 (lplS xasks).2.1.2.2.1.length cr1_0] (lplS xasks).2.1.2.2.1 ∧ Rep g' (.slice (.pair (.int .i64) (.pair (.int .i64) (.pair (.bool) (.pair (.str) (.pair (.int .i64) (.pair (.int .i64) (.str)))))))) [.slice ar1_1 (lplS xasks).2.1.2.2.2.1.length cr1_1] (lplS xasks).2.1.2.2.2.1 ∧ Rep g' (.slice (.pair (.int .i64) (.pair (.int .i64) (.pair (.int .i64) (.pair (.int .i64) (.str)))))) [.slice ar1_2 (lplS xasks).2.1.2.2.2.2.length cr1_2] (lplS xasks).2.1.2.2.2.2 ∧ H' = []) :=
 (lpl_ok xasks hRxasks_0 _ (lpl_F xasks hp)).mono (by rintro g' H' v _ ⟨r0, r1, r2, ar0_0, cr0_0, ar1_0, cr1_0, ar1_1, cr1_1, ar1_2, cr1_2, rfl, hRr0_0, hRr1_0, hRr1_1, hRr1_2, rfl, hK⟩; obtain ⟨rfl, rfl, rfl⟩ : r0 = (lplS xasks).1 ∧ r1 = (lplS xasks).2.1 ∧ r2 = (lplS xasks).2.2 := ⟨congrArg (fun z => z.1) hK, congrArg (fun z => z.2.1) hK, congrArg (fun z => z.2.2) hK⟩; exact ⟨ar0_0, cr0_0, ar1_0, cr1_0, ar1_1, cr1_1, ar1_2, cr1_2, rfl, hRr0_0, hRr1_0, hRr1_1, hRr1_2, rfl⟩)
end
end Go.Proofs.Ytbifbljdmndjbaa.Lo
