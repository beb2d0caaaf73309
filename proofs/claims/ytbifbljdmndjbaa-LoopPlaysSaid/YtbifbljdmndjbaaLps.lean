/- Loops: Play, by the reference; the law. -/
import Derived.Test.YtbifbljdmndjbaaLpp
import Derived.Test.YtbifbljdmndjbaaLpr
import Derived.Test.YtbifbljdmndjbaaLift
namespace Go.Proofs.Ytbifbljdmndjbaa.Lo
open Go Go.Eng Go.RowKit
set_option maxHeartbeats 4000000
set_option maxRecDepth 100000
set_option linter.unusedSimpArgs false
set_option linter.unusedVariables false
noncomputable section
def rlpV6 (e6 : Int × Int × Int × Bs × Int × Int × Bs) (ybs4_0l11 : Int) (ybs4_1l11 : Int) (ybs4_2l11 : List (JJ)) (ybs4_3l11 : List (JJ)) (ybs4_4l11 : List (JT)) : Int :=
 (if ((raS (ybs4_0l11, ybs4_1l11, ybs4_2l11, ybs4_3l11, ybs4_4l11) e6).2.2 == 0) = true then (raS (ybs4_0l11, ybs4_1l11, ybs4_2l11, ybs4_3l11, ybs4_4l11) e6).1.1 else ybs4_0l11)
def rlpV7 (e6 : Int × Int × Int × Bs × Int × Int × Bs) (ybs4_0l11 : Int) (ybs4_1l11 : Int) (ybs4_2l11 : List (JJ)) (ybs4_3l11 : List (JJ)) (ybs4_4l11 : List (JT)) : Int :=
 (if ((raS (ybs4_0l11, ybs4_1l11, ybs4_2l11, ybs4_3l11, ybs4_4l11) e6).2.2 == 0) = true then (raS (ybs4_0l11, ybs4_1l11, ybs4_2l11, ybs4_3l11, ybs4_4l11) e6).1.2.1 else ybs4_1l11)
def rlpV8 (e6 : Int × Int × Int × Bs × Int × Int × Bs) (ybs4_0l11 : Int) (ybs4_1l11 : Int) (ybs4_2l11 : List (JJ)) (ybs4_3l11 : List (JJ)) (ybs4_4l11 : List (JT)) : List (JJ) :=
 (if ((raS (ybs4_0l11, ybs4_1l11, ybs4_2l11, ybs4_3l11, ybs4_4l11) e6).2.2 == 0) = true then (raS (ybs4_0l11, ybs4_1l11, ybs4_2l11, ybs4_3l11, ybs4_4l11) e6).1.2.2.1 else ybs4_2l11)
def rlpV9 (e6 : Int × Int × Int × Bs × Int × Int × Bs) (ybs4_0l11 : Int) (ybs4_1l11 : Int) (ybs4_2l11 : List (JJ)) (ybs4_3l11 : List (JJ)) (ybs4_4l11 : List (JT)) : List (JJ) :=
 (if ((raS (ybs4_0l11, ybs4_1l11, ybs4_2l11, ybs4_3l11, ybs4_4l11) e6).2.2 == 0) = true then (raS (ybs4_0l11, ybs4_1l11, ybs4_2l11, ybs4_3l11, ybs4_4l11) e6).1.2.2.2.1 else ybs4_3l11)
def rlpV10 (e6 : Int × Int × Int × Bs × Int × Int × Bs) (ybs4_0l11 : Int) (ybs4_1l11 : Int) (ybs4_2l11 : List (JJ)) (ybs4_3l11 : List (JJ)) (ybs4_4l11 : List (JT)) : List (JT) :=
 (if ((raS (ybs4_0l11, ybs4_1l11, ybs4_2l11, ybs4_3l11, ybs4_4l11) e6).2.2 == 0) = true then (raS (ybs4_0l11, ybs4_1l11, ybs4_2l11, ybs4_3l11, ybs4_4l11) e6).1.2.2.2.2 else ybs4_4l11)
def rlpV11 (e6 : Int × Int × Int × Bs × Int × Int × Bs) (ybs4_0l11 : Int) : Bool :=
 ((!(rbtM e6.2.2.1 0 1000000)) || (decide ((w6 (ybs4_0l11 + e6.2.2.1)) > 1000000000)))
def rlpj18 (yown3_0j18 : List (JJ)) (ybs4_0j18 : Int) (ybs4_1j18 : Int) (ybs4_2j18 : List (JJ)) (ybs4_3j18 : List (JJ)) (ybs4_4j18 : List (JT)) (x17l11 : Int) (C11 : Int → (List (JJ)) → Int → Int → (List (JJ)) → (List (JJ)) → (List (JT)) → Prop) : Prop :=
 C11 (w6 (x17l11 + 1)) yown3_0j18 ybs4_0j18 ybs4_1j18 ybs4_2j18 ybs4_3j18 ybs4_4j18
def rlpj26 (xasks : List (Int × Int × Int × Bs × Int × Int × Bs)) (x17l11 : Int) (yown3_0l11 : List (JJ)) (ybs4_0l11 : Int) (ybs4_1l11 : Int) (ybs4_2l11 : List (JJ)) (ybs4_3l11 : List (JJ)) (ybs4_4l11 : List (JT)) (C11 : Int → (List (JJ)) → Int → Int → (List (JJ)) → (List (JJ)) → (List (JT)) → Prop) : Prop :=
 rlpj18 yown3_0l11 (rlpV6 (xasks.getD (Int.toNat x17l11) default) ybs4_0l11 ybs4_1l11 ybs4_2l11 ybs4_3l11 ybs4_4l11) (rlpV7 (xasks.getD (Int.toNat x17l11) default) ybs4_0l11 ybs4_1l11 ybs4_2l11 ybs4_3l11 ybs4_4l11) (rlpV8 (xasks.getD (Int.toNat x17l11) default) ybs4_0l11 ybs4_1l11 ybs4_2l11 ybs4_3l11 ybs4_4l11) (rlpV9 (xasks.getD (Int.toNat x17l11) default) ybs4_0l11 ybs4_1l11 ybs4_2l11 ybs4_3l11 ybs4_4l11) (rlpV10 (xasks.getD (Int.toNat x17l11) default) ybs4_0l11 ybs4_1l11 ybs4_2l11 ybs4_3l11 ybs4_4l11) x17l11 C11
def rlpl45b (xasks : List (Int × Int × Int × Bs × Int × Int × Bs)) (e6 : Int × Int × Int × Bs × Int × Int × Bs) (x17l11 : Int) (ybs4_0l11 : Int) (C11 : Int → (List (JJ)) → Int → Int → (List (JJ)) → (List (JJ)) → (List (JT)) → Prop) (yown3_0l45 : List (JJ)) (ybs4_0l45 : Int) (ybs4_1l45 : Int) (ybs4_2l45 : List (JJ)) (ybs4_3l45 : List (JJ)) (ybs4_4l45 : List (JT)) (C45 : (List (JJ)) → Int → Int → (List (JJ)) → (List (JJ)) → (List (JT)) → Prop) : Prop :=
 ((decide ((yown3_0l45.length : Int) < 300)) = true → rlnP (ybs4_0l45, ybs4_1l45, ybs4_2l45, ybs4_3l45, ybs4_4l45) (w6 (ybs4_0l11 + e6.2.2.1)) ∧ ((!((rnS (ybs4_0l45, ybs4_1l45, ybs4_2l45, ybs4_3l45, ybs4_4l45) (w6 (ybs4_0l11 + e6.2.2.1))).2.2)) = true → rlpj18 yown3_0l45 (rnS (ybs4_0l45, ybs4_1l45, ybs4_2l45, ybs4_3l45, ybs4_4l45) (w6 (ybs4_0l11 + (xasks.getD (Int.toNat x17l11) default).2.2.1))).1.1 (rnS (ybs4_0l45, ybs4_1l45, ybs4_2l45, ybs4_3l45, ybs4_4l45) (w6 (ybs4_0l11 + (xasks.getD (Int.toNat x17l11) default).2.2.1))).1.2.1 (rnS (ybs4_0l45, ybs4_1l45, ybs4_2l45, ybs4_3l45, ybs4_4l45) (w6 (ybs4_0l11 + (xasks.getD (Int.toNat x17l11) default).2.2.1))).1.2.2.1 (rnS (ybs4_0l45, ybs4_1l45, ybs4_2l45, ybs4_3l45, ybs4_4l45) (w6 (ybs4_0l11 + (xasks.getD (Int.toNat x17l11) default).2.2.1))).1.2.2.2.1 (rnS (ybs4_0l45, ybs4_1l45, ybs4_2l45, ybs4_3l45, ybs4_4l45) (w6 (ybs4_0l11 + (xasks.getD (Int.toNat x17l11) default).2.2.1))).1.2.2.2.2 x17l11 C11) ∧ ((!((rnS (ybs4_0l45, ybs4_1l45, ybs4_2l45, ybs4_3l45, ybs4_4l45) (w6 (ybs4_0l11 + e6.2.2.1))).2.2)) = false → (yown3_0l45 ++ ([((rnS (ybs4_0l45, ybs4_1l45, ybs4_2l45, ybs4_3l45, ybs4_4l45) (w6 (ybs4_0l11 + e6.2.2.1))).2.1.1, (rnS (ybs4_0l45, ybs4_1l45, ybs4_2l45, ybs4_3l45, ybs4_4l45) (w6 (ybs4_0l11 + e6.2.2.1))).2.1.2.1, (rnS (ybs4_0l45, ybs4_1l45, ybs4_2l45, ybs4_3l45, ybs4_4l45) (w6 (ybs4_0l11 + e6.2.2.1))).2.1.2.2.1, (rnS (ybs4_0l45, ybs4_1l45, ybs4_2l45, ybs4_3l45, ybs4_4l45) (w6 (ybs4_0l11 + e6.2.2.1))).2.1.2.2.2.1, (rnS (ybs4_0l45, ybs4_1l45, ybs4_2l45, ybs4_3l45, ybs4_4l45) (w6 (ybs4_0l11 + e6.2.2.1))).2.1.2.2.2.2)] : List (JJ))).length ≤ 1954687338268 ∧ C45 (yown3_0l45 ++ ([((rnS (ybs4_0l45, ybs4_1l45, ybs4_2l45, ybs4_3l45, ybs4_4l45) (w6 (ybs4_0l11 + e6.2.2.1))).2.1.1, (rnS (ybs4_0l45, ybs4_1l45, ybs4_2l45, ybs4_3l45, ybs4_4l45) (w6 (ybs4_0l11 + e6.2.2.1))).2.1.2.1, (rnS (ybs4_0l45, ybs4_1l45, ybs4_2l45, ybs4_3l45, ybs4_4l45) (w6 (ybs4_0l11 + e6.2.2.1))).2.1.2.2.1, (rnS (ybs4_0l45, ybs4_1l45, ybs4_2l45, ybs4_3l45, ybs4_4l45) (w6 (ybs4_0l11 + e6.2.2.1))).2.1.2.2.2.1, (rnS (ybs4_0l45, ybs4_1l45, ybs4_2l45, ybs4_3l45, ybs4_4l45) (w6 (ybs4_0l11 + e6.2.2.1))).2.1.2.2.2.2)] : List (JJ))) (rnS (ybs4_0l45, ybs4_1l45, ybs4_2l45, ybs4_3l45, ybs4_4l45) (w6 (ybs4_0l11 + e6.2.2.1))).1.1 (rnS (ybs4_0l45, ybs4_1l45, ybs4_2l45, ybs4_3l45, ybs4_4l45) (w6 (ybs4_0l11 + e6.2.2.1))).1.2.1 (rnS (ybs4_0l45, ybs4_1l45, ybs4_2l45, ybs4_3l45, ybs4_4l45) (w6 (ybs4_0l11 + e6.2.2.1))).1.2.2.1 (rnS (ybs4_0l45, ybs4_1l45, ybs4_2l45, ybs4_3l45, ybs4_4l45) (w6 (ybs4_0l11 + e6.2.2.1))).1.2.2.2.1 (rnS (ybs4_0l45, ybs4_1l45, ybs4_2l45, ybs4_3l45, ybs4_4l45) (w6 (ybs4_0l11 + e6.2.2.1))).1.2.2.2.2)) ∧ ((decide ((yown3_0l45.length : Int) < 300)) = false → rlpj18 yown3_0l45 ybs4_0l45 ybs4_1l45 ybs4_2l45 ybs4_3l45 ybs4_4l45 x17l11 C11)
def rlpl45 (xasks : List (Int × Int × Int × Bs × Int × Int × Bs)) (e6 : Int × Int × Int × Bs × Int × Int × Bs) (x17l11 : Int) (ybs4_0l11 : Int) (C11 : Int → (List (JJ)) → Int → Int → (List (JJ)) → (List (JJ)) → (List (JT)) → Prop) : Nat → (List (JJ)) → Int → Int → (List (JJ)) → (List (JJ)) → (List (JT)) → Prop
 | 0, _, _, _, _, _, _ => False
 | k + 1, yown3_0l45, ybs4_0l45, ybs4_1l45, ybs4_2l45, ybs4_3l45, ybs4_4l45 => rlpl45b xasks e6 x17l11 ybs4_0l11 C11 yown3_0l45 ybs4_0l45 ybs4_1l45 ybs4_2l45 ybs4_3l45 ybs4_4l45 (rlpl45 xasks e6 x17l11 ybs4_0l11 C11 k)
def rlpj37 (xasks : List (Int × Int × Int × Bs × Int × Int × Bs)) (e6 : Int × Int × Int × Bs × Int × Int × Bs) (x17l11 : Int) (yown3_0l11 : List (JJ)) (ybs4_0l11 : Int) (ybs4_1l11 : Int) (ybs4_2l11 : List (JJ)) (ybs4_3l11 : List (JJ)) (ybs4_4l11 : List (JT)) (C11 : Int → (List (JJ)) → Int → Int → (List (JJ)) → (List (JJ)) → (List (JT)) → Prop) : Prop :=
 (((rlpV11 e6 ybs4_0l11)) = true → rlpj18 yown3_0l11 ybs4_0l11 ybs4_1l11 ybs4_2l11 ybs4_3l11 ybs4_4l11 x17l11 C11) ∧ (((rlpV11 e6 ybs4_0l11)) = false → ∃ k, rlpl45 xasks e6 x17l11 ybs4_0l11 C11 k yown3_0l11 ybs4_0l11 ybs4_1l11 ybs4_2l11 ybs4_3l11 ybs4_4l11)
def rlpl11b (xasks : List (Int × Int × Int × Bs × Int × Int × Bs)) (K : (List (JJ)) → (JL) → Prop) (x17l11 : Int) (yown3_0l11 : List (JJ)) (ybs4_0l11 : Int) (ybs4_1l11 : Int) (ybs4_2l11 : List (JJ)) (ybs4_3l11 : List (JJ)) (ybs4_4l11 : List (JT)) (C11 : Int → (List (JJ)) → Int → Int → (List (JJ)) → (List (JJ)) → (List (JT)) → Prop) : Prop :=
 ((decide (x17l11 < (xasks.length : Int))) = true → (0 : Int) ≤ x17l11 ∧ Int.toNat x17l11 < xasks.length ∧ ((decide ((xasks.getD (Int.toNat x17l11) default).1 < 6)) = true → rlaP (ybs4_0l11, ybs4_1l11, ybs4_2l11, ybs4_3l11, ybs4_4l11) (xasks.getD (Int.toNat x17l11) default) ∧ ((((raS (ybs4_0l11, ybs4_1l11, ybs4_2l11, ybs4_3l11, ybs4_4l11) (xasks.getD (Int.toNat x17l11) default)).2.2 == 0)) = true → rlpj26 xasks x17l11 yown3_0l11 ybs4_0l11 ybs4_1l11 ybs4_2l11 ybs4_3l11 ybs4_4l11 C11) ∧ ((((raS (ybs4_0l11, ybs4_1l11, ybs4_2l11, ybs4_3l11, ybs4_4l11) (xasks.getD (Int.toNat x17l11) default)).2.2 == 0)) = false → rlpj26 xasks x17l11 yown3_0l11 ybs4_0l11 ybs4_1l11 ybs4_2l11 ybs4_3l11 ybs4_4l11 C11)) ∧ ((decide ((xasks.getD (Int.toNat x17l11) default).1 < 6)) = false → ((!(rbtM (xasks.getD (Int.toNat x17l11) default).2.2.1 0 1000000)) = true → rlpj37 xasks (xasks.getD (Int.toNat x17l11) default) x17l11 yown3_0l11 ybs4_0l11 ybs4_1l11 ybs4_2l11 ybs4_3l11 ybs4_4l11 C11) ∧ ((!(rbtM (xasks.getD (Int.toNat x17l11) default).2.2.1 0 1000000)) = false → rlpj37 xasks (xasks.getD (Int.toNat x17l11) default) x17l11 yown3_0l11 ybs4_0l11 ybs4_1l11 ybs4_2l11 ybs4_3l11 ybs4_4l11 C11))) ∧ ((decide (x17l11 < (xasks.length : Int))) = false → K yown3_0l11 (ybs4_0l11, ybs4_1l11, ybs4_2l11, ybs4_3l11, ybs4_4l11))
def rlpl11 (xasks : List (Int × Int × Int × Bs × Int × Int × Bs)) (K : (List (JJ)) → (JL) → Prop) : Nat → Int → (List (JJ)) → Int → Int → (List (JJ)) → (List (JJ)) → (List (JT)) → Prop
 | 0, _, _, _, _, _, _, _ => False
 | k + 1, x17l11, yown3_0l11, ybs4_0l11, ybs4_1l11, ybs4_2l11, ybs4_3l11, ybs4_4l11 => rlpl11b xasks K x17l11 yown3_0l11 ybs4_0l11 ybs4_1l11 ybs4_2l11 ybs4_3l11 ybs4_4l11 (rlpl11 xasks K k)
def rlpF (xasks : List (Int × Int × Int × Bs × Int × Int × Bs)) (K : (List (JJ)) → (JL) → Prop) : Prop :=
 ∃ k, rlpl11 xasks K k 0 ([] : List (JJ)) 0 0 ([]) ([]) ([])
theorem rlp_ok {g : Ghost} {axasks_0 : Option Addr} {cxasks_0 : Nat} (xasks : List (Int × Int × Int × Bs × Int × Int × Bs)) (hRxasks_0 : Rep g (.slice (.pair (.int .i64) (.pair (.int .i64) (.pair (.int .i64) (.pair (.str) (.pair (.int .i64) (.pair (.int .i64) (.str)))))))) [.slice axasks_0 xasks.length cxasks_0] xasks) (K : (List (JJ)) → (JL) → Prop)
  (hF : rlpF xasks K) : CallsH Try.prog 22 #[.slice axasks_0 xasks.length cxasks_0] g [] (fun g' H' v => ∃ (r0 : List (JJ)), ∃ (r1 : JL), ∃ (ar0_0 : Option Addr) (cr0_0 : Nat), ∃ (ar1_0 : Option Addr) (cr1_0 : Nat), ∃ (ar1_1 : Option Addr) (cr1_1 : Nat), ∃ (ar1_2 : Option Addr) (cr1_2 : Nat), v = .tuple #[.slice ar0_0 r0.length cr0_0, .agg #[.int .i64 r1.1, .int .i64 r1.2.1, .slice ar1_0 r1.2.2.1.length cr1_0, .slice ar1_1 r1.2.2.2.1.length cr1_1, .slice ar1_2 r1.2.2.2.2.length cr1_2]] ∧ Rep g' (.slice (.pair (.int .i64) (.pair (.int .i64) (.pair (.bool) (.pair (.str) (.pair (.int .i64) (.pair (.int .i64) (.str)))))))) [.slice ar0_0 r0.length cr0_0] r0 ∧ Rep g' (.slice (.pair (.int .i64) (.pair (.int .i64) (.pair (.bool) (.pair (.str) (.pair (.int .i64) (.pair (.int .i64) (.str)))))))) [.slice ar1_0 r1.2.2.1.length cr1_0] r1.2.2.1 ∧ Rep g' (.slice (.pair (.int .i64) (.pair (.int .i64) (.pair (.bool) (.pair (.str) (.pair (.int .i64) (.pair (.int .i64) (.str)))))))) [.slice ar1_1 r1.2.2.2.1.length cr1_1] r1.2.2.2.1 ∧ Rep g' (.slice (.pair (.int .i64) (.pair (.int .i64) (.pair (.int .i64) (.pair (.int .i64) (.str)))))) [.slice ar1_2 r1.2.2.2.2.length cr1_2] r1.2.2.2.2 ∧ H' = [] ∧ K r0 r1) := by
 refine CallsH.enter 71 [(0, .slice axasks_0 xasks.length cxasks_0)] Try.func22 rfl (by kernel_rfl) (by kernel_rfl) (by kernel_rfl) fun w0 => ?_
 refine Ok.seq (Ok.region (Ok.batch 1 [(0, .slice axasks_0 xasks.length cxasks_0)] (by kernel_rfl) (Ok.op rfl (OpOk.alloc (z := .agg #[.int .i64 0, .int .i64 0, .slice none 0 0, .slice none 0 0, .slice none 0 0]) (cs := #[.int .i64 0, .int .i64 0, .slice none 0 0, .slice none 0 0, .slice none 0 0]) (by kernel_rfl) (by kernel_rfl) rfl fun bs3 => ?_))))
 refine Ok.nil (Ok.thenN (Ok.seq (Ok.region (Ok.op rfl (OpOk.alloc (z := .agg #[.int .i64 0, .int .i64 0, .slice none 0 0, .slice none 0 0, .slice none 0 0]) (cs := #[.int .i64 0, .int .i64 0, .slice none 0 0, .slice none 0 0, .slice none 0 0]) (by kernel_rfl) (by kernel_rfl) rfl fun bs4 => ?_)))))
 refine Ok.nil (Ok.thenN (Ok.seq (Ok.region (Ok.bat 1 [0] [(3, pv bs3 0), (4, pv bs4 0), (5, .slice none 0 0)] ?_))))
 have hL3 : RepL g (.pair (.int .i64) (.pair (.int .i64) (.pair (.bool) (.pair (.str) (.pair (.int .i64) (.pair (.int .i64) (.str))))))) [] [] := rfl
 refine Ok.ownNil 43 7 (Ok.nil (Ok.thenN (Ok.seq (Ok.seq (Ok.region (Ok.bat 3 [3, 4] [(5, .slice none ([] : List (JJ)).length 0), (15, .slice axasks_0 xasks.length cxasks_0), (16, .int .i64 (xasks.length : Int)), (17, .int .i64 0)] ?_))))))
 refine Ok.nil (Ok.thenN (Ok.block ?_))
 obtain ⟨k, hF⟩ := hF
 refine Ok.loop (fun k a W => ∃ gl11 : Ghost, Gext w0 g gl11 ∧ ∃ (x17l11 : Int) (ayown3_0l11 : Option Addr) (cyown3_0l11 : Nat) (yown3_0l11 : List (JJ)) (xsyown3_0l11 : List Value) (ybs4_0l11 : Int) (ybs4_1l11 : Int) (aybs4_2l11 : Option Addr) (cybs4_2l11 : Nat) (ybs4_2l11 : List (JJ)) (aybs4_3l11 : Option Addr) (cybs4_3l11 : Nat) (ybs4_3l11 : List (JJ)) (aybs4_4l11 : Option Addr) (cybs4_4l11 : Nat) (ybs4_4l11 : List (JT)), RepL gl11 (.pair (.int .i64) (.pair (.int .i64) (.pair (.bool) (.pair (.str) (.pair (.int .i64) (.pair (.int .i64) (.str))))))) xsyown3_0l11 yown3_0l11 ∧ Rep gl11 (.slice (.pair (.int .i64) (.pair (.int .i64) (.pair (.bool) (.pair (.str) (.pair (.int .i64) (.pair (.int .i64) (.str)))))))) [.slice aybs4_2l11 ybs4_2l11.length cybs4_2l11] ybs4_2l11 ∧ Rep gl11 (.slice (.pair (.int .i64) (.pair (.int .i64) (.pair (.bool) (.pair (.str) (.pair (.int .i64) (.pair (.int .i64) (.str)))))))) [.slice aybs4_3l11 ybs4_3l11.length cybs4_3l11] ybs4_3l11 ∧ Rep gl11 (.slice (.pair (.int .i64) (.pair (.int .i64) (.pair (.int .i64) (.pair (.int .i64) (.str)))))) [.slice aybs4_4l11 ybs4_4l11.length cybs4_4l11] ybs4_4l11 ∧ StA 71 [(3, pv bs3 0), (4, pv bs4 0), (5, .slice ayown3_0l11 yown3_0l11.length cyown3_0l11), (15, .slice axasks_0 xasks.length cxasks_0), (16, .int .i64 (xasks.length : Int)), (17, .int .i64 x17l11)] a ∧ StW w0 [.own (.slice ayown3_0l11 yown3_0l11.length cyown3_0l11) 43 7 yown3_0l11.length xsyown3_0l11, .blk bs4 (.cells #[.int .i64 ybs4_0l11, .int .i64 ybs4_1l11, .slice aybs4_2l11 ybs4_2l11.length cybs4_2l11, .slice aybs4_3l11 ybs4_3l11.length cybs4_3l11, .slice aybs4_4l11 ybs4_4l11.length cybs4_4l11] 37), .blk bs3 (.cells #[.int .i64 0, .int .i64 0, .slice none 0 0, .slice none 0 0, .slice none 0 0] 37)] gl11 W ∧ rlpl11 xasks K k x17l11 yown3_0l11 ybs4_0l11 ybs4_1l11 ybs4_2l11 ybs4_3l11 ybs4_4l11) k ?_ ?_
 ·
  exact fun a W hA hW => ⟨g, (Gext.refl w0 g), 0, none, 0, ([] : List (JJ)), [], 0, 0, none, 0, [], none, 0, [], none, 0, [], hL3, Rep.nil, Rep.nil, Rep.nil, hA.sub (by kernel_rfl), hW, hF⟩
 ·
  clear hF
  rintro k11 a W ⟨gl11, hxl11, x17l11, ayown3_0l11, cyown3_0l11, yown3_0l11, xsyown3_0l11, ybs4_0l11, ybs4_1l11, aybs4_2l11, cybs4_2l11, ybs4_2l11, aybs4_3l11, cybs4_3l11, ybs4_3l11, aybs4_4l11, cybs4_4l11, ybs4_4l11, hLyown3_0l11, hRybs4_2l11, hRybs4_3l11, hRybs4_4l11, hA, hW, hF⟩
  cases k11 with
  | zero => exact (hF : False).elim
  | succ k11 =>
   refine (?_ : Ok _ _ _ _ _ _) a W hA hW
   clear hA hW
   replace hRxasks_0 := hRxasks_0.mono hxl11.1
   refine Ok.seq (Ok.region (Ok.bat 1 [3, 4, 5, 15, 16, 17] [(18, .bool (decide (x17l11 < (xasks.length : Int))))] ?_))
   refine Ok.nil (Ok.thenN (Ok.seq (Ok.cond (b := decide (x17l11 < (xasks.length : Int))) rfl (fun hc4 => ?_) (fun hc4 => ?_))))
   ·replace hF := hF.1 hc4
    refine Ok.skip (Ok.thenN (Ok.cut (fun a W => ∃ gj18 : Ghost, Gext w0 gl11 gj18 ∧ ∃ (ayown3_0j18 : Option Addr) (cyown3_0j18 : Nat) (yown3_0j18 : List (JJ)) (xsyown3_0j18 : List Value) (ybs4_0j18 : Int) (ybs4_1j18 : Int) (aybs4_2j18 : Option Addr) (cybs4_2j18 : Nat) (ybs4_2j18 : List (JJ)) (aybs4_3j18 : Option Addr) (cybs4_3j18 : Nat) (ybs4_3j18 : List (JJ)) (aybs4_4j18 : Option Addr) (cybs4_4j18 : Nat) (ybs4_4j18 : List (JT)), RepL gj18 (.pair (.int .i64) (.pair (.int .i64) (.pair (.bool) (.pair (.str) (.pair (.int .i64) (.pair (.int .i64) (.str))))))) xsyown3_0j18 yown3_0j18 ∧ Rep gj18 (.slice (.pair (.int .i64) (.pair (.int .i64) (.pair (.bool) (.pair (.str) (.pair (.int .i64) (.pair (.int .i64) (.str)))))))) [.slice aybs4_2j18 ybs4_2j18.length cybs4_2j18] ybs4_2j18 ∧ Rep gj18 (.slice (.pair (.int .i64) (.pair (.int .i64) (.pair (.bool) (.pair (.str) (.pair (.int .i64) (.pair (.int .i64) (.str)))))))) [.slice aybs4_3j18 ybs4_3j18.length cybs4_3j18] ybs4_3j18 ∧ Rep gj18 (.slice (.pair (.int .i64) (.pair (.int .i64) (.pair (.int .i64) (.pair (.int .i64) (.str)))))) [.slice aybs4_4j18 ybs4_4j18.length cybs4_4j18] ybs4_4j18 ∧ StA 71 [(3, pv bs3 0), (4, pv bs4 0), (5, .slice ayown3_0j18 yown3_0j18.length cyown3_0j18), (15, .slice axasks_0 xasks.length cxasks_0), (16, .int .i64 (xasks.length : Int)), (17, .int .i64 x17l11)] a ∧ StW w0 [.own (.slice ayown3_0j18 yown3_0j18.length cyown3_0j18) 43 7 yown3_0j18.length xsyown3_0j18, .blk bs4 (.cells #[.int .i64 ybs4_0j18, .int .i64 ybs4_1j18, .slice aybs4_2j18 ybs4_2j18.length cybs4_2j18, .slice aybs4_3j18 ybs4_3j18.length cybs4_3j18, .slice aybs4_4j18 ybs4_4j18.length cybs4_4j18] 37), .blk bs3 (.cells #[.int .i64 0, .int .i64 0, .slice none 0 0, .slice none 0 0, .slice none 0 0] 37)] gj18 W ∧ rlpj18 yown3_0j18 ybs4_0j18 ybs4_1j18 ybs4_2j18 ybs4_3j18 ybs4_4j18 x17l11 (rlpl11 xasks K k11)) ?_ ?_))
    ·
     refine Ok.block (Ok.seq (Ok.region ?_))
     obtain ⟨h06, h16, hF⟩ := hF
     have he6 := get_of (l := xasks) (default : Int × Int × Int × Bs × Int × Int × Bs) h16
     generalize hg6 : (xasks.getD (Int.toNat x17l11) default) = e6 at he6 hF ⊢
     refine Ok.op rfl (OpOk.indexRo (e := .pair (.int .i64) (.pair (.int .i64) (.pair (.int .i64) (.pair (.str) (.pair (.int .i64) (.pair (.int .i64) (.str))))))) (i := x17l11) (el := e6) rfl rfl Try.underlying52 (by kernel_rfl) hRxasks_0 h06 he6 rfl fun q5 o5 cs5 _ hat5 hr5 => ?_)
     obtain ⟨_, _, rfl, rfl, ⟨_, _, rfl, rfl, ⟨_, _, rfl, rfl, ⟨_, _, rfl, rfl, ⟨_, _, rfl, rfl, ⟨_, _, rfl, rfl, rfl⟩⟩⟩⟩⟩⟩ := hr5
     replace hat5 : At gl11 q5 o5 [.int .i64 e6.1, .int .i64 e6.2.1, .int .i64 e6.2.2.1, sv e6.2.2.2.1, .int .i64 e6.2.2.2.2.1, .int .i64 e6.2.2.2.2.2.1, sv e6.2.2.2.2.2.2] := hat5
     refine Ok.op rfl (OpOk.step (v := .agg #[.int .i64 e6.1, .int .i64 e6.2.1, .int .i64 e6.2.2.1, sv e6.2.2.2.1, .int .i64 e6.2.2.2.2.1, .int .i64 e6.2.2.2.2.2.1, sv e6.2.2.2.2.2.2]) (Yields.loadAggRo 0 7 #[.int .i64 e6.1, .int .i64 e6.2.1, .int .i64 e6.2.2.1, sv e6.2.2.2.1, .int .i64 e6.2.2.2.2.1, .int .i64 e6.2.2.2.2.2.1, sv e6.2.2.2.2.2.2] hat5 (by kernel_rfl) Try.underlying39 rfl (by kernel_rfl) (by kernel_rfl) (by kernel_rfl)) rfl rfl (Ok.op rfl (OpOk.alloc (z := .agg #[.int .i64 0, .int .i64 0, .int .i64 0, sv ([] : Bs), .int .i64 0, .int .i64 0, sv ([] : Bs)]) (cs := #[.int .i64 0, .int .i64 0, .int .i64 0, sv ([] : Bs), .int .i64 0, .int .i64 0, sv ([] : Bs)]) (by kernel_rfl) (by kernel_rfl) rfl fun bs7 => ?_)))
     refine Ok.op rfl (OpOk.sto (k := 7) (v := .agg #[.int .i64 e6.1, .int .i64 e6.2.1, .int .i64 e6.2.2.1, sv e6.2.2.2.1, .int .i64 e6.2.2.2.2.1, .int .i64 e6.2.2.2.2.2.1, sv e6.2.2.2.2.2.2]) 0 #[.int .i64 e6.1, .int .i64 e6.2.1, .int .i64 e6.2.2.1, sv e6.2.2.2.1, .int .i64 e6.2.2.2.2.1, .int .i64 e6.2.2.2.2.2.1, sv e6.2.2.2.2.2.2] rfl rfl rfl ?_)
     refine Ok.nil (Ok.thenN (Ok.seq (Ok.seq (Ok.region (Ok.bat 1 [3, 4, 5, 15, 16, 17] [(7, pv bs7 0), (21, pv bs7 0)] ?_)))))
     refine Ok.op rfl (OpOk.step (v := .int .i64 e6.1) (Yields.load 0 rfl rfl Try.underlying3 rfl (by kernel_rfl)) rfl rfl (Ok.bat 1 [3, 4, 5, 7, 15, 16, 17] [(23, .bool (decide (e6.1 < 6)))] ?_))
     refine Ok.nil (Ok.thenN (Ok.cond (b := decide (e6.1 < 6)) rfl (fun hc8 => ?_) (fun hc8 => ?_)))
     ·replace hF := hF.1 hc8
      refine Ok.cut (fun a W => ∃ gj26 : Ghost, Gext w0 gl11 gj26 ∧ ∃ (aybs4_2j26 : Option Addr) (cybs4_2j26 : Nat) (aybs4_3j26 : Option Addr) (cybs4_3j26 : Nat) (aybs4_4j26 : Option Addr) (cybs4_4j26 : Nat), Rep gj26 (.slice (.pair (.int .i64) (.pair (.int .i64) (.pair (.bool) (.pair (.str) (.pair (.int .i64) (.pair (.int .i64) (.str)))))))) [.slice aybs4_2j26 (rlpV8 e6 ybs4_0l11 ybs4_1l11 ybs4_2l11 ybs4_3l11 ybs4_4l11).length cybs4_2j26] (rlpV8 e6 ybs4_0l11 ybs4_1l11 ybs4_2l11 ybs4_3l11 ybs4_4l11) ∧ Rep gj26 (.slice (.pair (.int .i64) (.pair (.int .i64) (.pair (.bool) (.pair (.str) (.pair (.int .i64) (.pair (.int .i64) (.str)))))))) [.slice aybs4_3j26 (rlpV9 e6 ybs4_0l11 ybs4_1l11 ybs4_2l11 ybs4_3l11 ybs4_4l11).length cybs4_3j26] (rlpV9 e6 ybs4_0l11 ybs4_1l11 ybs4_2l11 ybs4_3l11 ybs4_4l11) ∧ Rep gj26 (.slice (.pair (.int .i64) (.pair (.int .i64) (.pair (.int .i64) (.pair (.int .i64) (.str)))))) [.slice aybs4_4j26 (rlpV10 e6 ybs4_0l11 ybs4_1l11 ybs4_2l11 ybs4_3l11 ybs4_4l11).length cybs4_4j26] (rlpV10 e6 ybs4_0l11 ybs4_1l11 ybs4_2l11 ybs4_3l11 ybs4_4l11) ∧ StA 71 [(3, pv bs3 0), (4, pv bs4 0), (5, .slice ayown3_0l11 yown3_0l11.length cyown3_0l11), (15, .slice axasks_0 xasks.length cxasks_0), (16, .int .i64 (xasks.length : Int)), (17, .int .i64 x17l11)] a ∧ StW w0 [.own (.slice ayown3_0l11 yown3_0l11.length cyown3_0l11) 43 7 yown3_0l11.length xsyown3_0l11, .blk bs4 (.cells #[.int .i64 (rlpV6 e6 ybs4_0l11 ybs4_1l11 ybs4_2l11 ybs4_3l11 ybs4_4l11), .int .i64 (rlpV7 e6 ybs4_0l11 ybs4_1l11 ybs4_2l11 ybs4_3l11 ybs4_4l11), .slice aybs4_2j26 (rlpV8 e6 ybs4_0l11 ybs4_1l11 ybs4_2l11 ybs4_3l11 ybs4_4l11).length cybs4_2j26, .slice aybs4_3j26 (rlpV9 e6 ybs4_0l11 ybs4_1l11 ybs4_2l11 ybs4_3l11 ybs4_4l11).length cybs4_3j26, .slice aybs4_4j26 (rlpV10 e6 ybs4_0l11 ybs4_1l11 ybs4_2l11 ybs4_3l11 ybs4_4l11).length cybs4_4j26] 37), .blk bs3 (.cells #[.int .i64 0, .int .i64 0, .slice none 0 0, .slice none 0 0, .slice none 0 0] 37)] gj26 W ∧ rlpj26 xasks x17l11 yown3_0l11 ybs4_0l11 ybs4_1l11 ybs4_2l11 ybs4_3l11 ybs4_4l11 (rlpl11 xasks K k11)) ?_ ?_
      ·
       refine Ok.seq (Ok.region (Ok.op rfl (OpOk.step (v := .agg #[.int .i64 ybs4_0l11, .int .i64 ybs4_1l11, .slice aybs4_2l11 ybs4_2l11.length cybs4_2l11, .slice aybs4_3l11 ybs4_3l11.length cybs4_3l11, .slice aybs4_4l11 ybs4_4l11.length cybs4_4l11]) (Yields.loadAgg 2 5 #[.int .i64 ybs4_0l11, .int .i64 ybs4_1l11, .slice aybs4_2l11 ybs4_2l11.length cybs4_2l11, .slice aybs4_3l11 ybs4_3l11.length cybs4_3l11, .slice aybs4_4l11 ybs4_4l11.length cybs4_4l11] rfl rfl Try.underlying37 rfl (by kernel_rfl) (by kernel_rfl) (by kernel_rfl)) rfl rfl (Ok.op rfl (OpOk.step (v := .agg #[.int .i64 e6.1, .int .i64 e6.2.1, .int .i64 e6.2.2.1, sv e6.2.2.2.1, .int .i64 e6.2.2.2.2.1, .int .i64 e6.2.2.2.2.2.1, sv e6.2.2.2.2.2.2]) (Yields.loadAgg 0 7 #[.int .i64 e6.1, .int .i64 e6.2.1, .int .i64 e6.2.2.1, sv e6.2.2.2.1, .int .i64 e6.2.2.2.2.1, .int .i64 e6.2.2.2.2.2.1, sv e6.2.2.2.2.2.2] rfl rfl Try.underlying39 rfl (by kernel_rfl) (by kernel_rfl) (by kernel_rfl)) rfl rfl ?_)))))
       obtain ⟨hp9, hF⟩ := hF
       refine Ok.op rfl (OpOk.callH [] _ enr rfl (rla_c (ybs4_0l11, ybs4_1l11, ybs4_2l11, ybs4_3l11, ybs4_4l11) e6 hRybs4_2l11 hRybs4_3l11 hRybs4_4l11 hp9) rfl fun g10 _ _ hx10 hV10 => ?_)
       obtain ⟨a10_0, c10_0, a10_2, c10_2, a10_4, c10_4, rfl, hR10_0, hR10_2, hR10_4, rfl⟩ := hV10
       replace hLyown3_0l11 := hLyown3_0l11.mono hx10.1
       replace hRxasks_0 := hRxasks_0.mono hx10.1
       replace hRybs4_2l11 := hRybs4_2l11.mono hx10.1
       replace hRybs4_3l11 := hRybs4_3l11.mono hx10.1
       replace hRybs4_4l11 := hRybs4_4l11.mono hx10.1
       refine Ok.bat 4 [3, 4, 5, 15, 16, 17] [(28, .agg #[.int .i64 (raS (ybs4_0l11, ybs4_1l11, ybs4_2l11, ybs4_3l11, ybs4_4l11) e6).1.1, .int .i64 (raS (ybs4_0l11, ybs4_1l11, ybs4_2l11, ybs4_3l11, ybs4_4l11) e6).1.2.1, .slice a10_0 ((raS (ybs4_0l11, ybs4_1l11, ybs4_2l11, ybs4_3l11, ybs4_4l11) e6).1.2.2.1).length c10_0, .slice a10_2 ((raS (ybs4_0l11, ybs4_1l11, ybs4_2l11, ybs4_3l11, ybs4_4l11) e6).1.2.2.2.1).length c10_2, .slice a10_4 ((raS (ybs4_0l11, ybs4_1l11, ybs4_2l11, ybs4_3l11, ybs4_4l11) e6).1.2.2.2.2).length c10_4]), (29, .int .i64 (raS (ybs4_0l11, ybs4_1l11, ybs4_2l11, ybs4_3l11, ybs4_4l11) e6).2.1), (30, .int .i64 (raS (ybs4_0l11, ybs4_1l11, ybs4_2l11, ybs4_3l11, ybs4_4l11) e6).2.2)] ?_
       refine Ok.op rfl (OpOk.alloc (z := .agg #[.int .i64 0, .int .i64 0, .slice none 0 0, .slice none 0 0, .slice none 0 0]) (cs := #[.int .i64 0, .int .i64 0, .slice none 0 0, .slice none 0 0, .slice none 0 0]) (by kernel_rfl) (by kernel_rfl) rfl fun bs8 => ?_)
       refine Ok.op rfl (OpOk.sto (k := 5) (v := .agg #[.int .i64 (raS (ybs4_0l11, ybs4_1l11, ybs4_2l11, ybs4_3l11, ybs4_4l11) e6).1.1, .int .i64 (raS (ybs4_0l11, ybs4_1l11, ybs4_2l11, ybs4_3l11, ybs4_4l11) e6).1.2.1, .slice a10_0 ((raS (ybs4_0l11, ybs4_1l11, ybs4_2l11, ybs4_3l11, ybs4_4l11) e6).1.2.2.1).length c10_0, .slice a10_2 ((raS (ybs4_0l11, ybs4_1l11, ybs4_2l11, ybs4_3l11, ybs4_4l11) e6).1.2.2.2.1).length c10_2, .slice a10_4 ((raS (ybs4_0l11, ybs4_1l11, ybs4_2l11, ybs4_3l11, ybs4_4l11) e6).1.2.2.2.2).length c10_4]) 0 #[.int .i64 (raS (ybs4_0l11, ybs4_1l11, ybs4_2l11, ybs4_3l11, ybs4_4l11) e6).1.1, .int .i64 (raS (ybs4_0l11, ybs4_1l11, ybs4_2l11, ybs4_3l11, ybs4_4l11) e6).1.2.1, .slice a10_0 ((raS (ybs4_0l11, ybs4_1l11, ybs4_2l11, ybs4_3l11, ybs4_4l11) e6).1.2.2.1).length c10_0, .slice a10_2 ((raS (ybs4_0l11, ybs4_1l11, ybs4_2l11, ybs4_3l11, ybs4_4l11) e6).1.2.2.2.1).length c10_2, .slice a10_4 ((raS (ybs4_0l11, ybs4_1l11, ybs4_2l11, ybs4_3l11, ybs4_4l11) e6).1.2.2.2.2).length c10_4] rfl rfl rfl ?_)
       refine Ok.bat 2 [3, 4, 5, 15, 16, 17] [(8, pv bs8 0), (10, .int .i64 (raS (ybs4_0l11, ybs4_1l11, ybs4_2l11, ybs4_3l11, ybs4_4l11) e6).2.2)] ?_
       refine Ok.nil (Ok.thenN (Ok.seq (Ok.region (Ok.bat 2 [3, 4, 5, 8, 15, 16, 17] [(32, .bool ((raS (ybs4_0l11, ybs4_1l11, ybs4_2l11, ybs4_3l11, ybs4_4l11) e6).2.2 == 0))] ?_))))
       refine Ok.nil (Ok.thenN (Ok.cond (b := ((raS (ybs4_0l11, ybs4_1l11, ybs4_2l11, ybs4_3l11, ybs4_4l11) e6).2.2 == 0)) rfl (fun hc12 => ?_) (fun hc12 => ?_)))
       ·replace hF := hF.1 hc12
        refine Ok.region (Ok.op rfl (OpOk.step (v := .agg #[.int .i64 (raS (ybs4_0l11, ybs4_1l11, ybs4_2l11, ybs4_3l11, ybs4_4l11) e6).1.1, .int .i64 (raS (ybs4_0l11, ybs4_1l11, ybs4_2l11, ybs4_3l11, ybs4_4l11) e6).1.2.1, .slice a10_0 ((raS (ybs4_0l11, ybs4_1l11, ybs4_2l11, ybs4_3l11, ybs4_4l11) e6).1.2.2.1).length c10_0, .slice a10_2 ((raS (ybs4_0l11, ybs4_1l11, ybs4_2l11, ybs4_3l11, ybs4_4l11) e6).1.2.2.2.1).length c10_2, .slice a10_4 ((raS (ybs4_0l11, ybs4_1l11, ybs4_2l11, ybs4_3l11, ybs4_4l11) e6).1.2.2.2.2).length c10_4]) (Yields.loadAgg 0 5 #[.int .i64 (raS (ybs4_0l11, ybs4_1l11, ybs4_2l11, ybs4_3l11, ybs4_4l11) e6).1.1, .int .i64 (raS (ybs4_0l11, ybs4_1l11, ybs4_2l11, ybs4_3l11, ybs4_4l11) e6).1.2.1, .slice a10_0 ((raS (ybs4_0l11, ybs4_1l11, ybs4_2l11, ybs4_3l11, ybs4_4l11) e6).1.2.2.1).length c10_0, .slice a10_2 ((raS (ybs4_0l11, ybs4_1l11, ybs4_2l11, ybs4_3l11, ybs4_4l11) e6).1.2.2.2.1).length c10_2, .slice a10_4 ((raS (ybs4_0l11, ybs4_1l11, ybs4_2l11, ybs4_3l11, ybs4_4l11) e6).1.2.2.2.2).length c10_4] rfl rfl Try.underlying37 rfl (by kernel_rfl) (by kernel_rfl) (by kernel_rfl)) rfl rfl (Ok.op rfl (OpOk.sto (k := 5) (v := .agg #[.int .i64 (raS (ybs4_0l11, ybs4_1l11, ybs4_2l11, ybs4_3l11, ybs4_4l11) e6).1.1, .int .i64 (raS (ybs4_0l11, ybs4_1l11, ybs4_2l11, ybs4_3l11, ybs4_4l11) e6).1.2.1, .slice a10_0 ((raS (ybs4_0l11, ybs4_1l11, ybs4_2l11, ybs4_3l11, ybs4_4l11) e6).1.2.2.1).length c10_0, .slice a10_2 ((raS (ybs4_0l11, ybs4_1l11, ybs4_2l11, ybs4_3l11, ybs4_4l11) e6).1.2.2.2.1).length c10_2, .slice a10_4 ((raS (ybs4_0l11, ybs4_1l11, ybs4_2l11, ybs4_3l11, ybs4_4l11) e6).1.2.2.2.2).length c10_4]) 3 #[.int .i64 (raS (ybs4_0l11, ybs4_1l11, ybs4_2l11, ybs4_3l11, ybs4_4l11) e6).1.1, .int .i64 (raS (ybs4_0l11, ybs4_1l11, ybs4_2l11, ybs4_3l11, ybs4_4l11) e6).1.2.1, .slice a10_0 ((raS (ybs4_0l11, ybs4_1l11, ybs4_2l11, ybs4_3l11, ybs4_4l11) e6).1.2.2.1).length c10_0, .slice a10_2 ((raS (ybs4_0l11, ybs4_1l11, ybs4_2l11, ybs4_3l11, ybs4_4l11) e6).1.2.2.2.1).length c10_2, .slice a10_4 ((raS (ybs4_0l11, ybs4_1l11, ybs4_2l11, ybs4_3l11, ybs4_4l11) e6).1.2.2.2.2).length c10_4] rfl rfl rfl ?_))))
        refine Ok.nil (Ok.thenN (Ok.entEq 3 (e' := .blk bs4 (.cells #[.int .i64 (rlpV6 e6 ybs4_0l11 ybs4_1l11 ybs4_2l11 ybs4_3l11 ybs4_4l11), .int .i64 (rlpV7 e6 ybs4_0l11 ybs4_1l11 ybs4_2l11 ybs4_3l11 ybs4_4l11), .slice a10_0 (rlpV8 e6 ybs4_0l11 ybs4_1l11 ybs4_2l11 ybs4_3l11 ybs4_4l11).length c10_0, .slice a10_2 (rlpV9 e6 ybs4_0l11 ybs4_1l11 ybs4_2l11 ybs4_3l11 ybs4_4l11).length c10_2, .slice a10_4 (rlpV10 e6 ybs4_0l11 ybs4_1l11 ybs4_2l11 ybs4_3l11 ybs4_4l11).length c10_4] 37)) rfl (congrArg (fun l : List Value => Ent.blk bs4 (.cells ⟨l⟩ 37)) (lcons (congrArg (Value.int .i64) ((if_t hc12).symm)) (lcons (congrArg (Value.int .i64) ((if_t hc12).symm)) (lcons (congrArg (fun l : List (JJ) => Value.slice a10_0 l.length c10_0) ((if_t hc12).symm)) (lcons (congrArg (fun l : List (JJ) => Value.slice a10_2 l.length c10_2) ((if_t hc12).symm)) (lcons (congrArg (fun l : List (JT) => Value.slice a10_4 l.length c10_4) ((if_t hc12).symm)) rfl)))))) ?_))
        exact fun a W hA hW => ⟨g10, hx10, a10_0, c10_0, a10_2, c10_2, a10_4, c10_4, (Eq.mp (congrArg (fun l : List (JJ) => Rep g10 (.slice (.pair (.int .i64) (.pair (.int .i64) (.pair (.bool) (.pair (.str) (.pair (.int .i64) (.pair (.int .i64) (.str)))))))) [.slice a10_0 l.length c10_0] l) ((if_t hc12).symm)) hR10_0), (Eq.mp (congrArg (fun l : List (JJ) => Rep g10 (.slice (.pair (.int .i64) (.pair (.int .i64) (.pair (.bool) (.pair (.str) (.pair (.int .i64) (.pair (.int .i64) (.str)))))))) [.slice a10_2 l.length c10_2] l) ((if_t hc12).symm)) hR10_2), (Eq.mp (congrArg (fun l : List (JT) => Rep g10 (.slice (.pair (.int .i64) (.pair (.int .i64) (.pair (.int .i64) (.pair (.int .i64) (.str)))))) [.slice a10_4 l.length c10_4] l) ((if_t hc12).symm)) hR10_4), hA.sub (by kernel_rfl), hW.sub (.cons _ (.cons _ (.cons_cons _ (.cons_cons _ (.cons_cons _ .slnil))))), hF⟩
       ·replace hF := hF.2 hc12
        refine Ok.skip (Ok.thenN (Ok.entEq 3 (e' := .blk bs4 (.cells #[.int .i64 (rlpV6 e6 ybs4_0l11 ybs4_1l11 ybs4_2l11 ybs4_3l11 ybs4_4l11), .int .i64 (rlpV7 e6 ybs4_0l11 ybs4_1l11 ybs4_2l11 ybs4_3l11 ybs4_4l11), .slice aybs4_2l11 (rlpV8 e6 ybs4_0l11 ybs4_1l11 ybs4_2l11 ybs4_3l11 ybs4_4l11).length cybs4_2l11, .slice aybs4_3l11 (rlpV9 e6 ybs4_0l11 ybs4_1l11 ybs4_2l11 ybs4_3l11 ybs4_4l11).length cybs4_3l11, .slice aybs4_4l11 (rlpV10 e6 ybs4_0l11 ybs4_1l11 ybs4_2l11 ybs4_3l11 ybs4_4l11).length cybs4_4l11] 37)) rfl (congrArg (fun l : List Value => Ent.blk bs4 (.cells ⟨l⟩ 37)) (lcons (congrArg (Value.int .i64) ((if_f hc12).symm)) (lcons (congrArg (Value.int .i64) ((if_f hc12).symm)) (lcons (congrArg (fun l : List (JJ) => Value.slice aybs4_2l11 l.length cybs4_2l11) ((if_f hc12).symm)) (lcons (congrArg (fun l : List (JJ) => Value.slice aybs4_3l11 l.length cybs4_3l11) ((if_f hc12).symm)) (lcons (congrArg (fun l : List (JT) => Value.slice aybs4_4l11 l.length cybs4_4l11) ((if_f hc12).symm)) rfl)))))) ?_))
        exact fun a W hA hW => ⟨g10, hx10, aybs4_2l11, cybs4_2l11, aybs4_3l11, cybs4_3l11, aybs4_4l11, cybs4_4l11, (Eq.mp (congrArg (fun l : List (JJ) => Rep g10 (.slice (.pair (.int .i64) (.pair (.int .i64) (.pair (.bool) (.pair (.str) (.pair (.int .i64) (.pair (.int .i64) (.str)))))))) [.slice aybs4_2l11 l.length cybs4_2l11] l) ((if_f hc12).symm)) hRybs4_2l11), (Eq.mp (congrArg (fun l : List (JJ) => Rep g10 (.slice (.pair (.int .i64) (.pair (.int .i64) (.pair (.bool) (.pair (.str) (.pair (.int .i64) (.pair (.int .i64) (.str)))))))) [.slice aybs4_3l11 l.length cybs4_3l11] l) ((if_f hc12).symm)) hRybs4_3l11), (Eq.mp (congrArg (fun l : List (JT) => Rep g10 (.slice (.pair (.int .i64) (.pair (.int .i64) (.pair (.int .i64) (.pair (.int .i64) (.str)))))) [.slice aybs4_4l11 l.length cybs4_4l11] l) ((if_f hc12).symm)) hRybs4_4l11), hA.sub (by kernel_rfl), hW.sub (.cons _ (.cons _ (.cons_cons _ (.cons_cons _ (.cons_cons _ .slnil))))), hF⟩
      ·
       clear hF
       rintro a W ⟨gj26, hxj26, aybs4_2j26, cybs4_2j26, aybs4_3j26, cybs4_3j26, aybs4_4j26, cybs4_4j26, hRybs4_2j26, hRybs4_3j26, hRybs4_4j26, hA, hW, hF⟩
       refine (?_ : Ok _ _ _ _ _ _) a W hA hW
       clear hA hW
       replace hLyown3_0l11 := hLyown3_0l11.mono hxj26.1
       replace hRxasks_0 := hRxasks_0.mono hxj26.1
       refine Ok.exit (Ok.thenE (Ok.blockHit (Ok.thenN ?_)))
       subst hg6
       exact fun a W hA hW => ⟨gj26, hxj26, ayown3_0l11, cyown3_0l11, yown3_0l11, xsyown3_0l11, (rlpV6 (xasks.getD (Int.toNat x17l11) default) ybs4_0l11 ybs4_1l11 ybs4_2l11 ybs4_3l11 ybs4_4l11), (rlpV7 (xasks.getD (Int.toNat x17l11) default) ybs4_0l11 ybs4_1l11 ybs4_2l11 ybs4_3l11 ybs4_4l11), aybs4_2j26, cybs4_2j26, (rlpV8 (xasks.getD (Int.toNat x17l11) default) ybs4_0l11 ybs4_1l11 ybs4_2l11 ybs4_3l11 ybs4_4l11), aybs4_3j26, cybs4_3j26, (rlpV9 (xasks.getD (Int.toNat x17l11) default) ybs4_0l11 ybs4_1l11 ybs4_2l11 ybs4_3l11 ybs4_4l11), aybs4_4j26, cybs4_4j26, (rlpV10 (xasks.getD (Int.toNat x17l11) default) ybs4_0l11 ybs4_1l11 ybs4_2l11 ybs4_3l11 ybs4_4l11), hLyown3_0l11, hRybs4_2j26, hRybs4_3j26, hRybs4_4j26, hA.sub (by kernel_rfl), hW, hF⟩
     ·replace hF := hF.2 hc8
      refine Ok.skip (Ok.thenN (Ok.seq (Ok.cut (fun a W => ∃ gj37 : Ghost, Gext w0 gl11 gj37 ∧ StA 71 [(3, pv bs3 0), (4, pv bs4 0), (5, .slice ayown3_0l11 yown3_0l11.length cyown3_0l11), (7, pv bs7 0), (15, .slice axasks_0 xasks.length cxasks_0), (16, .int .i64 (xasks.length : Int)), (17, .int .i64 x17l11), (45, .bool (rlpV11 e6 ybs4_0l11))] a ∧ StW w0 [.blk bs7 (.cells #[.int .i64 e6.1, .int .i64 e6.2.1, .int .i64 e6.2.2.1, sv e6.2.2.2.1, .int .i64 e6.2.2.2.2.1, .int .i64 e6.2.2.2.2.2.1, sv e6.2.2.2.2.2.2] 39), .own (.slice ayown3_0l11 yown3_0l11.length cyown3_0l11) 43 7 yown3_0l11.length xsyown3_0l11, .blk bs4 (.cells #[.int .i64 ybs4_0l11, .int .i64 ybs4_1l11, .slice aybs4_2l11 ybs4_2l11.length cybs4_2l11, .slice aybs4_3l11 ybs4_3l11.length cybs4_3l11, .slice aybs4_4l11 ybs4_4l11.length cybs4_4l11] 37), .blk bs3 (.cells #[.int .i64 0, .int .i64 0, .slice none 0 0, .slice none 0 0, .slice none 0 0] 37)] gj37 W ∧ rlpj37 xasks e6 x17l11 yown3_0l11 ybs4_0l11 ybs4_1l11 ybs4_2l11 ybs4_3l11 ybs4_4l11 (rlpl11 xasks K k11)) ?_ ?_)))
      ·
       refine Ok.region (Ok.bat 1 [3, 4, 5, 7, 15, 16, 17] [(34, pv bs7 2)] ?_)
       refine Ok.op rfl (OpOk.step (v := .int .i64 e6.2.2.1) (Yields.load 0 rfl rfl Try.underlying3 rfl (by kernel_rfl)) rfl rfl (Ok.op rfl (OpOk.callG (v := .bool (rbtM e6.2.2.1 0 1000000)) enr (fun W hW => rbt_c e6.2.2.1 0 1000000) rfl ?_)))
       refine Ok.bat 2 [3, 4, 5, 7, 15, 16, 17] [(38, .bool (!(rbtM e6.2.2.1 0 1000000)))] ?_
       refine Ok.boolAt 38 (!(rbtM e6.2.2.1 0 1000000)) rfl (fun hc22 => ?_) (fun hc22 => ?_)
       ·replace hF := hF.1 hc22
        refine Ok.bat 7 [3, 4, 5, 7, 15, 16, 17] [(45, .bool true)] ?_
        refine Ok.nil (Ok.thenN (Ok.reval 45 rfl (show (.bool true : Value) = .bool (rlpV11 e6 ybs4_0l11) from congrArg (Value.bool) (mor_t hc22)) ?_))
        exact fun a W hA hW => ⟨gl11, (Gext.refl w0 gl11), hA.sub (by kernel_rfl), hW, hF⟩
       ·replace hF := hF.2 hc22
        refine Ok.bat 1 [3, 4, 5, 7, 15, 16, 17] [(38, .bool false), (39, pv bs4 0)] ?_
        refine Ok.opYes (j := 4) (d := 38) (want := false) (b := false) rfl (by kernel_rfl) (by kernel_rfl) rfl (OpOk.step (v := .int .i64 ybs4_0l11) (Yields.load 2 rfl rfl Try.underlying3 rfl (by kernel_rfl)) rfl rfl (Ok.bat 1 [3, 4, 5, 7, 15, 16, 17, 38] [(40, .int .i64 ybs4_0l11), (41, pv bs7 2)] ?_))
        refine Ok.opYes (j := 4) (d := 38) (want := false) (b := false) rfl (by kernel_rfl) (by kernel_rfl) rfl (OpOk.step (v := .int .i64 e6.2.2.1) (Yields.load 0 rfl rfl Try.underlying3 rfl (by kernel_rfl)) rfl rfl (Ok.bat 3 [3, 4, 5, 7, 15, 16, 17] [(45, .bool (decide ((w6 (ybs4_0l11 + e6.2.2.1)) > 1000000000)))] ?_))
        refine Ok.nil (Ok.thenN (Ok.reval 45 rfl (show (.bool (decide ((w6 (ybs4_0l11 + e6.2.2.1)) > 1000000000)) : Value) = .bool (rlpV11 e6 ybs4_0l11) from congrArg (Value.bool) (mor_f hc22)) ?_))
        exact fun a W hA hW => ⟨gl11, (Gext.refl w0 gl11), hA.sub (by kernel_rfl), hW, hF⟩
      ·
       clear hF
       rintro a W ⟨gj37, hxj37, hA, hW, hF⟩
       refine (?_ : Ok _ _ _ _ _ _) a W hA hW
       clear hA hW
       replace hLyown3_0l11 := hLyown3_0l11.mono hxj37.1
       replace hRxasks_0 := hRxasks_0.mono hxj37.1
       replace hRybs4_2l11 := hRybs4_2l11.mono hxj37.1
       replace hRybs4_3l11 := hRybs4_3l11.mono hxj37.1
       replace hRybs4_4l11 := hRybs4_4l11.mono hxj37.1
       refine Ok.cond (b := (rlpV11 e6 ybs4_0l11)) rfl (fun hc13 => ?_) (fun hc13 => ?_)
       ·replace hF := hF.1 hc13
        refine Ok.exit (Ok.thenE (Ok.blockHit (Ok.thenN ?_)))
        subst hg6
        exact fun a W hA hW => ⟨gj37, hxj37, ayown3_0l11, cyown3_0l11, yown3_0l11, xsyown3_0l11, ybs4_0l11, ybs4_1l11, aybs4_2l11, cybs4_2l11, ybs4_2l11, aybs4_3l11, cybs4_3l11, ybs4_3l11, aybs4_4l11, cybs4_4l11, ybs4_4l11, hLyown3_0l11, hRybs4_2l11, hRybs4_3l11, hRybs4_4l11, hA.sub (by kernel_rfl), hW.sub (.cons _ (.cons_cons _ (.cons_cons _ (.cons_cons _ .slnil)))), hF⟩
       ·replace hF := hF.2 hc13
        refine Ok.skip (Ok.thenN (Ok.seq (Ok.region (Ok.bat 1 [3, 4, 5, 7, 15, 16, 17] [(46, pv bs4 0)] ?_))))
        refine Ok.op rfl (OpOk.step (v := .int .i64 ybs4_0l11) (Yields.load 2 rfl rfl Try.underlying3 rfl (by kernel_rfl)) rfl rfl (Ok.bat 1 [3, 4, 5, 15, 16, 17] [(47, .int .i64 ybs4_0l11), (48, pv bs7 2)] ?_))
        refine Ok.op rfl (OpOk.step (v := .int .i64 e6.2.2.1) (Yields.load 0 rfl rfl Try.underlying3 rfl (by kernel_rfl)) rfl rfl (Ok.bat 2 [3, 4, 5, 15, 16, 17] [(11, .int .i64 (w6 (ybs4_0l11 + e6.2.2.1)))] ?_))
        refine Ok.nil (Ok.thenN (Ok.block ?_))
        obtain ⟨k, hF⟩ := hF
        refine Ok.loop (fun k a W => ∃ gl45 : Ghost, Gext w0 gj37 gl45 ∧ ∃ (ayown3_0l45 : Option Addr) (cyown3_0l45 : Nat) (yown3_0l45 : List (JJ)) (xsyown3_0l45 : List Value) (ybs4_0l45 : Int) (ybs4_1l45 : Int) (aybs4_2l45 : Option Addr) (cybs4_2l45 : Nat) (ybs4_2l45 : List (JJ)) (aybs4_3l45 : Option Addr) (cybs4_3l45 : Nat) (ybs4_3l45 : List (JJ)) (aybs4_4l45 : Option Addr) (cybs4_4l45 : Nat) (ybs4_4l45 : List (JT)), RepL gl45 (.pair (.int .i64) (.pair (.int .i64) (.pair (.bool) (.pair (.str) (.pair (.int .i64) (.pair (.int .i64) (.str))))))) xsyown3_0l45 yown3_0l45 ∧ Rep gl45 (.slice (.pair (.int .i64) (.pair (.int .i64) (.pair (.bool) (.pair (.str) (.pair (.int .i64) (.pair (.int .i64) (.str)))))))) [.slice aybs4_2l45 ybs4_2l45.length cybs4_2l45] ybs4_2l45 ∧ Rep gl45 (.slice (.pair (.int .i64) (.pair (.int .i64) (.pair (.bool) (.pair (.str) (.pair (.int .i64) (.pair (.int .i64) (.str)))))))) [.slice aybs4_3l45 ybs4_3l45.length cybs4_3l45] ybs4_3l45 ∧ Rep gl45 (.slice (.pair (.int .i64) (.pair (.int .i64) (.pair (.int .i64) (.pair (.int .i64) (.str)))))) [.slice aybs4_4l45 ybs4_4l45.length cybs4_4l45] ybs4_4l45 ∧ StA 71 [(3, pv bs3 0), (4, pv bs4 0), (5, .slice ayown3_0l45 yown3_0l45.length cyown3_0l45), (11, .int .i64 (w6 (ybs4_0l11 + e6.2.2.1))), (15, .slice axasks_0 xasks.length cxasks_0), (16, .int .i64 (xasks.length : Int)), (17, .int .i64 x17l11)] a ∧ StW w0 [.own (.slice ayown3_0l45 yown3_0l45.length cyown3_0l45) 43 7 yown3_0l45.length xsyown3_0l45, .blk bs4 (.cells #[.int .i64 ybs4_0l45, .int .i64 ybs4_1l45, .slice aybs4_2l45 ybs4_2l45.length cybs4_2l45, .slice aybs4_3l45 ybs4_3l45.length cybs4_3l45, .slice aybs4_4l45 ybs4_4l45.length cybs4_4l45] 37), .blk bs3 (.cells #[.int .i64 0, .int .i64 0, .slice none 0 0, .slice none 0 0, .slice none 0 0] 37)] gl45 W ∧ rlpl45 xasks e6 x17l11 ybs4_0l11 (rlpl11 xasks K k11) k yown3_0l45 ybs4_0l45 ybs4_1l45 ybs4_2l45 ybs4_3l45 ybs4_4l45) k ?_ ?_
        ·
         exact fun a W hA hW => ⟨gj37, (Gext.refl w0 gj37), ayown3_0l11, cyown3_0l11, yown3_0l11, xsyown3_0l11, ybs4_0l11, ybs4_1l11, aybs4_2l11, cybs4_2l11, ybs4_2l11, aybs4_3l11, cybs4_3l11, ybs4_3l11, aybs4_4l11, cybs4_4l11, ybs4_4l11, hLyown3_0l11, hRybs4_2l11, hRybs4_3l11, hRybs4_4l11, hA.sub (by kernel_rfl), hW.sub (.cons _ (.cons_cons _ (.cons_cons _ (.cons_cons _ .slnil)))), hF⟩
        ·
         clear hF
         rintro k45 a W ⟨gl45, hxl45, ayown3_0l45, cyown3_0l45, yown3_0l45, xsyown3_0l45, ybs4_0l45, ybs4_1l45, aybs4_2l45, cybs4_2l45, ybs4_2l45, aybs4_3l45, cybs4_3l45, ybs4_3l45, aybs4_4l45, cybs4_4l45, ybs4_4l45, hLyown3_0l45, hRybs4_2l45, hRybs4_3l45, hRybs4_4l45, hA, hW, hF⟩
         cases k45 with
         | zero => exact (hF : False).elim
         | succ k45 =>
          refine (?_ : Ok _ _ _ _ _ _) a W hA hW
          clear hA hW
          replace hRxasks_0 := hRxasks_0.mono hxl45.1
          refine Ok.seq (Ok.seq (Ok.region (Ok.bat 3 [3, 4, 5, 11, 15, 16, 17] [(53, .bool (decide ((yown3_0l45.length : Int) < 300)))] ?_)))
          refine Ok.nil (Ok.thenN (Ok.cond (b := decide ((yown3_0l45.length : Int) < 300)) rfl (fun hc14 => ?_) (fun hc14 => ?_)))
          ·replace hF := hF.1 hc14
           refine Ok.skip (Ok.thenN (Ok.block (Ok.seq (Ok.region (Ok.op rfl (OpOk.step (v := .agg #[.int .i64 ybs4_0l45, .int .i64 ybs4_1l45, .slice aybs4_2l45 ybs4_2l45.length cybs4_2l45, .slice aybs4_3l45 ybs4_3l45.length cybs4_3l45, .slice aybs4_4l45 ybs4_4l45.length cybs4_4l45]) (Yields.loadAgg 1 5 #[.int .i64 ybs4_0l45, .int .i64 ybs4_1l45, .slice aybs4_2l45 ybs4_2l45.length cybs4_2l45, .slice aybs4_3l45 ybs4_3l45.length cybs4_3l45, .slice aybs4_4l45 ybs4_4l45.length cybs4_4l45] rfl rfl Try.underlying37 rfl (by kernel_rfl) (by kernel_rfl) (by kernel_rfl)) rfl rfl (Ok.bat 1 [3, 4, 5, 11, 15, 16, 17] [(55, .agg #[.int .i64 ybs4_0l45, .int .i64 ybs4_1l45, .slice aybs4_2l45 ybs4_2l45.length cybs4_2l45, .slice aybs4_3l45 ybs4_3l45.length cybs4_3l45, .slice aybs4_4l45 ybs4_4l45.length cybs4_4l45]), (56, .int .i64 (w6 (ybs4_0l11 + e6.2.2.1)))] ?_)))))))
           obtain ⟨hp15, hF⟩ := hF
           refine Ok.op rfl (OpOk.callH [] _ enr rfl (rln_c (ybs4_0l45, ybs4_1l45, ybs4_2l45, ybs4_3l45, ybs4_4l45) (w6 (ybs4_0l11 + e6.2.2.1)) hRybs4_2l45 hRybs4_3l45 hRybs4_4l45 hp15) rfl fun g16 _ _ hx16 hV16 => ?_)
           obtain ⟨a16_0, c16_0, a16_2, c16_2, a16_4, c16_4, rfl, hR16_0, hR16_2, hR16_4, rfl⟩ := hV16
           replace hLyown3_0l45 := hLyown3_0l45.mono hx16.1
           replace hRxasks_0 := hRxasks_0.mono hx16.1
           replace hRybs4_2l45 := hRybs4_2l45.mono hx16.1
           replace hRybs4_3l45 := hRybs4_3l45.mono hx16.1
           replace hRybs4_4l45 := hRybs4_4l45.mono hx16.1
           refine Ok.bat 4 [3, 4, 5, 11, 15, 16, 17] [(58, .agg #[.int .i64 (rnS (ybs4_0l45, ybs4_1l45, ybs4_2l45, ybs4_3l45, ybs4_4l45) (w6 (ybs4_0l11 + e6.2.2.1))).1.1, .int .i64 (rnS (ybs4_0l45, ybs4_1l45, ybs4_2l45, ybs4_3l45, ybs4_4l45) (w6 (ybs4_0l11 + e6.2.2.1))).1.2.1, .slice a16_0 ((rnS (ybs4_0l45, ybs4_1l45, ybs4_2l45, ybs4_3l45, ybs4_4l45) (w6 (ybs4_0l11 + e6.2.2.1))).1.2.2.1).length c16_0, .slice a16_2 ((rnS (ybs4_0l45, ybs4_1l45, ybs4_2l45, ybs4_3l45, ybs4_4l45) (w6 (ybs4_0l11 + e6.2.2.1))).1.2.2.2.1).length c16_2, .slice a16_4 ((rnS (ybs4_0l45, ybs4_1l45, ybs4_2l45, ybs4_3l45, ybs4_4l45) (w6 (ybs4_0l11 + e6.2.2.1))).1.2.2.2.2).length c16_4]), (59, .agg #[.int .i64 (rnS (ybs4_0l45, ybs4_1l45, ybs4_2l45, ybs4_3l45, ybs4_4l45) (w6 (ybs4_0l11 + e6.2.2.1))).2.1.1, .int .i64 (rnS (ybs4_0l45, ybs4_1l45, ybs4_2l45, ybs4_3l45, ybs4_4l45) (w6 (ybs4_0l11 + e6.2.2.1))).2.1.2.1, .bool (rnS (ybs4_0l45, ybs4_1l45, ybs4_2l45, ybs4_3l45, ybs4_4l45) (w6 (ybs4_0l11 + e6.2.2.1))).2.1.2.2.1, sv ((rnS (ybs4_0l45, ybs4_1l45, ybs4_2l45, ybs4_3l45, ybs4_4l45) (w6 (ybs4_0l11 + e6.2.2.1))).2.1.2.2.2.1), .int .i64 (rnS (ybs4_0l45, ybs4_1l45, ybs4_2l45, ybs4_3l45, ybs4_4l45) (w6 (ybs4_0l11 + e6.2.2.1))).2.1.2.2.2.2.1, .int .i64 (rnS (ybs4_0l45, ybs4_1l45, ybs4_2l45, ybs4_3l45, ybs4_4l45) (w6 (ybs4_0l11 + e6.2.2.1))).2.1.2.2.2.2.2.1, sv ((rnS (ybs4_0l45, ybs4_1l45, ybs4_2l45, ybs4_3l45, ybs4_4l45) (w6 (ybs4_0l11 + e6.2.2.1))).2.1.2.2.2.2.2.2)]), (60, .bool (rnS (ybs4_0l45, ybs4_1l45, ybs4_2l45, ybs4_3l45, ybs4_4l45) (w6 (ybs4_0l11 + e6.2.2.1))).2.2)] ?_
           refine Ok.op rfl (OpOk.alloc (z := .agg #[.int .i64 0, .int .i64 0, .slice none 0 0, .slice none 0 0, .slice none 0 0]) (cs := #[.int .i64 0, .int .i64 0, .slice none 0 0, .slice none 0 0, .slice none 0 0]) (by kernel_rfl) (by kernel_rfl) rfl fun bs12 => ?_)
           refine Ok.op rfl (OpOk.alloc (z := .agg #[.int .i64 0, .int .i64 0, .bool false, sv ([] : Bs), .int .i64 0, .int .i64 0, sv ([] : Bs)]) (cs := #[.int .i64 0, .int .i64 0, .bool false, sv ([] : Bs), .int .i64 0, .int .i64 0, sv ([] : Bs)]) (by kernel_rfl) (by kernel_rfl) rfl fun bs13 => ?_)
           refine Ok.op rfl (OpOk.sto (k := 5) (v := .agg #[.int .i64 (rnS (ybs4_0l45, ybs4_1l45, ybs4_2l45, ybs4_3l45, ybs4_4l45) (w6 (ybs4_0l11 + e6.2.2.1))).1.1, .int .i64 (rnS (ybs4_0l45, ybs4_1l45, ybs4_2l45, ybs4_3l45, ybs4_4l45) (w6 (ybs4_0l11 + e6.2.2.1))).1.2.1, .slice a16_0 ((rnS (ybs4_0l45, ybs4_1l45, ybs4_2l45, ybs4_3l45, ybs4_4l45) (w6 (ybs4_0l11 + e6.2.2.1))).1.2.2.1).length c16_0, .slice a16_2 ((rnS (ybs4_0l45, ybs4_1l45, ybs4_2l45, ybs4_3l45, ybs4_4l45) (w6 (ybs4_0l11 + e6.2.2.1))).1.2.2.2.1).length c16_2, .slice a16_4 ((rnS (ybs4_0l45, ybs4_1l45, ybs4_2l45, ybs4_3l45, ybs4_4l45) (w6 (ybs4_0l11 + e6.2.2.1))).1.2.2.2.2).length c16_4]) 1 #[.int .i64 (rnS (ybs4_0l45, ybs4_1l45, ybs4_2l45, ybs4_3l45, ybs4_4l45) (w6 (ybs4_0l11 + e6.2.2.1))).1.1, .int .i64 (rnS (ybs4_0l45, ybs4_1l45, ybs4_2l45, ybs4_3l45, ybs4_4l45) (w6 (ybs4_0l11 + e6.2.2.1))).1.2.1, .slice a16_0 ((rnS (ybs4_0l45, ybs4_1l45, ybs4_2l45, ybs4_3l45, ybs4_4l45) (w6 (ybs4_0l11 + e6.2.2.1))).1.2.2.1).length c16_0, .slice a16_2 ((rnS (ybs4_0l45, ybs4_1l45, ybs4_2l45, ybs4_3l45, ybs4_4l45) (w6 (ybs4_0l11 + e6.2.2.1))).1.2.2.2.1).length c16_2, .slice a16_4 ((rnS (ybs4_0l45, ybs4_1l45, ybs4_2l45, ybs4_3l45, ybs4_4l45) (w6 (ybs4_0l11 + e6.2.2.1))).1.2.2.2.2).length c16_4] rfl rfl rfl ?_)
           refine Ok.op rfl (OpOk.sto (k := 7) (v := .agg #[.int .i64 (rnS (ybs4_0l45, ybs4_1l45, ybs4_2l45, ybs4_3l45, ybs4_4l45) (w6 (ybs4_0l11 + e6.2.2.1))).2.1.1, .int .i64 (rnS (ybs4_0l45, ybs4_1l45, ybs4_2l45, ybs4_3l45, ybs4_4l45) (w6 (ybs4_0l11 + e6.2.2.1))).2.1.2.1, .bool (rnS (ybs4_0l45, ybs4_1l45, ybs4_2l45, ybs4_3l45, ybs4_4l45) (w6 (ybs4_0l11 + e6.2.2.1))).2.1.2.2.1, sv ((rnS (ybs4_0l45, ybs4_1l45, ybs4_2l45, ybs4_3l45, ybs4_4l45) (w6 (ybs4_0l11 + e6.2.2.1))).2.1.2.2.2.1), .int .i64 (rnS (ybs4_0l45, ybs4_1l45, ybs4_2l45, ybs4_3l45, ybs4_4l45) (w6 (ybs4_0l11 + e6.2.2.1))).2.1.2.2.2.2.1, .int .i64 (rnS (ybs4_0l45, ybs4_1l45, ybs4_2l45, ybs4_3l45, ybs4_4l45) (w6 (ybs4_0l11 + e6.2.2.1))).2.1.2.2.2.2.2.1, sv ((rnS (ybs4_0l45, ybs4_1l45, ybs4_2l45, ybs4_3l45, ybs4_4l45) (w6 (ybs4_0l11 + e6.2.2.1))).2.1.2.2.2.2.2.2)]) 0 #[.int .i64 (rnS (ybs4_0l45, ybs4_1l45, ybs4_2l45, ybs4_3l45, ybs4_4l45) (w6 (ybs4_0l11 + e6.2.2.1))).2.1.1, .int .i64 (rnS (ybs4_0l45, ybs4_1l45, ybs4_2l45, ybs4_3l45, ybs4_4l45) (w6 (ybs4_0l11 + e6.2.2.1))).2.1.2.1, .bool (rnS (ybs4_0l45, ybs4_1l45, ybs4_2l45, ybs4_3l45, ybs4_4l45) (w6 (ybs4_0l11 + e6.2.2.1))).2.1.2.2.1, sv ((rnS (ybs4_0l45, ybs4_1l45, ybs4_2l45, ybs4_3l45, ybs4_4l45) (w6 (ybs4_0l11 + e6.2.2.1))).2.1.2.2.2.1), .int .i64 (rnS (ybs4_0l45, ybs4_1l45, ybs4_2l45, ybs4_3l45, ybs4_4l45) (w6 (ybs4_0l11 + e6.2.2.1))).2.1.2.2.2.2.1, .int .i64 (rnS (ybs4_0l45, ybs4_1l45, ybs4_2l45, ybs4_3l45, ybs4_4l45) (w6 (ybs4_0l11 + e6.2.2.1))).2.1.2.2.2.2.2.1, sv ((rnS (ybs4_0l45, ybs4_1l45, ybs4_2l45, ybs4_3l45, ybs4_4l45) (w6 (ybs4_0l11 + e6.2.2.1))).2.1.2.2.2.2.2.2)] rfl rfl rfl ?_)
           refine Ok.bat 1 [3, 4, 5, 11, 15, 16, 17] [(12, pv bs12 0), (13, pv bs13 0), (14, .bool (rnS (ybs4_0l45, ybs4_1l45, ybs4_2l45, ybs4_3l45, ybs4_4l45) (w6 (ybs4_0l11 + e6.2.2.1))).2.2)] ?_
           refine Ok.nil (Ok.thenN (Ok.seq (Ok.seq (Ok.region (Ok.op rfl (OpOk.step (v := .agg #[.int .i64 (rnS (ybs4_0l45, ybs4_1l45, ybs4_2l45, ybs4_3l45, ybs4_4l45) (w6 (ybs4_0l11 + e6.2.2.1))).1.1, .int .i64 (rnS (ybs4_0l45, ybs4_1l45, ybs4_2l45, ybs4_3l45, ybs4_4l45) (w6 (ybs4_0l11 + e6.2.2.1))).1.2.1, .slice a16_0 ((rnS (ybs4_0l45, ybs4_1l45, ybs4_2l45, ybs4_3l45, ybs4_4l45) (w6 (ybs4_0l11 + e6.2.2.1))).1.2.2.1).length c16_0, .slice a16_2 ((rnS (ybs4_0l45, ybs4_1l45, ybs4_2l45, ybs4_3l45, ybs4_4l45) (w6 (ybs4_0l11 + e6.2.2.1))).1.2.2.2.1).length c16_2, .slice a16_4 ((rnS (ybs4_0l45, ybs4_1l45, ybs4_2l45, ybs4_3l45, ybs4_4l45) (w6 (ybs4_0l11 + e6.2.2.1))).1.2.2.2.2).length c16_4]) (Yields.loadAgg 1 5 #[.int .i64 (rnS (ybs4_0l45, ybs4_1l45, ybs4_2l45, ybs4_3l45, ybs4_4l45) (w6 (ybs4_0l11 + e6.2.2.1))).1.1, .int .i64 (rnS (ybs4_0l45, ybs4_1l45, ybs4_2l45, ybs4_3l45, ybs4_4l45) (w6 (ybs4_0l11 + e6.2.2.1))).1.2.1, .slice a16_0 ((rnS (ybs4_0l45, ybs4_1l45, ybs4_2l45, ybs4_3l45, ybs4_4l45) (w6 (ybs4_0l11 + e6.2.2.1))).1.2.2.1).length c16_0, .slice a16_2 ((rnS (ybs4_0l45, ybs4_1l45, ybs4_2l45, ybs4_3l45, ybs4_4l45) (w6 (ybs4_0l11 + e6.2.2.1))).1.2.2.2.1).length c16_2, .slice a16_4 ((rnS (ybs4_0l45, ybs4_1l45, ybs4_2l45, ybs4_3l45, ybs4_4l45) (w6 (ybs4_0l11 + e6.2.2.1))).1.2.2.2.2).length c16_4] rfl rfl Try.underlying37 rfl (by kernel_rfl) (by kernel_rfl) (by kernel_rfl)) rfl rfl (Ok.op rfl (OpOk.sto (k := 5) (v := .agg #[.int .i64 (rnS (ybs4_0l45, ybs4_1l45, ybs4_2l45, ybs4_3l45, ybs4_4l45) (w6 (ybs4_0l11 + e6.2.2.1))).1.1, .int .i64 (rnS (ybs4_0l45, ybs4_1l45, ybs4_2l45, ybs4_3l45, ybs4_4l45) (w6 (ybs4_0l11 + e6.2.2.1))).1.2.1, .slice a16_0 ((rnS (ybs4_0l45, ybs4_1l45, ybs4_2l45, ybs4_3l45, ybs4_4l45) (w6 (ybs4_0l11 + e6.2.2.1))).1.2.2.1).length c16_0, .slice a16_2 ((rnS (ybs4_0l45, ybs4_1l45, ybs4_2l45, ybs4_3l45, ybs4_4l45) (w6 (ybs4_0l11 + e6.2.2.1))).1.2.2.2.1).length c16_2, .slice a16_4 ((rnS (ybs4_0l45, ybs4_1l45, ybs4_2l45, ybs4_3l45, ybs4_4l45) (w6 (ybs4_0l11 + e6.2.2.1))).1.2.2.2.2).length c16_4]) 3 #[.int .i64 (rnS (ybs4_0l45, ybs4_1l45, ybs4_2l45, ybs4_3l45, ybs4_4l45) (w6 (ybs4_0l11 + e6.2.2.1))).1.1, .int .i64 (rnS (ybs4_0l45, ybs4_1l45, ybs4_2l45, ybs4_3l45, ybs4_4l45) (w6 (ybs4_0l11 + e6.2.2.1))).1.2.1, .slice a16_0 ((rnS (ybs4_0l45, ybs4_1l45, ybs4_2l45, ybs4_3l45, ybs4_4l45) (w6 (ybs4_0l11 + e6.2.2.1))).1.2.2.1).length c16_0, .slice a16_2 ((rnS (ybs4_0l45, ybs4_1l45, ybs4_2l45, ybs4_3l45, ybs4_4l45) (w6 (ybs4_0l11 + e6.2.2.1))).1.2.2.2.1).length c16_2, .slice a16_4 ((rnS (ybs4_0l45, ybs4_1l45, ybs4_2l45, ybs4_3l45, ybs4_4l45) (w6 (ybs4_0l11 + e6.2.2.1))).1.2.2.2.2).length c16_4] rfl rfl rfl ?_))))))))
           refine Ok.nil (Ok.thenN (Ok.seq (Ok.region (Ok.bat 2 [3, 4, 5, 11, 13, 15, 16, 17] [(63, .bool (!((rnS (ybs4_0l45, ybs4_1l45, ybs4_2l45, ybs4_3l45, ybs4_4l45) (w6 (ybs4_0l11 + e6.2.2.1))).2.2)))] ?_))))
           refine Ok.nil (Ok.thenN (Ok.cond (b := !((rnS (ybs4_0l45, ybs4_1l45, ybs4_2l45, ybs4_3l45, ybs4_4l45) (w6 (ybs4_0l11 + e6.2.2.1))).2.2)) rfl (fun hc19 => ?_) (fun hc19 => ?_)))
           ·replace hF := hF.1 hc19
            refine Ok.exit (Ok.thenE (Ok.blockMiss rfl (Ok.thenE (Ok.blockHit (Ok.blockN (Ok.thenN ?_))))))
            subst hg6
            exact fun a W hA hW => ⟨g16, ((hxj37.trans hxl45).trans hx16), ayown3_0l45, cyown3_0l45, yown3_0l45, xsyown3_0l45, (rnS (ybs4_0l45, ybs4_1l45, ybs4_2l45, ybs4_3l45, ybs4_4l45) (w6 (ybs4_0l11 + (xasks.getD (Int.toNat x17l11) default).2.2.1))).1.1, (rnS (ybs4_0l45, ybs4_1l45, ybs4_2l45, ybs4_3l45, ybs4_4l45) (w6 (ybs4_0l11 + (xasks.getD (Int.toNat x17l11) default).2.2.1))).1.2.1, a16_0, c16_0, (rnS (ybs4_0l45, ybs4_1l45, ybs4_2l45, ybs4_3l45, ybs4_4l45) (w6 (ybs4_0l11 + (xasks.getD (Int.toNat x17l11) default).2.2.1))).1.2.2.1, a16_2, c16_2, (rnS (ybs4_0l45, ybs4_1l45, ybs4_2l45, ybs4_3l45, ybs4_4l45) (w6 (ybs4_0l11 + (xasks.getD (Int.toNat x17l11) default).2.2.1))).1.2.2.2.1, a16_4, c16_4, (rnS (ybs4_0l45, ybs4_1l45, ybs4_2l45, ybs4_3l45, ybs4_4l45) (w6 (ybs4_0l11 + (xasks.getD (Int.toNat x17l11) default).2.2.1))).1.2.2.2.2, hLyown3_0l45, hR16_0, hR16_2, hR16_4, hA.sub (by kernel_rfl), hW.sub (.cons _ (.cons _ (.cons_cons _ (.cons_cons _ (.cons_cons _ .slnil))))), hF⟩
           ·replace hF := hF.2 hc19
            refine Ok.skip (Ok.thenN (Ok.region (Ok.bat 1 [3, 4, 11, 13, 15, 16, 17] [(64, .slice ayown3_0l45 yown3_0l45.length cyown3_0l45)] ?_)))
            refine Ok.op rfl (OpOk.step (v := .agg #[.int .i64 (rnS (ybs4_0l45, ybs4_1l45, ybs4_2l45, ybs4_3l45, ybs4_4l45) (w6 (ybs4_0l11 + e6.2.2.1))).2.1.1, .int .i64 (rnS (ybs4_0l45, ybs4_1l45, ybs4_2l45, ybs4_3l45, ybs4_4l45) (w6 (ybs4_0l11 + e6.2.2.1))).2.1.2.1, .bool (rnS (ybs4_0l45, ybs4_1l45, ybs4_2l45, ybs4_3l45, ybs4_4l45) (w6 (ybs4_0l11 + e6.2.2.1))).2.1.2.2.1, sv ((rnS (ybs4_0l45, ybs4_1l45, ybs4_2l45, ybs4_3l45, ybs4_4l45) (w6 (ybs4_0l11 + e6.2.2.1))).2.1.2.2.2.1), .int .i64 (rnS (ybs4_0l45, ybs4_1l45, ybs4_2l45, ybs4_3l45, ybs4_4l45) (w6 (ybs4_0l11 + e6.2.2.1))).2.1.2.2.2.2.1, .int .i64 (rnS (ybs4_0l45, ybs4_1l45, ybs4_2l45, ybs4_3l45, ybs4_4l45) (w6 (ybs4_0l11 + e6.2.2.1))).2.1.2.2.2.2.2.1, sv ((rnS (ybs4_0l45, ybs4_1l45, ybs4_2l45, ybs4_3l45, ybs4_4l45) (w6 (ybs4_0l11 + e6.2.2.1))).2.1.2.2.2.2.2.2)]) (Yields.loadAgg 0 7 #[.int .i64 (rnS (ybs4_0l45, ybs4_1l45, ybs4_2l45, ybs4_3l45, ybs4_4l45) (w6 (ybs4_0l11 + e6.2.2.1))).2.1.1, .int .i64 (rnS (ybs4_0l45, ybs4_1l45, ybs4_2l45, ybs4_3l45, ybs4_4l45) (w6 (ybs4_0l11 + e6.2.2.1))).2.1.2.1, .bool (rnS (ybs4_0l45, ybs4_1l45, ybs4_2l45, ybs4_3l45, ybs4_4l45) (w6 (ybs4_0l11 + e6.2.2.1))).2.1.2.2.1, sv ((rnS (ybs4_0l45, ybs4_1l45, ybs4_2l45, ybs4_3l45, ybs4_4l45) (w6 (ybs4_0l11 + e6.2.2.1))).2.1.2.2.2.1), .int .i64 (rnS (ybs4_0l45, ybs4_1l45, ybs4_2l45, ybs4_3l45, ybs4_4l45) (w6 (ybs4_0l11 + e6.2.2.1))).2.1.2.2.2.2.1, .int .i64 (rnS (ybs4_0l45, ybs4_1l45, ybs4_2l45, ybs4_3l45, ybs4_4l45) (w6 (ybs4_0l11 + e6.2.2.1))).2.1.2.2.2.2.2.1, sv ((rnS (ybs4_0l45, ybs4_1l45, ybs4_2l45, ybs4_3l45, ybs4_4l45) (w6 (ybs4_0l11 + e6.2.2.1))).2.1.2.2.2.2.2.2)] rfl rfl Try.underlying43 rfl (by kernel_rfl) (by kernel_rfl) (by kernel_rfl)) rfl rfl ?_)
            have hL20 : RepL g16 (.pair (.int .i64) (.pair (.int .i64) (.pair (.bool) (.pair (.str) (.pair (.int .i64) (.pair (.int .i64) (.str))))))) ([.int .i64 (rnS (ybs4_0l45, ybs4_1l45, ybs4_2l45, ybs4_3l45, ybs4_4l45) (w6 (ybs4_0l11 + e6.2.2.1))).2.1.1, .int .i64 (rnS (ybs4_0l45, ybs4_1l45, ybs4_2l45, ybs4_3l45, ybs4_4l45) (w6 (ybs4_0l11 + e6.2.2.1))).2.1.2.1, .bool (rnS (ybs4_0l45, ybs4_1l45, ybs4_2l45, ybs4_3l45, ybs4_4l45) (w6 (ybs4_0l11 + e6.2.2.1))).2.1.2.2.1, sv ((rnS (ybs4_0l45, ybs4_1l45, ybs4_2l45, ybs4_3l45, ybs4_4l45) (w6 (ybs4_0l11 + e6.2.2.1))).2.1.2.2.2.1), .int .i64 (rnS (ybs4_0l45, ybs4_1l45, ybs4_2l45, ybs4_3l45, ybs4_4l45) (w6 (ybs4_0l11 + e6.2.2.1))).2.1.2.2.2.2.1, .int .i64 (rnS (ybs4_0l45, ybs4_1l45, ybs4_2l45, ybs4_3l45, ybs4_4l45) (w6 (ybs4_0l11 + e6.2.2.1))).2.1.2.2.2.2.2.1, sv ((rnS (ybs4_0l45, ybs4_1l45, ybs4_2l45, ybs4_3l45, ybs4_4l45) (w6 (ybs4_0l11 + e6.2.2.1))).2.1.2.2.2.2.2.2)] : List Value) ([((rnS (ybs4_0l45, ybs4_1l45, ybs4_2l45, ybs4_3l45, ybs4_4l45) (w6 (ybs4_0l11 + e6.2.2.1))).2.1.1, (rnS (ybs4_0l45, ybs4_1l45, ybs4_2l45, ybs4_3l45, ybs4_4l45) (w6 (ybs4_0l11 + e6.2.2.1))).2.1.2.1, (rnS (ybs4_0l45, ybs4_1l45, ybs4_2l45, ybs4_3l45, ybs4_4l45) (w6 (ybs4_0l11 + e6.2.2.1))).2.1.2.2.1, (rnS (ybs4_0l45, ybs4_1l45, ybs4_2l45, ybs4_3l45, ybs4_4l45) (w6 (ybs4_0l11 + e6.2.2.1))).2.1.2.2.2.1, (rnS (ybs4_0l45, ybs4_1l45, ybs4_2l45, ybs4_3l45, ybs4_4l45) (w6 (ybs4_0l11 + e6.2.2.1))).2.1.2.2.2.2)] : List (JJ)) := (RepL.consN (c := [.int .i64 (rnS (ybs4_0l45, ybs4_1l45, ybs4_2l45, ybs4_3l45, ybs4_4l45) (w6 (ybs4_0l11 + e6.2.2.1))).2.1.1, .int .i64 (rnS (ybs4_0l45, ybs4_1l45, ybs4_2l45, ybs4_3l45, ybs4_4l45) (w6 (ybs4_0l11 + e6.2.2.1))).2.1.2.1, .bool (rnS (ybs4_0l45, ybs4_1l45, ybs4_2l45, ybs4_3l45, ybs4_4l45) (w6 (ybs4_0l11 + e6.2.2.1))).2.1.2.2.1, sv ((rnS (ybs4_0l45, ybs4_1l45, ybs4_2l45, ybs4_3l45, ybs4_4l45) (w6 (ybs4_0l11 + e6.2.2.1))).2.1.2.2.2.1), .int .i64 (rnS (ybs4_0l45, ybs4_1l45, ybs4_2l45, ybs4_3l45, ybs4_4l45) (w6 (ybs4_0l11 + e6.2.2.1))).2.1.2.2.2.2.1, .int .i64 (rnS (ybs4_0l45, ybs4_1l45, ybs4_2l45, ybs4_3l45, ybs4_4l45) (w6 (ybs4_0l11 + e6.2.2.1))).2.1.2.2.2.2.2.1, sv ((rnS (ybs4_0l45, ybs4_1l45, ybs4_2l45, ybs4_3l45, ybs4_4l45) (w6 (ybs4_0l11 + e6.2.2.1))).2.1.2.2.2.2.2.2)]) ⟨[.int .i64 (rnS (ybs4_0l45, ybs4_1l45, ybs4_2l45, ybs4_3l45, ybs4_4l45) (w6 (ybs4_0l11 + e6.2.2.1))).2.1.1], [.int .i64 (rnS (ybs4_0l45, ybs4_1l45, ybs4_2l45, ybs4_3l45, ybs4_4l45) (w6 (ybs4_0l11 + e6.2.2.1))).2.1.2.1, .bool (rnS (ybs4_0l45, ybs4_1l45, ybs4_2l45, ybs4_3l45, ybs4_4l45) (w6 (ybs4_0l11 + e6.2.2.1))).2.1.2.2.1, sv ((rnS (ybs4_0l45, ybs4_1l45, ybs4_2l45, ybs4_3l45, ybs4_4l45) (w6 (ybs4_0l11 + e6.2.2.1))).2.1.2.2.2.1), .int .i64 (rnS (ybs4_0l45, ybs4_1l45, ybs4_2l45, ybs4_3l45, ybs4_4l45) (w6 (ybs4_0l11 + e6.2.2.1))).2.1.2.2.2.2.1, .int .i64 (rnS (ybs4_0l45, ybs4_1l45, ybs4_2l45, ybs4_3l45, ybs4_4l45) (w6 (ybs4_0l11 + e6.2.2.1))).2.1.2.2.2.2.2.1, sv ((rnS (ybs4_0l45, ybs4_1l45, ybs4_2l45, ybs4_3l45, ybs4_4l45) (w6 (ybs4_0l11 + e6.2.2.1))).2.1.2.2.2.2.2.2)], rfl, rfl, ⟨[.int .i64 (rnS (ybs4_0l45, ybs4_1l45, ybs4_2l45, ybs4_3l45, ybs4_4l45) (w6 (ybs4_0l11 + e6.2.2.1))).2.1.2.1], [.bool (rnS (ybs4_0l45, ybs4_1l45, ybs4_2l45, ybs4_3l45, ybs4_4l45) (w6 (ybs4_0l11 + e6.2.2.1))).2.1.2.2.1, sv ((rnS (ybs4_0l45, ybs4_1l45, ybs4_2l45, ybs4_3l45, ybs4_4l45) (w6 (ybs4_0l11 + e6.2.2.1))).2.1.2.2.2.1), .int .i64 (rnS (ybs4_0l45, ybs4_1l45, ybs4_2l45, ybs4_3l45, ybs4_4l45) (w6 (ybs4_0l11 + e6.2.2.1))).2.1.2.2.2.2.1, .int .i64 (rnS (ybs4_0l45, ybs4_1l45, ybs4_2l45, ybs4_3l45, ybs4_4l45) (w6 (ybs4_0l11 + e6.2.2.1))).2.1.2.2.2.2.2.1, sv ((rnS (ybs4_0l45, ybs4_1l45, ybs4_2l45, ybs4_3l45, ybs4_4l45) (w6 (ybs4_0l11 + e6.2.2.1))).2.1.2.2.2.2.2.2)], rfl, rfl, ⟨[.bool (rnS (ybs4_0l45, ybs4_1l45, ybs4_2l45, ybs4_3l45, ybs4_4l45) (w6 (ybs4_0l11 + e6.2.2.1))).2.1.2.2.1], [sv ((rnS (ybs4_0l45, ybs4_1l45, ybs4_2l45, ybs4_3l45, ybs4_4l45) (w6 (ybs4_0l11 + e6.2.2.1))).2.1.2.2.2.1), .int .i64 (rnS (ybs4_0l45, ybs4_1l45, ybs4_2l45, ybs4_3l45, ybs4_4l45) (w6 (ybs4_0l11 + e6.2.2.1))).2.1.2.2.2.2.1, .int .i64 (rnS (ybs4_0l45, ybs4_1l45, ybs4_2l45, ybs4_3l45, ybs4_4l45) (w6 (ybs4_0l11 + e6.2.2.1))).2.1.2.2.2.2.2.1, sv ((rnS (ybs4_0l45, ybs4_1l45, ybs4_2l45, ybs4_3l45, ybs4_4l45) (w6 (ybs4_0l11 + e6.2.2.1))).2.1.2.2.2.2.2.2)], rfl, rfl, ⟨[sv ((rnS (ybs4_0l45, ybs4_1l45, ybs4_2l45, ybs4_3l45, ybs4_4l45) (w6 (ybs4_0l11 + e6.2.2.1))).2.1.2.2.2.1)], [.int .i64 (rnS (ybs4_0l45, ybs4_1l45, ybs4_2l45, ybs4_3l45, ybs4_4l45) (w6 (ybs4_0l11 + e6.2.2.1))).2.1.2.2.2.2.1, .int .i64 (rnS (ybs4_0l45, ybs4_1l45, ybs4_2l45, ybs4_3l45, ybs4_4l45) (w6 (ybs4_0l11 + e6.2.2.1))).2.1.2.2.2.2.2.1, sv ((rnS (ybs4_0l45, ybs4_1l45, ybs4_2l45, ybs4_3l45, ybs4_4l45) (w6 (ybs4_0l11 + e6.2.2.1))).2.1.2.2.2.2.2.2)], rfl, rfl, ⟨[.int .i64 (rnS (ybs4_0l45, ybs4_1l45, ybs4_2l45, ybs4_3l45, ybs4_4l45) (w6 (ybs4_0l11 + e6.2.2.1))).2.1.2.2.2.2.1], [.int .i64 (rnS (ybs4_0l45, ybs4_1l45, ybs4_2l45, ybs4_3l45, ybs4_4l45) (w6 (ybs4_0l11 + e6.2.2.1))).2.1.2.2.2.2.2.1, sv ((rnS (ybs4_0l45, ybs4_1l45, ybs4_2l45, ybs4_3l45, ybs4_4l45) (w6 (ybs4_0l11 + e6.2.2.1))).2.1.2.2.2.2.2.2)], rfl, rfl, ⟨[.int .i64 (rnS (ybs4_0l45, ybs4_1l45, ybs4_2l45, ybs4_3l45, ybs4_4l45) (w6 (ybs4_0l11 + e6.2.2.1))).2.1.2.2.2.2.2.1], [sv ((rnS (ybs4_0l45, ybs4_1l45, ybs4_2l45, ybs4_3l45, ybs4_4l45) (w6 (ybs4_0l11 + e6.2.2.1))).2.1.2.2.2.2.2.2)], rfl, rfl, rfl⟩⟩⟩⟩⟩⟩ rfl)
            refine Ok.op rfl (OpOk.lit (E := 43) (.pair (.int .i64) (.pair (.int .i64) (.pair (.bool) (.pair (.str) (.pair (.int .i64) (.pair (.int .i64) (.str))))))) ([((rnS (ybs4_0l45, ybs4_1l45, ybs4_2l45, ybs4_3l45, ybs4_4l45) (w6 (ybs4_0l11 + e6.2.2.1))).2.1.1, (rnS (ybs4_0l45, ybs4_1l45, ybs4_2l45, ybs4_3l45, ybs4_4l45) (w6 (ybs4_0l11 + e6.2.2.1))).2.1.2.1, (rnS (ybs4_0l45, ybs4_1l45, ybs4_2l45, ybs4_3l45, ybs4_4l45) (w6 (ybs4_0l11 + e6.2.2.1))).2.1.2.2.1, (rnS (ybs4_0l45, ybs4_1l45, ybs4_2l45, ybs4_3l45, ybs4_4l45) (w6 (ybs4_0l11 + e6.2.2.1))).2.1.2.2.2.1, (rnS (ybs4_0l45, ybs4_1l45, ybs4_2l45, ybs4_3l45, ybs4_4l45) (w6 (ybs4_0l11 + e6.2.2.1))).2.1.2.2.2.2)] : List (JJ)) ([.int .i64 (rnS (ybs4_0l45, ybs4_1l45, ybs4_2l45, ybs4_3l45, ybs4_4l45) (w6 (ybs4_0l11 + e6.2.2.1))).2.1.1, .int .i64 (rnS (ybs4_0l45, ybs4_1l45, ybs4_2l45, ybs4_3l45, ybs4_4l45) (w6 (ybs4_0l11 + e6.2.2.1))).2.1.2.1, .bool (rnS (ybs4_0l45, ybs4_1l45, ybs4_2l45, ybs4_3l45, ybs4_4l45) (w6 (ybs4_0l11 + e6.2.2.1))).2.1.2.2.1, sv ((rnS (ybs4_0l45, ybs4_1l45, ybs4_2l45, ybs4_3l45, ybs4_4l45) (w6 (ybs4_0l11 + e6.2.2.1))).2.1.2.2.2.1), .int .i64 (rnS (ybs4_0l45, ybs4_1l45, ybs4_2l45, ybs4_3l45, ybs4_4l45) (w6 (ybs4_0l11 + e6.2.2.1))).2.1.2.2.2.2.1, .int .i64 (rnS (ybs4_0l45, ybs4_1l45, ybs4_2l45, ybs4_3l45, ybs4_4l45) (w6 (ybs4_0l11 + e6.2.2.1))).2.1.2.2.2.2.2.1, sv ((rnS (ybs4_0l45, ybs4_1l45, ybs4_2l45, ybs4_3l45, ybs4_4l45) (w6 (ybs4_0l11 + e6.2.2.1))).2.1.2.2.2.2.2.2)] : List Value) (by kernel_rfl) (by kernel_rfl) rfl (by kernel_rfl) hL20 rfl fun b20 => ?_)
            obtain ⟨hb21, hF⟩ := hF
            refine Ok.op rfl (OpOk.append' (e := .pair (.int .i64) (.pair (.int .i64) (.pair (.bool) (.pair (.str) (.pair (.int .i64) (.pair (.int .i64) (.str))))))) 72 1954687338268 3 0 rfl rfl rfl rfl hLyown3_0l45 hL20 Try.underlying34 (by kernel_rfl) (by kernel_rfl) (by kernel_rfl) hb21 rfl fun a21 c21 xs21 hL21 => ?_)
            refine Ok.bat 1 [3, 4, 11, 15, 16, 17] [(5, .slice a21 (yown3_0l45 ++ ([((rnS (ybs4_0l45, ybs4_1l45, ybs4_2l45, ybs4_3l45, ybs4_4l45) (w6 (ybs4_0l11 + e6.2.2.1))).2.1.1, (rnS (ybs4_0l45, ybs4_1l45, ybs4_2l45, ybs4_3l45, ybs4_4l45) (w6 (ybs4_0l11 + e6.2.2.1))).2.1.2.1, (rnS (ybs4_0l45, ybs4_1l45, ybs4_2l45, ybs4_3l45, ybs4_4l45) (w6 (ybs4_0l11 + e6.2.2.1))).2.1.2.2.1, (rnS (ybs4_0l45, ybs4_1l45, ybs4_2l45, ybs4_3l45, ybs4_4l45) (w6 (ybs4_0l11 + e6.2.2.1))).2.1.2.2.2.1, (rnS (ybs4_0l45, ybs4_1l45, ybs4_2l45, ybs4_3l45, ybs4_4l45) (w6 (ybs4_0l11 + e6.2.2.1))).2.1.2.2.2.2)] : List (JJ))).length c21)] ?_
            refine Ok.nil (Ok.blockN (Ok.thenN ?_))
            exact fun a W hA hW => ⟨k45, Nat.lt_succ_self _, g16, (hxl45.trans hx16), a21, c21, (yown3_0l45 ++ ([((rnS (ybs4_0l45, ybs4_1l45, ybs4_2l45, ybs4_3l45, ybs4_4l45) (w6 (ybs4_0l11 + e6.2.2.1))).2.1.1, (rnS (ybs4_0l45, ybs4_1l45, ybs4_2l45, ybs4_3l45, ybs4_4l45) (w6 (ybs4_0l11 + e6.2.2.1))).2.1.2.1, (rnS (ybs4_0l45, ybs4_1l45, ybs4_2l45, ybs4_3l45, ybs4_4l45) (w6 (ybs4_0l11 + e6.2.2.1))).2.1.2.2.1, (rnS (ybs4_0l45, ybs4_1l45, ybs4_2l45, ybs4_3l45, ybs4_4l45) (w6 (ybs4_0l11 + e6.2.2.1))).2.1.2.2.2.1, (rnS (ybs4_0l45, ybs4_1l45, ybs4_2l45, ybs4_3l45, ybs4_4l45) (w6 (ybs4_0l11 + e6.2.2.1))).2.1.2.2.2.2)] : List (JJ))), xs21, (rnS (ybs4_0l45, ybs4_1l45, ybs4_2l45, ybs4_3l45, ybs4_4l45) (w6 (ybs4_0l11 + e6.2.2.1))).1.1, (rnS (ybs4_0l45, ybs4_1l45, ybs4_2l45, ybs4_3l45, ybs4_4l45) (w6 (ybs4_0l11 + e6.2.2.1))).1.2.1, a16_0, c16_0, (rnS (ybs4_0l45, ybs4_1l45, ybs4_2l45, ybs4_3l45, ybs4_4l45) (w6 (ybs4_0l11 + e6.2.2.1))).1.2.2.1, a16_2, c16_2, (rnS (ybs4_0l45, ybs4_1l45, ybs4_2l45, ybs4_3l45, ybs4_4l45) (w6 (ybs4_0l11 + e6.2.2.1))).1.2.2.2.1, a16_4, c16_4, (rnS (ybs4_0l45, ybs4_1l45, ybs4_2l45, ybs4_3l45, ybs4_4l45) (w6 (ybs4_0l11 + e6.2.2.1))).1.2.2.2.2, hL21, hR16_0, hR16_2, hR16_4, hA.sub (by kernel_rfl), hW.sub (.cons _ (.cons _ (.cons _ (.cons_cons _ (.cons_cons _ (.cons_cons _ .slnil)))))), hF⟩
          ·replace hF := hF.2 hc14
           refine Ok.exit (Ok.thenE (Ok.thenE (Ok.blockHit (Ok.blockN (Ok.thenN ?_)))))
           subst hg6
           exact fun a W hA hW => ⟨gl45, (hxj37.trans hxl45), ayown3_0l45, cyown3_0l45, yown3_0l45, xsyown3_0l45, ybs4_0l45, ybs4_1l45, aybs4_2l45, cybs4_2l45, ybs4_2l45, aybs4_3l45, cybs4_3l45, ybs4_3l45, aybs4_4l45, cybs4_4l45, ybs4_4l45, hLyown3_0l45, hRybs4_2l45, hRybs4_3l45, hRybs4_4l45, hA.sub (by kernel_rfl), hW, hF⟩
    ·
     clear hF
     rintro a W ⟨gj18, hxj18, ayown3_0j18, cyown3_0j18, yown3_0j18, xsyown3_0j18, ybs4_0j18, ybs4_1j18, aybs4_2j18, cybs4_2j18, ybs4_2j18, aybs4_3j18, cybs4_3j18, ybs4_3j18, aybs4_4j18, cybs4_4j18, ybs4_4j18, hLyown3_0j18, hRybs4_2j18, hRybs4_3j18, hRybs4_4j18, hA, hW, hF⟩
     refine (?_ : Ok _ _ _ _ _ _) a W hA hW
     clear hA hW
     replace hRxasks_0 := hRxasks_0.mono hxj18.1
     refine Ok.region (Ok.bat 2 [3, 4, 5, 15, 16] [(17, .int .i64 (w6 (x17l11 + 1)))] ?_)
     refine Ok.nil (Ok.thenN ?_)
     exact fun a W hA hW => ⟨k11, Nat.lt_succ_self _, gj18, (hxl11.trans hxj18), w6 (x17l11 + 1), ayown3_0j18, cyown3_0j18, yown3_0j18, xsyown3_0j18, ybs4_0j18, ybs4_1j18, aybs4_2j18, cybs4_2j18, ybs4_2j18, aybs4_3j18, cybs4_3j18, ybs4_3j18, aybs4_4j18, cybs4_4j18, ybs4_4j18, hLyown3_0j18, hRybs4_2j18, hRybs4_3j18, hRybs4_4j18, hA.sub (by kernel_rfl), hW, hF⟩
   ·replace hF := hF.2 hc4
    refine Ok.exit (Ok.thenE (Ok.thenE (Ok.blockHit (Ok.thenN (Ok.seq (Ok.mix [] [] _ [(0, true), (1, true), (2, true), (3, false)] (by kernel_rfl) (by kernel_rfl) (.cons_cons _ (.cons_cons _ (.cons _ .slnil))) (OkM.bat 1 [3, 4] [(69, .slice ayown3_0l11 yown3_0l11.length cyown3_0l11)] ?_)))))))
    refine OkM.head rfl rfl rfl (OpQ.step (v := .agg #[.int .i64 ybs4_0l11, .int .i64 ybs4_1l11, .slice aybs4_2l11 ybs4_2l11.length cybs4_2l11, .slice aybs4_3l11 ybs4_3l11.length cybs4_3l11, .slice aybs4_4l11 ybs4_4l11.length cybs4_4l11]) (Yields.loadAgg 1 5 #[.int .i64 ybs4_0l11, .int .i64 ybs4_1l11, .slice aybs4_2l11 ybs4_2l11.length cybs4_2l11, .slice aybs4_3l11 ybs4_3l11.length cybs4_3l11, .slice aybs4_4l11 ybs4_4l11.length cybs4_4l11] rfl rfl Try.underlying37 rfl (by kernel_rfl) (by kernel_rfl) (by kernel_rfl)) rfl rfl (OkM.bat 1 [3] [(2, .slice ayown3_0l11 yown3_0l11.length cyown3_0l11), (70, .agg #[.int .i64 ybs4_0l11, .int .i64 ybs4_1l11, .slice aybs4_2l11 ybs4_2l11.length cybs4_2l11, .slice aybs4_3l11 ybs4_3l11.length cybs4_3l11, .slice aybs4_4l11 ybs4_4l11.length cybs4_4l11])] ?_))
    refine OkM.tail rfl rfl (OpOk.sto (k := 5) (v := .agg #[.int .i64 ybs4_0l11, .int .i64 ybs4_1l11, .slice aybs4_2l11 ybs4_2l11.length cybs4_2l11, .slice aybs4_3l11 ybs4_3l11.length cybs4_3l11, .slice aybs4_4l11 ybs4_4l11.length cybs4_4l11]) 2 #[.int .i64 ybs4_0l11, .int .i64 ybs4_1l11, .slice aybs4_2l11 ybs4_2l11.length cybs4_2l11, .slice aybs4_3l11 ybs4_3l11.length cybs4_3l11, .slice aybs4_4l11 ybs4_4l11.length cybs4_4l11] rfl rfl rfl ?_)
    refine OkM.leaf (i := 3) rfl (Gle.refl _) (.cons_cons _ (.cons_cons _ (.cons _ .slnil))) (OkM.nil (Ok.thenN (Ok.ret (Ok.frz 0 rfl hLyown3_0l11 fun g23 hx23 hRf23 => ?_))))
    replace hRybs4_2l11 := hRybs4_2l11.mono hx23.1
    replace hRybs4_3l11 := hRybs4_3l11.mono hx23.1
    replace hRybs4_4l11 := hRybs4_4l11.mono hx23.1
    exact Ok.resP (vs := [.slice ayown3_0l11 yown3_0l11.length cyown3_0l11, .agg #[.int .i64 ybs4_0l11, .int .i64 ybs4_1l11, .slice aybs4_2l11 ybs4_2l11.length cybs4_2l11, .slice aybs4_3l11 ybs4_3l11.length cybs4_3l11, .slice aybs4_4l11 ybs4_4l11.length cybs4_4l11]]) [] [] (by decide) rfl (.inl rfl) rfl (.cons (.tmp rfl) (.cons (.cellAgg 1 5 #[.int .i64 ybs4_0l11, .int .i64 ybs4_1l11, .slice aybs4_2l11 ybs4_2l11.length cybs4_2l11, .slice aybs4_3l11 ybs4_3l11.length cybs4_3l11, .slice aybs4_4l11 ybs4_4l11.length cybs4_4l11] rfl rfl Try.underlying37 rfl (by kernel_rfl) (by kernel_rfl) (by kernel_rfl)) .nil)) (hxl11.trans hx23) ⟨yown3_0l11, (ybs4_0l11, ybs4_1l11, ybs4_2l11, ybs4_3l11, ybs4_4l11), ayown3_0l11, cyown3_0l11, aybs4_2l11, cybs4_2l11, aybs4_3l11, cybs4_3l11, aybs4_4l11, cybs4_4l11, rfl, hRf23, hRybs4_2l11, hRybs4_3l11, hRybs4_4l11, rfl, hF⟩
def rlpP (l : List JK) : Prop := (∀ a ∈ l, 1 ≤ a.1 ∧ a.1 ≤ 6) ∧ ∀ a ∈ l, -9223372036854775808 ≤ a.2.2.1 ∧ a.2.2.1 ≤ 9223372036854775807
theorem rlp_F (l : List JK) (hp : rlpP l ∧ l.length ≤ 200) : rlpF l (fun o q => (o, q) = plyS l) := by
 obtain ⟨⟨hp1, hp2⟩, hlen⟩ := hp
 have outer : ∀ (k i : Nat) (s : List JJ × JL), i + k = l.length → good s → (l.drop i).foldl ply s = plyS l → rlpl11 l (fun o q => (o, q) = plyS l) (k + 1) (i : Int) s.1 s.2.1 s.2.2.1 s.2.2.2.1 s.2.2.2.2.1 s.2.2.2.2.2 := by
  intro k
  induction k with
  | zero =>
   intro i s hi hg hf
   refine ⟨fun hh => by have := of_decide_eq_true hh; omega, fun _ => ?_⟩
   rw [List.drop_of_length_le (by omega)] at hf
   rw [← hf]; rfl
  | succ k ih =>
   intro i s hi hg hf
   have hil : i < l.length := by omega
   rw [drop_get default hil, List.foldl_cons] at hf
   have ih := ih (i + 1) (ply s (l.getD i default)) (by omega) (ply_good s _ hg) hf
   have hmem := mem_getD default hil
   generalize hC : rlpl11 l (fun o q => (o, q) = plyS l) (k + 1) = C at ih
   have hb := hp2 _ hmem
   have hd := hp1 _ hmem
   have done : ∀ s' : List JJ × JL, C ((i + 1 : Nat) : Int) s'.1 s'.2.1 s'.2.2.1 s'.2.2.2.1 s'.2.2.2.2.1 s'.2.2.2.2.2 → rlpj18 s'.1 s'.2.1 s'.2.2.1 s'.2.2.2.1 s'.2.2.2.2.1 s'.2.2.2.2.2 (i : Int) C := fun s' h => by
    unfold rlpj18
    rw [w64 (by omega)]; exact h
   refine ⟨fun _ => ⟨by omega, by rw [Int.toNat_natCast]; exact hil, fun h1 => ⟨⟨hg.1, by rw [Int.toNat_natCast]; exact hb⟩, ?_⟩, fun h1 => ?_⟩, fun hh => by have := of_decide_eq_false hh; omega⟩
   ·rw [hC]
    refine two ?_
    unfold rlpj26 rlpj18 rlpV6 rlpV7 rlpV8 rlpV9 rlpV10
    rw [Int.toNat_natCast] at h1 ⊢
    generalize l.getD i default = a at *
    rw [show ((s.2.1, s.2.2.1, s.2.2.2.1, s.2.2.2.2.1, s.2.2.2.2.2) : JL) = s.2 from rfl, w64 (by omega)]
    have h1 := of_decide_eq_true h1
    unfold ply at ih
    rw [if_pos (show (a.1 != 6) = true by rw [bne_iff_ne]; omega)] at ih
    cases hc : ((raS s.2 a).2.2 == 0)
    ·rw [if_neg (by rw [hc]; simp)] at ih
     rw [if_f rfl, if_f rfl, if_f rfl, if_f rfl, if_f rfl]
     exact ih
    ·rw [if_pos hc] at ih
     rw [if_t rfl, if_t rfl, if_t rfl, if_t rfl, if_t rfl]
     exact ih
   ·rw [hC]
    have hz := (lch_zero hg.1).2
    have hnow := hz.now
    rw [Int.toNat_natCast] at h1
    have h1 := of_decide_eq_false h1
    have h6 : ((l.getD i default).1 != 6) = false := by rw [bne_eq_false_iff_eq]; omega
    unfold ply at ih
    rw [if_f h6] at ih
    have hV : rlpV11 (l.getD i default) s.2.1 = !(lwiM (l.getD i default).2.2.1 0 1000000 && decide (s.2.1 + (l.getD i default).2.2.1 ≤ 1000000000)) := by
     unfold rlpV11
     rw [show ∀ x y z : Int, rbtM x y z = lwiM x y z from fun _ _ _ => rfl]
     cases hw : lwiM (l.getD i default).2.2.1 0 1000000
     ·rfl
     ·rw [w64 (by have := (lwi_iff _ _ _).1 hw; omega)]
      rw [Bool.eq_iff_iff]
      simp only [Bool.not_true, Bool.false_or, Bool.true_and, Bool.not_eq_true', decide_eq_false_iff_not, decide_eq_true_eq]
      omega
    have j37 : rlpj37 l (l.getD i default) (i : Int) s.1 s.2.1 s.2.2.1 s.2.2.2.1 s.2.2.2.2.1 s.2.2.2.2.2 C := by
     refine ⟨fun hv => ?_, fun hv => ?_⟩
     ·rw [hV] at hv
      have hm : (lwiM (l.getD i default).2.2.1 0 1000000 && decide (s.2.1 + (l.getD i default).2.2.1 ≤ 1000000000)) = false := (Bool.not_eq_true' _).mp hv
      rw [if_f hm] at ih
      exact done s ih
     ·rw [hV] at hv
      have hm : (lwiM (l.getD i default).2.2.1 0 1000000 && decide (s.2.1 + (l.getD i default).2.2.1 ≤ 1000000000)) = true := (Bool.not_eq_false' _).mp hv
      rw [if_t hm] at ih
      rw [Bool.and_eq_true, lwi_iff, decide_eq_true_eq] at hm
      have hu : w6 (s.2.1 + (l.getD i default).2.2.1) = s.2.1 + (l.getD i default).2.2.1 := w64 (by omega)
      have run : ∀ (n : Nat) (q : JL) (out : List JJ), lchS q = 0 → q.1 ≤ s.2.1 + (l.getD i default).2.2.1 → out.length + n = 300 → C ((i + 1 : Nat) : Int) (runP n q (s.2.1 + (l.getD i default).2.2.1) out).1 (runP n q (s.2.1 + (l.getD i default).2.2.1) out).2.1 (runP n q (s.2.1 + (l.getD i default).2.2.1) out).2.2.1 (runP n q (s.2.1 + (l.getD i default).2.2.1) out).2.2.2.1 (runP n q (s.2.1 + (l.getD i default).2.2.1) out).2.2.2.2.1 (runP n q (s.2.1 + (l.getD i default).2.2.1) out).2.2.2.2.2 → rlpl45 l (l.getD i default) (i : Int) s.2.1 C (n + 1) out q.1 q.2.1 q.2.2.1 q.2.2.2.1 q.2.2.2.2 := by
       intro n
       induction n with
       | zero =>
        intro q out hz hq hn hD
        exact ⟨fun hh => by have := of_decide_eq_true hh; omega, fun _ => done (out, q) hD⟩
       | succ n ihn =>
        intro q out hz hq hn hD
        have hk := rn_keep (u := s.2.1 + (l.getD i default).2.2.1) hz ⟨hq, hm.2⟩
        refine ⟨fun _ => ⟨hz, ?_⟩, fun hh => by have := of_decide_eq_false hh; omega⟩
        rw [Int.toNat_natCast, hu]
        refine ⟨fun hh => ?_, fun hh => ⟨by rw [List.length_append, List.length_singleton]; omega, ?_⟩⟩
        ·have h2 : (rnS q (s.2.1 + (l.getD i default).2.2.1)).2.2 = false := by
          have hh : (!((rnS q (s.2.1 + (l.getD i default).2.2.1)).2.2)) = true := hh
          simpa using hh
         rw [runP, if_f h2] at hD
         exact done (out, (rnS q (s.2.1 + (l.getD i default).2.2.1)).1) hD
        ·have h2 : (rnS q (s.2.1 + (l.getD i default).2.2.1)).2.2 = true := by
          have hh : (!((rnS q (s.2.1 + (l.getD i default).2.2.1)).2.2)) = false := hh
          simpa using hh
         rw [runP, if_t h2] at hD
         exact ihn _ _ hk.1 hk.2 (by rw [List.length_append, List.length_singleton]; omega) hD
      have hl3 := hg.2
      exact ⟨_, run (300 - s.1.length) s.2 s.1 hg.1 (by omega) (by omega) ih⟩
    rw [Int.toNat_natCast]
    exact two j37
 exact ⟨_, outer l.length 0 ([], zeroL) (by omega) zero_good (by rw [List.drop_zero]; rfl)⟩
def rlpQ (l : List JK) : Prop := rlpP l ∧ l.length ≤ 200
theorem rlp_c {g : Ghost} {axasks_0 : Option Addr} {cxasks_0 : Nat} (xasks : List (Int × Int × Int × Bs × Int × Int × Bs)) (hRxasks_0 : Rep g (.slice (.pair (.int .i64) (.pair (.int .i64) (.pair (.int .i64) (.pair (.str) (.pair (.int .i64) (.pair (.int .i64) (.str)))))))) [.slice axasks_0 xasks.length cxasks_0] xasks)  (hp : rlpQ xasks) : CallsH Try.prog 22 #[.slice axasks_0 xasks.length cxasks_0] g [] (fun g' H' v => ∃ (ar0_0 : Option Addr) (cr0_0 : Nat), ∃ (ar1_0 : Option Addr) (cr1_0 : Nat), ∃ (ar1_1 : Option Addr) (cr1_1 : Nat), ∃ (ar1_2 : Option Addr) (cr1_2 : Nat), v = .tuple #[.slice ar0_0 ((plyS xasks).1).length cr0_0, .agg #[.int .i64 (plyS xasks).2.1, .int .i64 (plyS xasks).2.2.1, .slice ar1_0 (plyS xasks).2.2.2.1.length cr1_0, .slice ar1_1 (plyS xasks).2.2.2.2.1.length cr1_1, .slice ar1_2 (plyS xasks).2.2.2.2.2.length cr1_2]] ∧ Rep g' (.slice (.pair (.int .i64) (.pair (.int .i64) (.pair (.bool) (.pair (.str) (.pair (.int .i64) (.pair (.int .i64) (.str)))))))) [.slice ar0_0 ((plyS xasks).1).length cr0_0] (plyS xasks).1 ∧ Rep g' (.slice (.pair (.int .i64) (.pair (.int .i64) (.pair (.bool) (.pair (.str) (.pair (.int .i64) (.pair (.int .i64) (.str)))))))) [.slice ar1_0 (plyS xasks).2.2.2.1.length cr1_0] (plyS xasks).2.2.2.1 ∧ Rep g' (.slice (.pair (.int .i64) (.pair (.int .i64) (.pair (.bool) (.pair (.str) (.pair (.int .i64) (.pair (.int .i64) (.str)))))))) [.slice ar1_1 (plyS xasks).2.2.2.2.1.length cr1_1] (plyS xasks).2.2.2.2.1 ∧ Rep g' (.slice (.pair (.int .i64) (.pair (.int .i64) (.pair (.int .i64) (.pair (.int .i64) (.str)))))) [.slice ar1_2 (plyS xasks).2.2.2.2.2.length cr1_2] (plyS xasks).2.2.2.2.2 ∧ H' = []) :=
 (rlp_ok xasks hRxasks_0 _ (rlp_F xasks hp)).mono (by rintro g' H' v _ ⟨r0, r1, ar0_0, cr0_0, ar1_0, cr1_0, ar1_1, cr1_1, ar1_2, cr1_2, rfl, hRr0_0, hRr1_0, hRr1_1, hRr1_2, rfl, hK⟩; obtain ⟨rfl, rfl⟩ : r0 = (plyS xasks).1 ∧ r1 = (plyS xasks).2 := ⟨congrArg (fun z => z.1) hK, congrArg (fun z => z.2) hK⟩; exact ⟨ar0_0, cr0_0, ar1_0, cr1_0, ar1_1, cr1_1, ar1_2, cr1_2, rfl, hRr0_0, hRr1_0, hRr1_1, hRr1_2, rfl⟩)
def lq1F (xa : Int × Int × Int × Bs × Int × Int × Bs) (K : Bool → Prop) : Prop :=
 K (!(rbtM xa.1 1 6))
theorem lq1_ok {g : Ghost} (xa : Int × Int × Int × Bs × Int × Int × Bs) (K : Bool → Prop)
  (hF : lq1F xa K) : CallsH Try.prog 21 #[.agg #[.int .i64 xa.1, .int .i64 xa.2.1, .int .i64 xa.2.2.1, sv xa.2.2.2.1, .int .i64 xa.2.2.2.2.1, .int .i64 xa.2.2.2.2.2.1, sv xa.2.2.2.2.2.2]] g [] (fun g' H' v => ∃ (r0 : Bool), v = .bool r0 ∧ H' = [] ∧ K r0) := by
 refine CallsH.enter 7 [(0, .agg #[.int .i64 xa.1, .int .i64 xa.2.1, .int .i64 xa.2.2.1, sv xa.2.2.2.1, .int .i64 xa.2.2.2.2.1, .int .i64 xa.2.2.2.2.2.1, sv xa.2.2.2.2.2.2])] Try.func21 rfl (by kernel_rfl) (by kernel_rfl) (by kernel_rfl) fun w0 => ?_
 refine Ok.seq (Ok.region (Ok.op rfl (OpOk.box (v := .agg #[.int .i64 xa.1, .int .i64 xa.2.1, .int .i64 xa.2.2.1, sv xa.2.2.2.1, .int .i64 xa.2.2.2.2.1, .int .i64 xa.2.2.2.2.2.1, sv xa.2.2.2.2.2.2]) (cs := #[.int .i64 xa.1, .int .i64 xa.2.1, .int .i64 xa.2.2.1, sv xa.2.2.2.1, .int .i64 xa.2.2.2.2.1, .int .i64 xa.2.2.2.2.2.1, sv xa.2.2.2.2.2.2]) rfl (by kernel_rfl) rfl fun bs1 => ?_)))
 refine Ok.batch 1 [(1, pv bs1 0)] (by kernel_rfl) (Ok.nil (Ok.thenN (Ok.seq (Ok.region (Ok.batch 1 [(3, pv bs1 0)] (by kernel_rfl) (Ok.op rfl (OpOk.step (v := .int .i64 xa.1) (Yields.load 0 rfl rfl Try.underlying3 rfl (by kernel_rfl)) rfl rfl (Ok.op rfl (OpOk.callG (v := .bool (rbtM xa.1 1 6)) enr (fun W hW => rbt_c xa.1 1 6) rfl ?_)))))))))
 refine Ok.batch 2 [(2, .bool (!(rbtM xa.1 1 6)))] (by kernel_rfl) (Ok.nil (Ok.thenN (Ok.ret ?_)))
 exact Ok.resP (vs := [.bool (!(rbtM xa.1 1 6))]) [] [] (by decide) rfl (.inl rfl) rfl (.cons (.tmp rfl) .nil) (Gext.refl w0 g) ⟨(!(rbtM xa.1 1 6)), rfl, rfl, hF⟩
def lq1M (xa : Int × Int × Int × Bs × Int × Int × Bs) : Bool := (!(rbtM xa.1 1 6))
theorem lq1F_A (xa : Int × Int × Int × Bs × Int × Int × Bs) (P : Bool → Prop) (h : P (lq1M xa)) : lq1F xa (fun k0 => P k0) := by
 unfold lq1M at h
 unfold lq1F
 exact h
theorem lq1_F (xa : Int × Int × Int × Bs × Int × Int × Bs) : lq1F xa (fun k0 => k0 = lq1M xa) :=
 lq1F_A xa (fun z => z = lq1M xa) rfl
theorem lq1_c {g : Ghost} (xa : Int × Int × Int × Bs × Int × Int × Bs)  : CallsG Try.prog 21 #[.agg #[.int .i64 xa.1, .int .i64 xa.2.1, .int .i64 xa.2.2.1, sv xa.2.2.2.1, .int .i64 xa.2.2.2.2.1, .int .i64 xa.2.2.2.2.2.1, sv xa.2.2.2.2.2.2]] g (.bool (lq1M xa)) :=
 (lq1_ok xa _ (lq1_F xa)).gives (by rintro g' H' v _ ⟨r0, rfl, rfl, hK⟩; subst hK; rfl)
def llpV0 (xasks : List (Int × Int × Int × Bs × Int × Int × Bs)) : Int :=
 (if (decide ((xasks.length : Int) > 200)) = true then 2 else (if (kcoS xasks (fun y0 => lq1M y0)) = true then 3 else 0))
def llpV1 (xasks : List (Int × Int × Int × Bs × Int × Int × Bs)) : Bool :=
 (((((lplS xasks).1).length : Int) == 0) && ((rslV0 ((lplS xasks).2.1.1, (lplS xasks).2.1.2.1, (lplS xasks).2.1.2.2.1, (lplS xasks).2.1.2.2.2.1, (lplS xasks).2.1.2.2.2.2) (0, 0, [], [], [])) && ((lplS xasks).2.2 == (llpV0 xasks))))
def llpV2 (xasks : List (Int × Int × Int × Bs × Int × Int × Bs)) : Bool :=
 ((jeqS (lplS xasks).1 (plyS xasks).1) && ((rslV0 ((lplS xasks).2.1.1, (lplS xasks).2.1.2.1, (lplS xasks).2.1.2.2.1, (lplS xasks).2.1.2.2.2.1, (lplS xasks).2.1.2.2.2.2) ((plyS xasks).2.1, (plyS xasks).2.2.1, (plyS xasks).2.2.2.1, (plyS xasks).2.2.2.2.1, (plyS xasks).2.2.2.2.2)) && ((lplS xasks).2.2 == 0)))
def llpj21 (xasks : List (Int × Int × Int × Bs × Int × Int × Bs)) (K : Bool → Prop) : Prop :=
 K (llpV1 xasks)
def llpj27 (xasks : List (Int × Int × Int × Bs × Int × Int × Bs)) (K : Bool → Prop) : Prop :=
 K (llpV2 xasks)
def llpj7 (xasks : List (Int × Int × Int × Bs × Int × Int × Bs)) (K : Bool → Prop) : Prop :=
 ((((llpV0 xasks) != 0)) = true → ((((((lplS xasks).1).length : Int) == 0)) = true → rslP ((lplS xasks).2.1.1, (lplS xasks).2.1.2.1, (lplS xasks).2.1.2.2.1, (lplS xasks).2.1.2.2.2.1, (lplS xasks).2.1.2.2.2.2) (0, 0, [], [], []) ∧ llpj21 xasks K) ∧ ((((((lplS xasks).1).length : Int) == 0)) = false → llpj21 xasks K)) ∧ ((((llpV0 xasks) != 0)) = false → rlpQ xasks ∧ jeqP (lplS xasks).1 (plyS xasks).1 ∧ (((jeqS (lplS xasks).1 (plyS xasks).1)) = true → rslP ((lplS xasks).2.1.1, (lplS xasks).2.1.2.1, (lplS xasks).2.1.2.2.1, (lplS xasks).2.1.2.2.2.1, (lplS xasks).2.1.2.2.2.2) ((plyS xasks).2.1, (plyS xasks).2.2.1, (plyS xasks).2.2.2.1, (plyS xasks).2.2.2.2.1, (plyS xasks).2.2.2.2.2) ∧ llpj27 xasks K) ∧ (((jeqS (lplS xasks).1 (plyS xasks).1)) = false → llpj27 xasks K))
def llpF (xasks : List (Int × Int × Int × Bs × Int × Int × Bs)) (K : Bool → Prop) : Prop :=
 lplP xasks ∧ ((decide ((xasks.length : Int) > 200)) = true → llpj7 xasks K) ∧ ((decide ((xasks.length : Int) > 200)) = false → kcoP xasks (fun y0 => lq1M y0) (fun _ => True) ∧ (((kcoS xasks (fun y0 => lq1M y0))) = true → llpj7 xasks K) ∧ (((kcoS xasks (fun y0 => lq1M y0))) = false → llpj7 xasks K))
theorem llp_ok {g : Ghost} {axasks_0 : Option Addr} {cxasks_0 : Nat} (xasks : List (Int × Int × Int × Bs × Int × Int × Bs)) (hRxasks_0 : Rep g (.slice (.pair (.int .i64) (.pair (.int .i64) (.pair (.int .i64) (.pair (.str) (.pair (.int .i64) (.pair (.int .i64) (.str)))))))) [.slice axasks_0 xasks.length cxasks_0] xasks) (K : Bool → Prop)
  (hF : llpF xasks K) : CallsH Try.prog 5 #[.slice axasks_0 xasks.length cxasks_0] g [] (fun g' H' v => ∃ (r0 : Bool), v = .bool r0 ∧ H' = [] ∧ K r0) := by
 refine CallsH.enter 52 [(0, .slice axasks_0 xasks.length cxasks_0)] Try.func5 rfl (by kernel_rfl) (by kernel_rfl) (by kernel_rfl) fun w0 => ?_
 refine Ok.seq (Ok.region (Ok.batch 1 [(0, .slice axasks_0 xasks.length cxasks_0)] (by kernel_rfl) (Ok.nil (Ok.thenN (Ok.seq (Ok.region (Ok.bat 1 [0] [(10, .slice axasks_0 xasks.length cxasks_0)] ?_)))))))
 obtain ⟨hp1, hF⟩ := hF
 refine Ok.op rfl (OpOk.callH [] _ enr rfl (lpl_c xasks hRxasks_0 hp1) rfl fun g2 _ _ hx2 hV2 => ?_)
 obtain ⟨a2_0, c2_0, a2_2, c2_2, a2_4, c2_4, a2_6, c2_6, rfl, hR2_0, hR2_2, hR2_4, hR2_6, rfl⟩ := hV2
 replace hRxasks_0 := hRxasks_0.mono hx2.1
 refine Ok.bat 4 [0] [(12, .slice a2_0 ((lplS xasks).1).length c2_0), (13, .agg #[.int .i64 (lplS xasks).2.1.1, .int .i64 (lplS xasks).2.1.2.1, .slice a2_2 ((lplS xasks).2.1.2.2.1).length c2_2, .slice a2_4 ((lplS xasks).2.1.2.2.2.1).length c2_4, .slice a2_6 ((lplS xasks).2.1.2.2.2.2).length c2_6]), (14, .int .i64 (lplS xasks).2.2)] ?_
 refine Ok.op rfl (OpOk.alloc (z := .agg #[.int .i64 0, .int .i64 0, .slice none 0 0, .slice none 0 0, .slice none 0 0]) (cs := #[.int .i64 0, .int .i64 0, .slice none 0 0, .slice none 0 0, .slice none 0 0]) (by kernel_rfl) (by kernel_rfl) rfl fun bs4 => ?_)
 refine Ok.bat 1 [0, 13, 14] [(3, .slice a2_0 ((lplS xasks).1).length c2_0), (4, pv bs4 0)] ?_
 refine Ok.op rfl (OpOk.sto (k := 5) (v := .agg #[.int .i64 (lplS xasks).2.1.1, .int .i64 (lplS xasks).2.1.2.1, .slice a2_2 ((lplS xasks).2.1.2.2.1).length c2_2, .slice a2_4 ((lplS xasks).2.1.2.2.2.1).length c2_4, .slice a2_6 ((lplS xasks).2.1.2.2.2.2).length c2_6]) 0 #[.int .i64 (lplS xasks).2.1.1, .int .i64 (lplS xasks).2.1.2.1, .slice a2_2 ((lplS xasks).2.1.2.2.1).length c2_2, .slice a2_4 ((lplS xasks).2.1.2.2.2.1).length c2_4, .slice a2_6 ((lplS xasks).2.1.2.2.2.2).length c2_6] rfl rfl rfl ?_)
 refine Ok.bat 1 [0, 3, 4] [(5, .int .i64 (lplS xasks).2.2)] ?_
 refine Ok.nil (Ok.thenN (Ok.seq (Ok.region (Ok.bat 1 [0, 3, 4, 5] [(6, .int .i64 0)] ?_))))
 refine Ok.nil (Ok.thenN (Ok.cut (fun a W => ∃ gj7 : Ghost, Gext w0 g2 gj7 ∧ StA 52 [(0, .slice axasks_0 xasks.length cxasks_0), (3, .slice a2_0 ((lplS xasks).1).length c2_0), (4, pv bs4 0), (5, .int .i64 (lplS xasks).2.2), (6, .int .i64 (llpV0 xasks))] a ∧ StW w0 [.blk bs4 (.cells #[.int .i64 (lplS xasks).2.1.1, .int .i64 (lplS xasks).2.1.2.1, .slice a2_2 ((lplS xasks).2.1.2.2.1).length c2_2, .slice a2_4 ((lplS xasks).2.1.2.2.2.1).length c2_4, .slice a2_6 ((lplS xasks).2.1.2.2.2.2).length c2_6] 37)] gj7 W ∧ llpj7 xasks K) ?_ ?_))
 ·
  refine Ok.seq (Ok.region (Ok.bat 3 [0, 3, 4, 5, 6] [(17, .bool (decide ((xasks.length : Int) > 200)))] ?_))
  refine Ok.nil (Ok.thenN (Ok.cond (b := decide ((xasks.length : Int) > 200)) rfl (fun hc17 => ?_) (fun hc17 => ?_)))
  ·replace hF := hF.1 hc17
   refine Ok.region (Ok.bat 1 [0, 3, 4, 5] [(6, .int .i64 2)] ?_)
   refine Ok.nil (Ok.thenN (Ok.reval 6 rfl (show (.int .i64 2 : Value) = .int .i64 (llpV0 xasks) from congrArg (Value.int .i64) ((if_t hc17).symm)) ?_))
   exact fun a W hA hW => ⟨g2, (Gext.refl w0 g2), hA.sub (by kernel_rfl), hW, hF⟩
  ·replace hF := hF.2 hc17
   refine Ok.seq (Ok.region (Ok.bat 1 [0, 3, 4, 5, 6] [(18, .slice axasks_0 xasks.length cxasks_0)] ?_))
   obtain ⟨hp18, hF⟩ := hF
   refine Ok.op rfl (OpOk.callG (v := .bool (kcoS xasks (fun y0 => lq1M y0))) enr (fun W hW => kco_c (vxf := .func (.func 21) #[] #[]) xasks (fun y0 => lq1M y0) (fun _ => True) (hRxasks_0.mono hW.sees) (fun y0 hq => ⟨21, _, fun _ => by kernel_rfl, lq1_c y0⟩) hp18) rfl ?_)
   refine Ok.nil (Ok.thenN (Ok.cond (b := (kcoS xasks (fun y0 => lq1M y0))) rfl (fun hc19 => ?_) (fun hc19 => ?_)))
   ·replace hF := hF.1 hc19
    refine Ok.region (Ok.bat 1 [0, 3, 4, 5] [(6, .int .i64 3)] ?_)
    refine Ok.nil (Ok.thenN (Ok.reval 6 rfl (show (.int .i64 3 : Value) = .int .i64 (llpV0 xasks) from congrArg (Value.int .i64) ((Eq.trans ((if_t hc19).symm) ((if_f hc17).symm)))) ?_))
    exact fun a W hA hW => ⟨g2, (Gext.refl w0 g2), hA.sub (by kernel_rfl), hW, hF⟩
   ·replace hF := hF.2 hc19
    refine Ok.skip (Ok.thenN (Ok.reval 6 rfl (show (.int .i64 0 : Value) = .int .i64 (llpV0 xasks) from congrArg (Value.int .i64) ((Eq.trans ((if_f hc19).symm) ((if_f hc17).symm)))) ?_))
    exact fun a W hA hW => ⟨g2, (Gext.refl w0 g2), hA.sub (by kernel_rfl), hW, hF⟩
 ·
  clear hF
  rintro a W ⟨gj7, hxj7, hA, hW, hF⟩
  refine (?_ : Ok _ _ _ _ _ _) a W hA hW
  clear hA hW
  replace hRxasks_0 := hRxasks_0.mono hxj7.1
  replace hR2_0 := hR2_0.mono hxj7.1
  replace hR2_2 := hR2_2.mono hxj7.1
  replace hR2_4 := hR2_4.mono hxj7.1
  replace hR2_6 := hR2_6.mono hxj7.1
  refine Ok.seq (Ok.seq (Ok.region (Ok.bat 2 [0, 3, 4, 5, 6] [(21, .bool ((llpV0 xasks) != 0))] ?_)))
  refine Ok.nil (Ok.thenN (Ok.cond (b := ((llpV0 xasks) != 0)) rfl (fun hc4 => ?_) (fun hc4 => ?_)))
  ·replace hF := hF.1 hc4
   refine Ok.cut (fun a W => ∃ gj21 : Ghost, Gext w0 gj7 gj21 ∧ StA 52 [(2, .bool (llpV1 xasks))] a ∧ StW w0 [] gj21 W ∧ llpj21 xasks K) ?_ ?_
   ·
    refine Ok.region (Ok.bat 4 [4, 5, 6] [(25, .bool ((((lplS xasks).1).length : Int) == 0))] ?_)
    refine Ok.boolAt 25 (((((lplS xasks).1).length : Int) == 0)) rfl (fun hc5 => ?_) (fun hc5 => ?_)
    ·replace hF := hF.1 hc5
     refine Ok.opYes (j := 3) (d := 25) (want := true) (b := true) rfl (by kernel_rfl) (by kernel_rfl) rfl (OpOk.step (v := .agg #[.int .i64 (lplS xasks).2.1.1, .int .i64 (lplS xasks).2.1.2.1, .slice a2_2 ((lplS xasks).2.1.2.2.1).length c2_2, .slice a2_4 ((lplS xasks).2.1.2.2.2.1).length c2_4, .slice a2_6 ((lplS xasks).2.1.2.2.2.2).length c2_6]) (Yields.loadAgg 0 5 #[.int .i64 (lplS xasks).2.1.1, .int .i64 (lplS xasks).2.1.2.1, .slice a2_2 ((lplS xasks).2.1.2.2.1).length c2_2, .slice a2_4 ((lplS xasks).2.1.2.2.2.1).length c2_4, .slice a2_6 ((lplS xasks).2.1.2.2.2.2).length c2_6] rfl rfl Try.underlying37 rfl (by kernel_rfl) (by kernel_rfl) (by kernel_rfl)) rfl rfl (Ok.bat 1 [5, 6] [(25, .bool true), (26, .agg #[.int .i64 (lplS xasks).2.1.1, .int .i64 (lplS xasks).2.1.2.1, .slice a2_2 ((lplS xasks).2.1.2.2.1).length c2_2, .slice a2_4 ((lplS xasks).2.1.2.2.2.1).length c2_4, .slice a2_6 ((lplS xasks).2.1.2.2.2.2).length c2_6]), (27, .agg #[.int .i64 0, .int .i64 0, .slice none 0 0, .slice none 0 0, .slice none 0 0])] ?_))
     obtain ⟨hp6, hF⟩ := hF
     refine Ok.opYes (j := 3) (d := 25) (want := true) (b := true) rfl (by kernel_rfl) (by kernel_rfl) rfl (OpOk.callG (v := .bool (rslV0 ((lplS xasks).2.1.1, (lplS xasks).2.1.2.1, (lplS xasks).2.1.2.2.1, (lplS xasks).2.1.2.2.2.1, (lplS xasks).2.1.2.2.2.2) (0, 0, [], [], []))) enr (fun W hW => rsl_c ((lplS xasks).2.1.1, (lplS xasks).2.1.2.1, (lplS xasks).2.1.2.2.1, (lplS xasks).2.1.2.2.2.1, (lplS xasks).2.1.2.2.2.2) (0, 0, [], [], []) (hR2_2.mono hW.sees) (hR2_4.mono hW.sees) (hR2_6.mono hW.sees) Rep.nil Rep.nil Rep.nil hp6) rfl ?_)
     refine Ok.bat 2 [5, 6] [(30, .bool (rslV0 ((lplS xasks).2.1.1, (lplS xasks).2.1.2.1, (lplS xasks).2.1.2.2.1, (lplS xasks).2.1.2.2.2.1, (lplS xasks).2.1.2.2.2.2) (0, 0, [], [], [])))] ?_
     refine Ok.midway 4 [(34, .bool ((rslV0 ((lplS xasks).2.1.1, (lplS xasks).2.1.2.1, (lplS xasks).2.1.2.2.1, (lplS xasks).2.1.2.2.2.1, (lplS xasks).2.1.2.2.2.2) (0, 0, [], [], [])) && ((lplS xasks).2.2 == (llpV0 xasks))))] (fun hR7 => ?_) ?_
     ·refine Ok.boolAt 30 ((rslV0 ((lplS xasks).2.1.1, (lplS xasks).2.1.2.1, (lplS xasks).2.1.2.2.1, (lplS xasks).2.1.2.2.2.1, (lplS xasks).2.1.2.2.2.2) (0, 0, [], [], []))) rfl (fun hc8 => ?_) (fun hc8 => ?_)
      ·skip
       refine Ok.batch 4 [(34, .bool ((lplS xasks).2.2 == (llpV0 xasks)))] (by kernel_rfl) (Ok.reval 34 rfl (show (.bool ((lplS xasks).2.2 == (llpV0 xasks)) : Value) = .bool ((rslV0 ((lplS xasks).2.1.1, (lplS xasks).2.1.2.1, (lplS xasks).2.1.2.2.1, (lplS xasks).2.1.2.2.2.1, (lplS xasks).2.1.2.2.2.2) (0, 0, [], [], [])) && ((lplS xasks).2.2 == (llpV0 xasks))) from congrArg Value.bool (mand_t hc8)) (Ok.batch 0 [(34, .bool ((rslV0 ((lplS xasks).2.1.1, (lplS xasks).2.1.2.1, (lplS xasks).2.1.2.2.1, (lplS xasks).2.1.2.2.2.1, (lplS xasks).2.1.2.2.2.2) (0, 0, [], [], [])) && ((lplS xasks).2.2 == (llpV0 xasks))))] (by kernel_rfl) ?_))
       exact hR7
      ·skip
       refine Ok.batch 4 [(34, .bool false)] (by kernel_rfl) (Ok.reval 34 rfl (show (.bool false : Value) = .bool ((rslV0 ((lplS xasks).2.1.1, (lplS xasks).2.1.2.1, (lplS xasks).2.1.2.2.1, (lplS xasks).2.1.2.2.2.1, (lplS xasks).2.1.2.2.2.2) (0, 0, [], [], [])) && ((lplS xasks).2.2 == (llpV0 xasks))) from congrArg Value.bool (mand_f hc8)) (Ok.batch 0 [(34, .bool ((rslV0 ((lplS xasks).2.1.1, (lplS xasks).2.1.2.1, (lplS xasks).2.1.2.2.1, (lplS xasks).2.1.2.2.2.1, (lplS xasks).2.1.2.2.2.2) (0, 0, [], [], [])) && ((lplS xasks).2.2 == (llpV0 xasks))))] (by kernel_rfl) ?_))
       exact hR7
     refine Ok.batch 1 [(2, .bool ((rslV0 ((lplS xasks).2.1.1, (lplS xasks).2.1.2.1, (lplS xasks).2.1.2.2.1, (lplS xasks).2.1.2.2.2.1, (lplS xasks).2.1.2.2.2.2) (0, 0, [], [], [])) && ((lplS xasks).2.2 == (llpV0 xasks))))] (by kernel_rfl) (Ok.nil (Ok.thenN (Ok.reval 2 rfl (show (.bool ((rslV0 ((lplS xasks).2.1.1, (lplS xasks).2.1.2.1, (lplS xasks).2.1.2.2.1, (lplS xasks).2.1.2.2.2.1, (lplS xasks).2.1.2.2.2.2) (0, 0, [], [], [])) && ((lplS xasks).2.2 == (llpV0 xasks))) : Value) = .bool (llpV1 xasks) from congrArg (Value.bool) (mand_t hc5)) ?_)))
     exact fun a W hA hW => ⟨gj7, (Gext.refl w0 gj7), hA.sub (by kernel_rfl), hW.sub (.cons _ .slnil), hF⟩
    ·replace hF := hF.2 hc5
     refine Ok.batch 10 [(2, .bool false)] (by kernel_rfl) (Ok.nil (Ok.thenN (Ok.reval 2 rfl (show (.bool false : Value) = .bool (llpV1 xasks) from congrArg (Value.bool) (mand_f hc5)) ?_)))
     exact fun a W hA hW => ⟨gj7, (Gext.refl w0 gj7), hA.sub (by kernel_rfl), hW.sub (.cons _ .slnil), hF⟩
   ·
    clear hF
    rintro a W ⟨gj21, hxj21, hA, hW, hF⟩
    refine (?_ : Ok _ _ _ _ _ _) a W hA hW
    clear hA hW
    refine Ok.ret (Ok.thenR ?_)
    exact Ok.resH (vs := [.bool (llpV1 xasks)]) (.inl rfl) rfl (.cons (.tmp rfl) .nil) ((hx2.trans hxj7).trans hxj21) ⟨(llpV1 xasks), rfl, rfl, hF⟩
  ·replace hF := hF.2 hc4
   refine Ok.skip (Ok.thenN (Ok.seq (Ok.region (Ok.bat 1 [3, 4, 5] [(36, .slice axasks_0 xasks.length cxasks_0)] ?_))))
   obtain ⟨hp9, hF⟩ := hF
   refine Ok.op rfl (OpOk.callH [] _ enr rfl (rlp_c xasks hRxasks_0 hp9) rfl fun g10 _ _ hx10 hV10 => ?_)
   obtain ⟨a10_0, c10_0, a10_2, c10_2, a10_4, c10_4, a10_6, c10_6, rfl, hR10_0, hR10_2, hR10_4, hR10_6, rfl⟩ := hV10
   replace hR2_0 := hR2_0.mono hx10.1
   replace hRxasks_0 := hRxasks_0.mono hx10.1
   replace hR2_2 := hR2_2.mono hx10.1
   replace hR2_4 := hR2_4.mono hx10.1
   replace hR2_6 := hR2_6.mono hx10.1
   refine Ok.bat 3 [3, 4, 5] [(38, .slice a10_0 ((plyS xasks).1).length c10_0), (39, .agg #[.int .i64 (plyS xasks).2.1, .int .i64 (plyS xasks).2.2.1, .slice a10_2 ((plyS xasks).2.2.2.1).length c10_2, .slice a10_4 ((plyS xasks).2.2.2.2.1).length c10_4, .slice a10_6 ((plyS xasks).2.2.2.2.2).length c10_6])] ?_
   refine Ok.op rfl (OpOk.alloc (z := .agg #[.int .i64 0, .int .i64 0, .slice none 0 0, .slice none 0 0, .slice none 0 0]) (cs := #[.int .i64 0, .int .i64 0, .slice none 0 0, .slice none 0 0, .slice none 0 0]) (by kernel_rfl) (by kernel_rfl) rfl fun bs8 => ?_)
   refine Ok.bat 1 [3, 4, 5, 39] [(7, .slice a10_0 ((plyS xasks).1).length c10_0), (8, pv bs8 0)] ?_
   refine Ok.op rfl (OpOk.sto (k := 5) (v := .agg #[.int .i64 (plyS xasks).2.1, .int .i64 (plyS xasks).2.2.1, .slice a10_2 ((plyS xasks).2.2.2.1).length c10_2, .slice a10_4 ((plyS xasks).2.2.2.2.1).length c10_4, .slice a10_6 ((plyS xasks).2.2.2.2.2).length c10_6]) 0 #[.int .i64 (plyS xasks).2.1, .int .i64 (plyS xasks).2.2.1, .slice a10_2 ((plyS xasks).2.2.2.1).length c10_2, .slice a10_4 ((plyS xasks).2.2.2.2.1).length c10_4, .slice a10_6 ((plyS xasks).2.2.2.2.2).length c10_6] rfl rfl rfl ?_)
   refine Ok.nil (Ok.thenN (Ok.cut (fun a W => ∃ gj27 : Ghost, Gext w0 g10 gj27 ∧ StA 52 [(2, .bool (llpV2 xasks))] a ∧ StW w0 [] gj27 W ∧ llpj27 xasks K) ?_ ?_))
   ·
    refine Ok.region (Ok.bat 2 [4, 5, 8] [(40, .slice a2_0 ((lplS xasks).1).length c2_0), (41, .slice a10_0 ((plyS xasks).1).length c10_0)] ?_)
    obtain ⟨hp12, hF⟩ := hF
    refine Ok.op rfl (OpOk.callG (v := .bool (jeqS (lplS xasks).1 (plyS xasks).1)) enr (fun W hW => jeq_c (lplS xasks).1 (plyS xasks).1 (hR2_0.mono hW.sees) (hR10_0.mono hW.sees) hp12) rfl ?_)
    refine Ok.bat 1 [4, 5, 8] [(43, .bool (jeqS (lplS xasks).1 (plyS xasks).1))] ?_
    refine Ok.boolAt 43 ((jeqS (lplS xasks).1 (plyS xasks).1)) rfl (fun hc13 => ?_) (fun hc13 => ?_)
    ·replace hF := hF.1 hc13
     refine Ok.opYes (j := 3) (d := 43) (want := true) (b := true) rfl (by kernel_rfl) (by kernel_rfl) rfl (OpOk.step (v := .agg #[.int .i64 (lplS xasks).2.1.1, .int .i64 (lplS xasks).2.1.2.1, .slice a2_2 ((lplS xasks).2.1.2.2.1).length c2_2, .slice a2_4 ((lplS xasks).2.1.2.2.2.1).length c2_4, .slice a2_6 ((lplS xasks).2.1.2.2.2.2).length c2_6]) (Yields.loadAgg 1 5 #[.int .i64 (lplS xasks).2.1.1, .int .i64 (lplS xasks).2.1.2.1, .slice a2_2 ((lplS xasks).2.1.2.2.1).length c2_2, .slice a2_4 ((lplS xasks).2.1.2.2.2.1).length c2_4, .slice a2_6 ((lplS xasks).2.1.2.2.2.2).length c2_6] rfl rfl Try.underlying37 rfl (by kernel_rfl) (by kernel_rfl) (by kernel_rfl)) rfl rfl (Ok.opYes (j := 3) (d := 43) (want := true) (b := true) rfl (by kernel_rfl) (by kernel_rfl) rfl (OpOk.step (v := .agg #[.int .i64 (plyS xasks).2.1, .int .i64 (plyS xasks).2.2.1, .slice a10_2 ((plyS xasks).2.2.2.1).length c10_2, .slice a10_4 ((plyS xasks).2.2.2.2.1).length c10_4, .slice a10_6 ((plyS xasks).2.2.2.2.2).length c10_6]) (Yields.loadAgg 0 5 #[.int .i64 (plyS xasks).2.1, .int .i64 (plyS xasks).2.2.1, .slice a10_2 ((plyS xasks).2.2.2.1).length c10_2, .slice a10_4 ((plyS xasks).2.2.2.2.1).length c10_4, .slice a10_6 ((plyS xasks).2.2.2.2.2).length c10_6] rfl rfl Try.underlying37 rfl (by kernel_rfl) (by kernel_rfl) (by kernel_rfl)) rfl rfl ?_)))
     obtain ⟨hp14, hF⟩ := hF
     refine Ok.opYes (j := 3) (d := 43) (want := true) (b := true) rfl (by kernel_rfl) (by kernel_rfl) rfl (OpOk.callG (v := .bool (rslV0 ((lplS xasks).2.1.1, (lplS xasks).2.1.2.1, (lplS xasks).2.1.2.2.1, (lplS xasks).2.1.2.2.2.1, (lplS xasks).2.1.2.2.2.2) ((plyS xasks).2.1, (plyS xasks).2.2.1, (plyS xasks).2.2.2.1, (plyS xasks).2.2.2.2.1, (plyS xasks).2.2.2.2.2))) enr (fun W hW => rsl_c ((lplS xasks).2.1.1, (lplS xasks).2.1.2.1, (lplS xasks).2.1.2.2.1, (lplS xasks).2.1.2.2.2.1, (lplS xasks).2.1.2.2.2.2) ((plyS xasks).2.1, (plyS xasks).2.2.1, (plyS xasks).2.2.2.1, (plyS xasks).2.2.2.2.1, (plyS xasks).2.2.2.2.2) (hR2_2.mono hW.sees) (hR2_4.mono hW.sees) (hR2_6.mono hW.sees) (hR10_2.mono hW.sees) (hR10_4.mono hW.sees) (hR10_6.mono hW.sees) hp14) rfl ?_)
     refine Ok.bat 2 [5] [(48, .bool (rslV0 ((lplS xasks).2.1.1, (lplS xasks).2.1.2.1, (lplS xasks).2.1.2.2.1, (lplS xasks).2.1.2.2.2.1, (lplS xasks).2.1.2.2.2.2) ((plyS xasks).2.1, (plyS xasks).2.2.1, (plyS xasks).2.2.2.1, (plyS xasks).2.2.2.2.1, (plyS xasks).2.2.2.2.2)))] ?_
     refine Ok.midway 3 [(51, .bool ((rslV0 ((lplS xasks).2.1.1, (lplS xasks).2.1.2.1, (lplS xasks).2.1.2.2.1, (lplS xasks).2.1.2.2.2.1, (lplS xasks).2.1.2.2.2.2) ((plyS xasks).2.1, (plyS xasks).2.2.1, (plyS xasks).2.2.2.1, (plyS xasks).2.2.2.2.1, (plyS xasks).2.2.2.2.2)) && ((lplS xasks).2.2 == 0)))] (fun hR15 => ?_) ?_
     ·refine Ok.boolAt 48 ((rslV0 ((lplS xasks).2.1.1, (lplS xasks).2.1.2.1, (lplS xasks).2.1.2.2.1, (lplS xasks).2.1.2.2.2.1, (lplS xasks).2.1.2.2.2.2) ((plyS xasks).2.1, (plyS xasks).2.2.1, (plyS xasks).2.2.2.1, (plyS xasks).2.2.2.2.1, (plyS xasks).2.2.2.2.2))) rfl (fun hc16 => ?_) (fun hc16 => ?_)
      ·skip
       refine Ok.batch 3 [(51, .bool ((lplS xasks).2.2 == 0))] (by kernel_rfl) (Ok.reval 51 rfl (show (.bool ((lplS xasks).2.2 == 0) : Value) = .bool ((rslV0 ((lplS xasks).2.1.1, (lplS xasks).2.1.2.1, (lplS xasks).2.1.2.2.1, (lplS xasks).2.1.2.2.2.1, (lplS xasks).2.1.2.2.2.2) ((plyS xasks).2.1, (plyS xasks).2.2.1, (plyS xasks).2.2.2.1, (plyS xasks).2.2.2.2.1, (plyS xasks).2.2.2.2.2)) && ((lplS xasks).2.2 == 0)) from congrArg Value.bool (mand_t hc16)) (Ok.batch 0 [(51, .bool ((rslV0 ((lplS xasks).2.1.1, (lplS xasks).2.1.2.1, (lplS xasks).2.1.2.2.1, (lplS xasks).2.1.2.2.2.1, (lplS xasks).2.1.2.2.2.2) ((plyS xasks).2.1, (plyS xasks).2.2.1, (plyS xasks).2.2.2.1, (plyS xasks).2.2.2.2.1, (plyS xasks).2.2.2.2.2)) && ((lplS xasks).2.2 == 0)))] (by kernel_rfl) ?_))
       exact hR15
      ·skip
       refine Ok.batch 3 [(51, .bool false)] (by kernel_rfl) (Ok.reval 51 rfl (show (.bool false : Value) = .bool ((rslV0 ((lplS xasks).2.1.1, (lplS xasks).2.1.2.1, (lplS xasks).2.1.2.2.1, (lplS xasks).2.1.2.2.2.1, (lplS xasks).2.1.2.2.2.2) ((plyS xasks).2.1, (plyS xasks).2.2.1, (plyS xasks).2.2.2.1, (plyS xasks).2.2.2.2.1, (plyS xasks).2.2.2.2.2)) && ((lplS xasks).2.2 == 0)) from congrArg Value.bool (mand_f hc16)) (Ok.batch 0 [(51, .bool ((rslV0 ((lplS xasks).2.1.1, (lplS xasks).2.1.2.1, (lplS xasks).2.1.2.2.1, (lplS xasks).2.1.2.2.2.1, (lplS xasks).2.1.2.2.2.2) ((plyS xasks).2.1, (plyS xasks).2.2.1, (plyS xasks).2.2.2.1, (plyS xasks).2.2.2.2.1, (plyS xasks).2.2.2.2.2)) && ((lplS xasks).2.2 == 0)))] (by kernel_rfl) ?_))
       exact hR15
     refine Ok.batch 1 [(2, .bool ((rslV0 ((lplS xasks).2.1.1, (lplS xasks).2.1.2.1, (lplS xasks).2.1.2.2.1, (lplS xasks).2.1.2.2.2.1, (lplS xasks).2.1.2.2.2.2) ((plyS xasks).2.1, (plyS xasks).2.2.1, (plyS xasks).2.2.2.1, (plyS xasks).2.2.2.2.1, (plyS xasks).2.2.2.2.2)) && ((lplS xasks).2.2 == 0)))] (by kernel_rfl) (Ok.nil (Ok.thenN (Ok.reval 2 rfl (show (.bool ((rslV0 ((lplS xasks).2.1.1, (lplS xasks).2.1.2.1, (lplS xasks).2.1.2.2.1, (lplS xasks).2.1.2.2.2.1, (lplS xasks).2.1.2.2.2.2) ((plyS xasks).2.1, (plyS xasks).2.2.1, (plyS xasks).2.2.2.1, (plyS xasks).2.2.2.2.1, (plyS xasks).2.2.2.2.2)) && ((lplS xasks).2.2 == 0)) : Value) = .bool (llpV2 xasks) from congrArg (Value.bool) (mand_t hc13)) ?_)))
     exact fun a W hA hW => ⟨g10, (Gext.refl w0 g10), hA.sub (by kernel_rfl), hW.sub (.cons _ (.cons _ .slnil)), hF⟩
    ·replace hF := hF.2 hc13
     refine Ok.batch 9 [(2, .bool false)] (by kernel_rfl) (Ok.nil (Ok.thenN (Ok.reval 2 rfl (show (.bool false : Value) = .bool (llpV2 xasks) from congrArg (Value.bool) (mand_f hc13)) ?_)))
     exact fun a W hA hW => ⟨g10, (Gext.refl w0 g10), hA.sub (by kernel_rfl), hW.sub (.cons _ (.cons _ .slnil)), hF⟩
   ·
    clear hF
    rintro a W ⟨gj27, hxj27, hA, hW, hF⟩
    refine (?_ : Ok _ _ _ _ _ _) a W hA hW
    clear hA hW
    refine Ok.ret ?_
    exact Ok.resH (vs := [.bool (llpV2 xasks)]) (.inl rfl) rfl (.cons (.tmp rfl) .nil) (((hx2.trans hxj7).trans hx10).trans hxj27) ⟨(llpV2 xasks), rfl, rfl, hF⟩
theorem sam_zero (a : JL) (h : a = zeroL) : rslV0 (a.1, a.2.1, a.2.2.1, a.2.2.2.1, a.2.2.2.2) (0, 0, [], [], []) = true := by
 rw [h]; exact sam_eta zeroL
theorem len_zero : lenOk zeroL := ⟨Nat.zero_le _, Nat.zero_le _, Nat.zero_le _⟩
theorem len_ok {q : JL} (hz : lchS q = 0) : lenOk q := by
 obtain ⟨hb, -⟩ := lch_zero hz
 unfold big at hb; unfold lenOk; omega
def llpP (l : List JK) : Prop := DomS (.slice (.pair (.int .i64) (.pair (.int .i64) (.pair (.int .i64) (.pair (.str) (.pair (.int .i64) (.pair (.int .i64) (.str)))))))) l
theorem llp_F (l : List JK) (hp0 : llpP l) : llpF l (fun r => r = true) := by
 have hP : lplP l := fun a ha => Dom.i64 (hp0.1.2 a ha).2.2.1
 have eK : kcoS l (fun y0 => lq1M y0) = l.any (fun a => !(lwiM a.1 1 6)) := rfl
 have bad : ∀ e : Int, lplS l = ([], zeroL, e) → llpV0 l = e → (e != 0) = true → llpj7 l (fun r => r = true) := fun e hS hV hn => by
  have j : llpj21 l (fun r => r = true) := by
   show llpV1 l = true
   unfold llpV1
   rw [hS, hV, sam_zero (([] : List JJ), zeroL, e).2.1 rfl]
   simp
  refine ⟨fun _ => ⟨fun _ => ⟨by rw [hS]; exact ⟨len_zero, len_zero⟩, j⟩, fun _ => j⟩, fun hh => ?_⟩
  rw [hV, hn] at hh; cases hh
 refine ⟨hP, fun h => ?_, fun h => ?_⟩
 ·exact bad 2 (by unfold lplS; rw [if_t h]) (by unfold llpV0; rw [if_t h]) rfl
 ·have hl : l.length ≤ 200 := by have := of_decide_eq_false h; omega
  refine ⟨⟨by omega, fun _ _ => trivial⟩, fun hk => ?_, fun hk => ?_⟩
  ·exact bad 3 (by unfold lplS; rw [if_f h, if_t (show l.any (fun a => !(lwiM a.1 1 6)) = true from hk)]) (by unfold llpV0; rw [if_f h, if_t hk]) rfl
  ·have hS : lplS l = ((plyS l).1, (plyS l).2, 0) := by unfold lplS; rw [if_f h, if_f (show l.any (fun a => !(lwiM a.1 1 6)) = false from hk)]
   have hV : llpV0 l = 0 := by unfold llpV0; rw [if_f h, if_f hk]
   have hg := play_good l
   have hlo := len_ok hg.1
   have hl3 := hg.2
   have j : llpj27 l (fun r => r = true) := by
    show llpV2 l = true
    unfold llpV2
    rw [hS, sam_eta]
    unfold jeqS
    simp
   refine ⟨fun hh => (by rw [hV] at hh; cases hh), fun _ => ⟨⟨⟨fun a ha => ?_, hP⟩, hl⟩, ⟨by rw [hS]; show (plyS l).1.length ≤ _; omega, by omega⟩, fun _ => ⟨by rw [hS]; exact ⟨hlo, hlo⟩, j⟩, fun _ => j⟩⟩
   have := List.any_eq_false.1 (show l.any (fun a => !(lwiM a.1 1 6)) = false from hk) a ha
   exact nlwi_no (by simpa using this)
theorem llp_c {g : Ghost} {axasks_0 : Option Addr} {cxasks_0 : Nat} (xasks : List (Int × Int × Int × Bs × Int × Int × Bs)) (hRxasks_0 : Rep g (.slice (.pair (.int .i64) (.pair (.int .i64) (.pair (.int .i64) (.pair (.str) (.pair (.int .i64) (.pair (.int .i64) (.str)))))))) [.slice axasks_0 xasks.length cxasks_0] xasks)  (hp : llpP xasks) : CallsG Try.prog 5 #[.slice axasks_0 xasks.length cxasks_0] g (.bool ((fun _ => true) xasks)) :=
 (llp_ok xasks hRxasks_0 _ (llp_F xasks hp)).gives (by rintro g' H' v _ ⟨r0, rfl, rfl, hK⟩; subst hK; rfl)
end
end Go.Proofs.Ytbifbljdmndjbaa.Lo
