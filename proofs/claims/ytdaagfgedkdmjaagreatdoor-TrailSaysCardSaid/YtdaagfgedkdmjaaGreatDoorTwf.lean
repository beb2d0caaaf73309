/- Trails: both sides. -/
import Derived.Test.YtdaagfgedkdmjaaGreatDoorTwe
namespace Go.Proofs.YtdaagfgedkdmjaaGreatDoor.Ub
open Go Go.Eng Go.RowKit Go.Shelf Go.Proofs Bld Sp Ti Uc Ua Ui
set_option maxHeartbeats 4000000
set_option maxRecDepth 100000
set_option linter.unusedSimpArgs false
set_option linter.unusedVariables false
noncomputable section
def ltrV0 (xt : (List (Bs × Bs × Int)) × Int) (xref : Bs) : Bool :=
 (((chkT xt) != (chkT xt)) || ((staS xref).2 != (resS xref xref).2))
def ltrV1 (xref : Bs) : List (Bs × Bs × Int) :=
 (if ((resS xref xref).2 == 0) = true then ([((resS xref xref).1, ([] : Bs), 0)] : List (Bs × Bs × Int)) else [])
def ltrV3 (xt : (List (Bs × Bs × Int)) × Int) (xref : Bs) (xstate : Bs) (e21 : (List (Bs × Bs × Int)) × Int) (x89l43 : Int) : Bool :=
 ((!(smtS e21 (gonS xt (w6 (x89l43 + 1)) xref xstate).1)) || ((([(ldS xt xref).2, (puS xt xref xstate).2, (rpS xt xref xstate).2] : List (Int)).getD (Int.toNat x89l43) default) != (gonS xt (w6 (x89l43 + 1)) xref xstate).2))
def ltrV4 (xt : (List (Bs × Bs × Int)) × Int) (xn : Int) : Bool :=
 (((chkT xt) == 0) && (!(rbetM xn (w6 (0 - xt.2)) (w6 ((w6 ((xt.1.length : Int) - 1)) - xt.2)))))
def ltrV5 (xt : (List (Bs × Bs × Int)) × Int) (xn : Int) : Bool :=
 ((smtS (goS xt xn).1 (xt.1, w6 (xt.2 + xn))) && (((goS xt xn).2.1 == ((xt.1.getD (Int.toNat (w6 (xt.2 + xn))) default).2.2 != (xt.1.getD (Int.toNat xt.2) default).2.2)) && ((goS xt xn).2.2 == 0)))
def ltrV6 (xt : (List (Bs × Bs × Int)) × Int) (xref : Bs) (xstate : Bs) (e21 : (List (Bs × Bs × Int)) × Int) (x89l43 : Int) : Bool :=
 (smtS e21 (gonS xt (w6 (x89l43 + 1)) xref xstate).1)
def ltrV7 (xt : (List (Bs × Bs × Int)) × Int) (xn : Int) : Bool :=
 (smtS (goS xt xn).1 (xt.1, w6 (xt.2 + xn)))
def ltrV8 (xt : (List (Bs × Bs × Int)) × Int) (xn : Int) : Bool :=
 (rbetM xn (w6 (0 - xt.2)) (w6 ((w6 ((xt.1.length : Int) - 1)) - xt.2)))
def ltrj56 (xt : (List (Bs × Bs × Int)) × Int) (xref : Bs) (xstate : Bs) (K : Bool → Prop) (e21 : (List (Bs × Bs × Int)) × Int) (x89l43 : Int) (C43 : Int → (List (Bs × Bs × Int)) → Int → Prop) : Prop :=
 (((ltrV3 xt xref xstate e21 x89l43)) = true → K false) ∧ (((ltrV3 xt xref xstate e21 x89l43)) = false → C43 (w6 (x89l43 + 1)) (gonS xt (w6 (x89l43 + 1)) xref xstate).1.1 (gonS xt (w6 (x89l43 + 1)) xref xstate).1.2)
def ltrj82 (xt : (List (Bs × Bs × Int)) × Int) (xn : Int) (K : Bool → Prop) : Prop :=
 K (ltrV5 xt xn)
def ltrj66 (xt : (List (Bs × Bs × Int)) × Int) (xn : Int) (K : Bool → Prop) : Prop :=
 ((((if (ltrV4 xt xn) = true then 5 else (chkT xt)) != 0)) = true → smtP (goS xt xn).1 ([], 0) ∧ K (((smtS (goS xt xn).1 ([], 0)) && (!((goS xt xn).2.1))) && ((goS xt xn).2.2 == (if (ltrV4 xt xn) = true then 5 else (chkT xt))))) ∧ ((((if (ltrV4 xt xn) = true then 5 else (chkT xt)) != 0)) = false → smtP (goS xt xn).1 (xt.1, w6 (xt.2 + xn)) ∧ (((ltrV7 xt xn)) = true → (0 : Int) ≤ (w6 (xt.2 + xn)) ∧ Int.toNat (w6 (xt.2 + xn)) < xt.1.length ∧ (0 : Int) ≤ xt.2 ∧ Int.toNat xt.2 < xt.1.length ∧ ((((goS xt xn).2.1 == ((xt.1.getD (Int.toNat (w6 (xt.2 + xn))) default).2.2 != (xt.1.getD (Int.toNat xt.2) default).2.2))) = true → ltrj82 xt xn K) ∧ ((((goS xt xn).2.1 == ((xt.1.getD (Int.toNat (w6 (xt.2 + xn))) default).2.2 != (xt.1.getD (Int.toNat xt.2) default).2.2))) = false → ltrj82 xt xn K)) ∧ (((ltrV7 xt xn)) = false → ltrj82 xt xn K))
def ltrj67 (xt : (List (Bs × Bs × Int)) × Int) (xn : Int) (K : Bool → Prop) : Prop :=
 (((ltrV4 xt xn)) = true → ltrj66 xt xn K) ∧ (((ltrV4 xt xn)) = false → ltrj66 xt xn K)
def ltrl43b (xt : (List (Bs × Bs × Int)) × Int) (xref : Bs) (xstate : Bs) (xn : Int) (K : Bool → Prop) (x89l43 : Int) (yb14_0l43 : List (Bs × Bs × Int)) (yb14_1l43 : Int) (C43 : Int → (List (Bs × Bs × Int)) → Int → Prop) : Prop :=
 ((decide (x89l43 < (([(ldS xt xref).1, (puS xt xref xstate).1, (rpS xt xref xstate).1] : List ((List (Bs × Bs × Int)) × Int)).length : Int))) = true → (0 : Int) ≤ x89l43 ∧ Int.toNat x89l43 < ([(ldS xt xref).1, (puS xt xref xstate).1, (rpS xt xref xstate).1] : List ((List (Bs × Bs × Int)) × Int)).length ∧ gonP xt (w6 (x89l43 + 1)) xref xstate ∧ smtP (([(ldS xt xref).1, (puS xt xref xstate).1, (rpS xt xref xstate).1] : List ((List (Bs × Bs × Int)) × Int)).getD (Int.toNat x89l43) default) (gonS xt (w6 (x89l43 + 1)) xref xstate).1 ∧ ((!(ltrV6 xt xref xstate (([(ldS xt xref).1, (puS xt xref xstate).1, (rpS xt xref xstate).1] : List ((List (Bs × Bs × Int)) × Int)).getD (Int.toNat x89l43) default) x89l43)) = true → ltrj56 xt xref xstate K (([(ldS xt xref).1, (puS xt xref xstate).1, (rpS xt xref xstate).1] : List ((List (Bs × Bs × Int)) × Int)).getD (Int.toNat x89l43) default) x89l43 C43) ∧ ((!(ltrV6 xt xref xstate (([(ldS xt xref).1, (puS xt xref xstate).1, (rpS xt xref xstate).1] : List ((List (Bs × Bs × Int)) × Int)).getD (Int.toNat x89l43) default) x89l43)) = false → (0 : Int) ≤ x89l43 ∧ Int.toNat x89l43 < ([(ldS xt xref).2, (puS xt xref xstate).2, (rpS xt xref xstate).2] : List (Int)).length ∧ ltrj56 xt xref xstate K (([(ldS xt xref).1, (puS xt xref xstate).1, (rpS xt xref xstate).1] : List ((List (Bs × Bs × Int)) × Int)).getD (Int.toNat x89l43) default) x89l43 C43)) ∧ ((decide (x89l43 < (([(ldS xt xref).1, (puS xt xref xstate).1, (rpS xt xref xstate).1] : List ((List (Bs × Bs × Int)) × Int)).length : Int))) = false → lenP xt ∧ ((((chkT xt) == 0)) = true → ltrj67 xt xn K) ∧ ((((chkT xt) == 0)) = false → ltrj67 xt xn K))
def ltrl43 (xt : (List (Bs × Bs × Int)) × Int) (xref : Bs) (xstate : Bs) (xn : Int) (K : Bool → Prop) : Nat → Int → (List (Bs × Bs × Int)) → Int → Prop
 | 0, _, _, _ => False
 | k + 1, x89l43, yb14_0l43, yb14_1l43 => ltrl43b xt xref xstate xn K x89l43 yb14_0l43 yb14_1l43 (ltrl43 xt xref xstate xn K k)
def ltrj25 (xt : (List (Bs × Bs × Int)) × Int) (xref : Bs) (xstate : Bs) (xn : Int) (K : Bool → Prop) : Prop :=
 smtP (staS xref).1 ((ltrV1 xref), 0) ∧ ((!(smtS (staS xref).1 ((ltrV1 xref), 0))) = true → K false) ∧ ((!(smtS (staS xref).1 ((ltrV1 xref), 0))) = false → ∃ k, ltrl43 xt xref xstate xn K k 0 (ltrV1 xref) 0)
def ltrj16 (xt : (List (Bs × Bs × Int)) × Int) (xref : Bs) (xstate : Bs) (xn : Int) (K : Bool → Prop) : Prop :=
 (((ltrV0 xt xref)) = true → K false) ∧ (((ltrV0 xt xref)) = false → ((((resS xref xref).2 == 0)) = true → ltrj25 xt xref xstate xn K) ∧ ((((resS xref xref).2 == 0)) = false → ltrj25 xt xref xstate xn K))
def ltrF (xt : (List (Bs × Bs × Int)) × Int) (xref : Bs) (xstate : Bs) (xn : Int) (K : Bool → Prop) : Prop :=
 goP xt xn ∧ lenP xt ∧ ((((chkT xt) != (chkT xt))) = true → ltrj16 xt xref xstate xn K) ∧ ((((chkT xt) != (chkT xt))) = false → ltrj16 xt xref xstate xn K)
theorem ltr_ok {g : Ghost} {axt_0 : Option Addr} {cxt_0 : Nat} (xt : (List (Bs × Bs × Int)) × Int) (xref : Bs) (xstate : Bs) (xn : Int) (hRxt_0 : Rep g (.slice (.pair (.str) (.pair (.str) (.int .i64)))) [.slice axt_0 xt.1.length cxt_0] xt.1) (hG0 : SomeInt g 0) (hG1 : GlobL g 1 (.int .u64) DPow) (hG2 : SomeIf g 2) (hG3 : SomeIf g 3) (hG4 : GlobL g 4 (.int .u8) DFirst) (hG5 : GlobL g 5 (.pair (.int .u8) (.int .u8)) DAcc) (K : Bool → Prop)
  (hF : ltrF xt xref xstate xn K) : CallsH Tryz.prog 3 #[.agg ⟨vT xt axt_0 cxt_0⟩, sv xref, sv xstate, .int .i64 xn] g [] (fun g' H' v => ∃ (r0 : Bool), v = .bool r0 ∧ H' = [] ∧ K r0) := by
 refine CallsH.enter 187 [(0, .agg ⟨vT xt axt_0 cxt_0⟩), (1, sv xref), (2, sv xstate), (3, .int .i64 xn)] Tryz.func3 rfl (by kernel_rfl) (by kernel_rfl) (by kernel_rfl) fun w0 => ?_
 refine Ok.seq (Ok.region (Ok.op rfl (OpOk.box (v := .agg ⟨vT xt axt_0 cxt_0⟩) (cs := ⟨vT xt axt_0 cxt_0⟩) rfl (by kernel_rfl) rfl fun b1 => ?_)))
 refine Ok.batch 1 [(1, sv xref), (2, sv xstate), (3, .int .i64 xn), (4, pv b1 0)] (by kernel_rfl) (Ok.nil (Ok.thenN (Ok.seq (Ok.region (Ok.bat 1 [1, 2, 3, 4] [(26, sv xref)] ?_)))))
 refine Ok.op rfl (OpOk.callH [] _ enr rfl (wst_c xref hG0 hG1 hG2 hG3 hG4 hG5) rfl fun g2 _ _ hx2 hV2 => ?_)
 obtain ⟨a2_0, c2_0, rfl, hR2_0, rfl⟩ := hV2
 replace hRxt_0 := hRxt_0.mono hx2.1
 replace hG0 := hG0.mono hx2.1
 replace hG1 := hG1.mono hx2.1
 replace hG2 := hG2.mono hx2.1
 replace hG3 := hG3.mono hx2.1
 replace hG4 := hG4.mono hx2.1
 replace hG5 := hG5.mono hx2.1
 refine Ok.bat 3 [1, 2, 3, 4] [(28, .agg ⟨vT (staS xref).1 a2_0 c2_0⟩), (29, .int .i64 (staS xref).2)] ?_
 refine Ok.op rfl (OpOk.alloc (z := .agg #[.slice none 0 0, .int .i64 0]) (cs := #[.slice none 0 0, .int .i64 0]) (by kernel_rfl) (by kernel_rfl) rfl fun b3 => ?_)
 refine Ok.op rfl (OpOk.sto (k := 2) (v := .agg ⟨vT (staS xref).1 a2_0 c2_0⟩) 0 ⟨vT (staS xref).1 a2_0 c2_0⟩ rfl rfl rfl ?_)
 refine Ok.bat 1 [1, 2, 3, 4] [(9, pv b3 0), (10, .int .i64 (staS xref).2)] ?_
 refine Ok.nil (Ok.thenN (Ok.seq (Ok.region (Ok.op rfl (OpOk.step (v := .agg ⟨vT xt axt_0 cxt_0⟩) (Yields.loadAgg 1 2 ⟨vT xt axt_0 cxt_0⟩ rfl rfl Tryz.underlying24 rfl (by kernel_rfl) (by kernel_rfl) (by kernel_rfl)) rfl rfl (Ok.bat 1 [1, 2, 3, 4, 9, 10] [(31, .agg ⟨vT xt axt_0 cxt_0⟩), (32, sv xref)] ?_))))))
 refine Ok.op rfl (OpOk.callH [] _ enr rfl (wld_c xt xref hRxt_0 hG0 hG1 hG2 hG3 hG4 hG5) rfl fun g4 _ _ hx4 hV4 => ?_)
 obtain ⟨a4_0, c4_0, rfl, hR4_0, rfl⟩ := hV4
 replace hRxt_0 := hRxt_0.mono hx4.1
 replace hR2_0 := hR2_0.mono hx4.1
 replace hG0 := hG0.mono hx4.1
 replace hG1 := hG1.mono hx4.1
 replace hG2 := hG2.mono hx4.1
 replace hG3 := hG3.mono hx4.1
 replace hG4 := hG4.mono hx4.1
 replace hG5 := hG5.mono hx4.1
 refine Ok.bat 3 [1, 2, 3, 4, 9, 10] [(34, .agg ⟨vT (ldS xt xref).1 a4_0 c4_0⟩), (35, .int .i64 (ldS xt xref).2)] ?_
 refine Ok.op rfl (OpOk.alloc (z := .agg #[.slice none 0 0, .int .i64 0]) (cs := #[.slice none 0 0, .int .i64 0]) (by kernel_rfl) (by kernel_rfl) rfl fun b5 => ?_)
 refine Ok.op rfl (OpOk.sto (k := 2) (v := .agg ⟨vT (ldS xt xref).1 a4_0 c4_0⟩) 0 ⟨vT (ldS xt xref).1 a4_0 c4_0⟩ rfl rfl rfl ?_)
 refine Ok.bat 1 [1, 2, 3, 4, 9, 10] [(11, pv b5 0), (12, .int .i64 (ldS xt xref).2)] ?_
 refine Ok.nil (Ok.thenN (Ok.seq (Ok.region (Ok.op rfl (OpOk.step (v := .agg ⟨vT xt axt_0 cxt_0⟩) (Yields.loadAgg 2 2 ⟨vT xt axt_0 cxt_0⟩ rfl rfl Tryz.underlying24 rfl (by kernel_rfl) (by kernel_rfl) (by kernel_rfl)) rfl rfl (Ok.bat 2 [1, 2, 3, 4, 9, 10, 11, 12] [(37, .agg ⟨vT xt axt_0 cxt_0⟩), (38, sv xref), (39, sv xstate)] ?_))))))
 refine Ok.op rfl (OpOk.callH [] _ enr rfl (wpu_c xt xref xstate hRxt_0 hG0 hG1 hG2 hG3 hG4 hG5) rfl fun g6 _ _ hx6 hV6 => ?_)
 obtain ⟨a6_0, c6_0, rfl, hR6_0, rfl⟩ := hV6
 replace hRxt_0 := hRxt_0.mono hx6.1
 replace hR4_0 := hR4_0.mono hx6.1
 replace hR2_0 := hR2_0.mono hx6.1
 replace hG0 := hG0.mono hx6.1
 replace hG1 := hG1.mono hx6.1
 replace hG2 := hG2.mono hx6.1
 replace hG3 := hG3.mono hx6.1
 replace hG4 := hG4.mono hx6.1
 replace hG5 := hG5.mono hx6.1
 refine Ok.bat 3 [1, 2, 3, 4, 9, 10, 11, 12] [(41, .agg ⟨vT (puS xt xref xstate).1 a6_0 c6_0⟩), (42, .int .i64 (puS xt xref xstate).2)] ?_
 refine Ok.op rfl (OpOk.alloc (z := .agg #[.slice none 0 0, .int .i64 0]) (cs := #[.slice none 0 0, .int .i64 0]) (by kernel_rfl) (by kernel_rfl) rfl fun b7 => ?_)
 refine Ok.op rfl (OpOk.sto (k := 2) (v := .agg ⟨vT (puS xt xref xstate).1 a6_0 c6_0⟩) 0 ⟨vT (puS xt xref xstate).1 a6_0 c6_0⟩ rfl rfl rfl ?_)
 refine Ok.bat 1 [1, 2, 3, 4, 9, 10, 11, 12] [(13, pv b7 0), (14, .int .i64 (puS xt xref xstate).2)] ?_
 refine Ok.nil (Ok.thenN (Ok.seq (Ok.region (Ok.op rfl (OpOk.step (v := .agg ⟨vT xt axt_0 cxt_0⟩) (Yields.loadAgg 3 2 ⟨vT xt axt_0 cxt_0⟩ rfl rfl Tryz.underlying24 rfl (by kernel_rfl) (by kernel_rfl) (by kernel_rfl)) rfl rfl (Ok.bat 2 [1, 2, 3, 4, 9, 10, 11, 12, 13, 14] [(44, .agg ⟨vT xt axt_0 cxt_0⟩), (45, sv xref), (46, sv xstate)] ?_))))))
 refine Ok.op rfl (OpOk.callH [] _ enr rfl (wrp_c xt xref xstate hRxt_0 hG0 hG1 hG2 hG3 hG4 hG5) rfl fun g8 _ _ hx8 hV8 => ?_)
 obtain ⟨a8_0, c8_0, rfl, hR8_0, rfl⟩ := hV8
 replace hRxt_0 := hRxt_0.mono hx8.1
 replace hR6_0 := hR6_0.mono hx8.1
 replace hR4_0 := hR4_0.mono hx8.1
 replace hR2_0 := hR2_0.mono hx8.1
 replace hG0 := hG0.mono hx8.1
 replace hG1 := hG1.mono hx8.1
 replace hG2 := hG2.mono hx8.1
 replace hG3 := hG3.mono hx8.1
 replace hG4 := hG4.mono hx8.1
 replace hG5 := hG5.mono hx8.1
 refine Ok.bat 3 [1, 2, 3, 4, 9, 10, 11, 12, 13, 14] [(48, .agg ⟨vT (rpS xt xref xstate).1 a8_0 c8_0⟩), (49, .int .i64 (rpS xt xref xstate).2)] ?_
 refine Ok.op rfl (OpOk.alloc (z := .agg #[.slice none 0 0, .int .i64 0]) (cs := #[.slice none 0 0, .int .i64 0]) (by kernel_rfl) (by kernel_rfl) rfl fun b9 => ?_)
 refine Ok.op rfl (OpOk.sto (k := 2) (v := .agg ⟨vT (rpS xt xref xstate).1 a8_0 c8_0⟩) 0 ⟨vT (rpS xt xref xstate).1 a8_0 c8_0⟩ rfl rfl rfl ?_)
 refine Ok.bat 1 [1, 2, 3, 4, 9, 10, 11, 12, 13, 14] [(15, pv b9 0), (16, .int .i64 (rpS xt xref xstate).2)] ?_
 refine Ok.nil (Ok.thenN (Ok.seq (Ok.region (Ok.op rfl (OpOk.step (v := .agg ⟨vT xt axt_0 cxt_0⟩) (Yields.loadAgg 4 2 ⟨vT xt axt_0 cxt_0⟩ rfl rfl Tryz.underlying24 rfl (by kernel_rfl) (by kernel_rfl) (by kernel_rfl)) rfl rfl (Ok.bat 1 [1, 2, 3, 4, 9, 10, 11, 12, 13, 14, 15, 16] [(51, .agg ⟨vT xt axt_0 cxt_0⟩), (52, .int .i64 xn)] ?_))))))
 obtain ⟨hp10, hF⟩ := hF
 refine Ok.op rfl (OpOk.callH [] _ enr rfl (wgo_c xt xn hRxt_0 hG0 hG1 hG2 hG3 hG4 hG5 hp10) rfl fun g11 _ _ hx11 hV11 => ?_)
 obtain ⟨a11_0, c11_0, rfl, hR11_0, rfl⟩ := hV11
 replace hRxt_0 := hRxt_0.mono hx11.1
 replace hR8_0 := hR8_0.mono hx11.1
 replace hR6_0 := hR6_0.mono hx11.1
 replace hR4_0 := hR4_0.mono hx11.1
 replace hR2_0 := hR2_0.mono hx11.1
 replace hG0 := hG0.mono hx11.1
 replace hG1 := hG1.mono hx11.1
 replace hG2 := hG2.mono hx11.1
 replace hG3 := hG3.mono hx11.1
 replace hG4 := hG4.mono hx11.1
 replace hG5 := hG5.mono hx11.1
 refine Ok.bat 4 [1, 2, 3, 4, 9, 10, 11, 12, 13, 14, 15, 16] [(54, .agg ⟨vT (goS xt xn).1 a11_0 c11_0⟩), (55, .bool (goS xt xn).2.1), (56, .int .i64 (goS xt xn).2.2)] ?_
 refine Ok.op rfl (OpOk.alloc (z := .agg #[.slice none 0 0, .int .i64 0]) (cs := #[.slice none 0 0, .int .i64 0]) (by kernel_rfl) (by kernel_rfl) rfl fun b12 => ?_)
 refine Ok.op rfl (OpOk.sto (k := 2) (v := .agg ⟨vT (goS xt xn).1 a11_0 c11_0⟩) 0 ⟨vT (goS xt xn).1 a11_0 c11_0⟩ rfl rfl rfl ?_)
 refine Ok.bat 2 [1, 2, 3, 4, 9, 10, 11, 12, 13, 14, 15, 16] [(17, pv b12 0), (18, .bool (goS xt xn).2.1), (19, .int .i64 (goS xt xn).2.2)] ?_
 refine Ok.nil (Ok.thenN (Ok.seq (Ok.region (Ok.bat 2 [1, 2, 3, 4, 9, 10, 11, 12, 13, 14, 15, 16, 17, 18, 19] [(58, sv xref), (59, sv xref)] ?_))))
 refine Ok.op rfl (OpOk.callG (v := .tuple #[sv ((resS xref xref).1), .int .i64 (resS xref xref).2]) enr (fun W hW => rres_c xref xref (hG0.mono hW.sees) (hG1.mono hW.sees)) rfl ?_)
 refine Ok.bat 5 [1, 2, 3, 4, 9, 10, 11, 12, 13, 14, 15, 16, 17, 18, 19] [(20, sv ((resS xref xref).1)), (21, .int .i64 (resS xref xref).2)] ?_
 refine Ok.nil (Ok.thenN (Ok.seq (Ok.cut (fun a W => ∃ gj16 : Ghost, Gext w0 g11 gj16 ∧ StA 187 [(1, sv xref), (2, sv xstate), (3, .int .i64 xn), (4, pv b1 0), (9, pv b3 0), (11, pv b5 0), (12, .int .i64 (ldS xt xref).2), (13, pv b7 0), (14, .int .i64 (puS xt xref xstate).2), (15, pv b9 0), (16, .int .i64 (rpS xt xref xstate).2), (17, pv b12 0), (18, .bool (goS xt xn).2.1), (19, .int .i64 (goS xt xn).2.2), (20, sv ((resS xref xref).1)), (21, .int .i64 (resS xref xref).2), (72, .bool (ltrV0 xt xref))] a ∧ StW w0 [.blk b12 (.cells ⟨vT (goS xt xn).1 a11_0 c11_0⟩ 24), .blk b9 (.cells ⟨vT (rpS xt xref xstate).1 a8_0 c8_0⟩ 24), .blk b7 (.cells ⟨vT (puS xt xref xstate).1 a6_0 c6_0⟩ 24), .blk b5 (.cells ⟨vT (ldS xt xref).1 a4_0 c4_0⟩ 24), .blk b3 (.cells ⟨vT (staS xref).1 a2_0 c2_0⟩ 24), .blk b1 (.cells ⟨vT xt axt_0 cxt_0⟩ 24)] gj16 W ∧ ltrj16 xt xref xstate xn K) ?_ ?_)))
 ·
  refine Ok.quiet' (by kernel_rfl) (by kernel_rfl) (OkQ.op rfl (OpQ.step (v := .agg ⟨vT xt axt_0 cxt_0⟩) (Yields.loadAgg 5 2 ⟨vT xt axt_0 cxt_0⟩ rfl rfl Tryz.underlying24 rfl (by kernel_rfl) (by kernel_rfl) (by kernel_rfl)) rfl rfl (OkQ.op rfl (OpQ.callG (v := .int .i64 (chkT xt)) enr (fun W hW => wck_c xt (hRxt_0.mono hW.sees) (hG0.mono hW.sees) (hG1.mono hW.sees) (hG2.mono hW.sees) (hG3.mono hW.sees) (hG4.mono hW.sees) (hG5.mono hW.sees)) rfl ?_))))
  refine OkQ.op rfl (OpQ.step (v := .agg ⟨vT xt axt_0 cxt_0⟩) (Yields.loadAgg 5 2 ⟨vT xt axt_0 cxt_0⟩ rfl rfl Tryz.underlying24 rfl (by kernel_rfl) (by kernel_rfl) (by kernel_rfl)) rfl rfl ?_)
  obtain ⟨hp50, hF⟩ := hF
  refine OkQ.op rfl (OpQ.callG (v := .int .i64 (chkT xt)) enr (fun W hW => rtr_c xt (hRxt_0.mono hW.sees) (hG0.mono hW.sees) (hG1.mono hW.sees) hp50) rfl ?_)
  refine OkQ.bat 2 [1, 2, 3, 4, 9, 10, 11, 12, 13, 14, 15, 16, 17, 18, 19, 20, 21] [(68, .bool ((chkT xt) != (chkT xt)))] ?_
  refine OkQ.boolAt 68 (((chkT xt) != (chkT xt))) rfl (fun hc51 => ?_) (fun hc51 => ?_)
  ·replace hF := hF.1 hc51
   refine OkQ.bat 4 [1, 2, 3, 4, 9, 11, 12, 13, 14, 15, 16, 17, 18, 19, 20, 21] [(72, .bool true)] ?_
   refine OkQ.nil (Ok.thenN (Ok.reval 72 rfl (show (.bool true : Value) = .bool (ltrV0 xt xref) from congrArg (Value.bool) (mor_t hc51)) ?_))
   exact fun a W hA hW => ⟨g11, (Gext.refl w0 g11), hA.sub (by kernel_rfl), hW, hF⟩
  ·replace hF := hF.2 hc51
   refine OkQ.bat 4 [1, 2, 3, 4, 9, 11, 12, 13, 14, 15, 16, 17, 18, 19, 20, 21] [(72, .bool ((staS xref).2 != (resS xref xref).2))] ?_
   refine OkQ.nil (Ok.thenN (Ok.reval 72 rfl (show (.bool ((staS xref).2 != (resS xref xref).2) : Value) = .bool (ltrV0 xt xref) from congrArg (Value.bool) (mor_f hc51)) ?_))
   exact fun a W hA hW => ⟨g11, (Gext.refl w0 g11), hA.sub (by kernel_rfl), hW, hF⟩
 ·
  clear hF
  rintro a W ⟨gj16, hxj16, hA, hW, hF⟩
  refine (?_ : Ok _ _ _ _ _ _) a W hA hW
  clear hA hW
  replace hR11_0 := hR11_0.mono hxj16.1
  replace hR8_0 := hR8_0.mono hxj16.1
  replace hR6_0 := hR6_0.mono hxj16.1
  replace hR4_0 := hR4_0.mono hxj16.1
  replace hR2_0 := hR2_0.mono hxj16.1
  replace hRxt_0 := hRxt_0.mono hxj16.1
  replace hG0 := hG0.mono hxj16.1
  replace hG1 := hG1.mono hxj16.1
  replace hG2 := hG2.mono hxj16.1
  replace hG3 := hG3.mono hxj16.1
  replace hG4 := hG4.mono hxj16.1
  replace hG5 := hG5.mono hxj16.1
  refine Ok.cond (b := (ltrV0 xt xref)) rfl (fun hc13 => ?_) (fun hc13 => ?_)
  ·replace hF := hF.1 hc13
   refine Ok.seq (Ok.region (Ok.batch 1 [(8, .bool false)] (by kernel_rfl) (Ok.nil (Ok.thenN (Ok.ret (Ok.thenR ?_))))))
   exact Ok.resP (vs := [.bool false]) [] [] (by decide) rfl (.inl rfl) rfl (.cons (.tmp rfl) .nil) (((((hx2.trans hx4).trans hx6).trans hx8).trans hx11).trans hxj16) ⟨false, rfl, rfl, hF⟩
  ·replace hF := hF.2 hc13
   refine Ok.skip (Ok.thenN (Ok.seq (Ok.region (Ok.bat 1 [1, 2, 3, 4, 9, 11, 12, 13, 14, 15, 16, 17, 18, 19, 20, 21] [(73, .agg #[.slice none 0 0, .int .i64 0])] ?_))))
   refine Ok.op rfl (OpOk.alloc (z := .agg #[.slice none 0 0, .int .i64 0]) (cs := #[.slice none 0 0, .int .i64 0]) (by kernel_rfl) (by kernel_rfl) rfl fun b14 => ?_)
   refine Ok.op rfl (OpOk.sto (k := 2) (v := .agg #[.slice none 0 0, .int .i64 0]) 0 #[.slice none 0 0, .int .i64 0] rfl rfl rfl ?_)
   refine Ok.nil (Ok.thenN (Ok.cut (fun a W => ∃ gj25 : Ghost, Gext w0 gj16 gj25 ∧ ∃ (ayb14_0j25 : Option Addr) (cyb14_0j25 : Nat), Rep gj25 (.slice (.pair (.str) (.pair (.str) (.int .i64)))) [.slice ayb14_0j25 (ltrV1 xref).length cyb14_0j25] (ltrV1 xref) ∧ StA 187 [(1, sv xref), (2, sv xstate), (3, .int .i64 xn), (4, pv b1 0), (9, pv b3 0), (11, pv b5 0), (12, .int .i64 (ldS xt xref).2), (13, pv b7 0), (14, .int .i64 (puS xt xref xstate).2), (15, pv b9 0), (16, .int .i64 (rpS xt xref xstate).2), (17, pv b12 0), (18, .bool (goS xt xn).2.1), (19, .int .i64 (goS xt xn).2.2), (22, pv b14 0)] a ∧ StW w0 [.blk b14 (.cells #[.slice ayb14_0j25 (ltrV1 xref).length cyb14_0j25, .int .i64 0] 24), .blk b12 (.cells ⟨vT (goS xt xn).1 a11_0 c11_0⟩ 24), .blk b9 (.cells ⟨vT (rpS xt xref xstate).1 a8_0 c8_0⟩ 24), .blk b7 (.cells ⟨vT (puS xt xref xstate).1 a6_0 c6_0⟩ 24), .blk b5 (.cells ⟨vT (ldS xt xref).1 a4_0 c4_0⟩ 24), .blk b3 (.cells ⟨vT (staS xref).1 a2_0 c2_0⟩ 24), .blk b1 (.cells ⟨vT xt axt_0 cxt_0⟩ 24)] gj25 W ∧ ltrj25 xt xref xstate xn K) ?_ ?_))
   ·
    refine Ok.seq (Ok.region (Ok.bat 2 [1, 2, 3, 4, 9, 11, 12, 13, 14, 15, 16, 17, 18, 19, 20] [(22, pv b14 0), (75, .bool ((resS xref xref).2 == 0))] ?_))
    refine Ok.nil (Ok.thenN (Ok.cond (b := ((resS xref xref).2 == 0)) rfl (fun hc47 => ?_) (fun hc47 => ?_)))
    ·replace hF := hF.1 hc47
     refine Ok.region (Ok.bat 2 [1, 2, 3, 4, 9, 11, 12, 13, 14, 15, 16, 17, 18, 19, 22] [(77, .agg #[sv ((resS xref xref).1), sv ([] : Bs), .int .i64 0])] ?_)
     have hL48 : RepL gj16 (.pair (.str) (.pair (.str) (.int .i64))) ([sv ((resS xref xref).1), sv ([] : Bs), .int .i64 0] : List Value) ([((resS xref xref).1, ([] : Bs), 0)] : List (Bs × Bs × Int)) := (RepL.consN (c := [sv ((resS xref xref).1), sv ([] : Bs), .int .i64 0]) ⟨[sv ((resS xref xref).1)], [sv ([] : Bs), .int .i64 0], rfl, rfl, ⟨[sv ([] : Bs)], [.int .i64 0], rfl, rfl, rfl⟩⟩ rfl)
     refine Ok.op rfl (OpOk.lit (E := 36) (.pair (.str) (.pair (.str) (.int .i64))) ([((resS xref xref).1, ([] : Bs), 0)] : List (Bs × Bs × Int)) ([sv ((resS xref xref).1), sv ([] : Bs), .int .i64 0] : List Value) (by kernel_rfl) (by kernel_rfl) rfl (by kernel_rfl) hL48 rfl fun b48 => ?_)
     refine Ok.bat 1 [1, 2, 3, 4, 9, 11, 12, 13, 14, 15, 16, 17, 18, 19, 22] [(78, .slice (some ⟨b48, 0, none⟩) ([((resS xref xref).1, ([] : Bs), 0)] : List (Bs × Bs × Int)).length 1), (79, pv b14 0)] ?_
     refine Ok.op rfl (OpOk.sto (k := 1) (v := .slice (some ⟨b48, 0, none⟩) ([((resS xref xref).1, ([] : Bs), 0)] : List (Bs × Bs × Int)).length 1) 1 #[.slice (some ⟨b48, 0, none⟩) ([((resS xref xref).1, ([] : Bs), 0)] : List (Bs × Bs × Int)).length 1, .int .i64 0] rfl rfl rfl ?_)
     refine Ok.nil (Ok.frz 0 rfl hL48 fun g49 hx49 hRf49 => ?_)
     replace hR11_0 := hR11_0.mono hx49.1
     replace hR8_0 := hR8_0.mono hx49.1
     replace hR6_0 := hR6_0.mono hx49.1
     replace hR4_0 := hR4_0.mono hx49.1
     replace hR2_0 := hR2_0.mono hx49.1
     replace hRxt_0 := hRxt_0.mono hx49.1
     replace hG0 := hG0.mono hx49.1
     replace hG1 := hG1.mono hx49.1
     replace hG2 := hG2.mono hx49.1
     replace hG3 := hG3.mono hx49.1
     replace hG4 := hG4.mono hx49.1
     replace hG5 := hG5.mono hx49.1
     refine Ok.thenN (Ok.heapEq (H' := [.blk b14 (.cells #[.slice (some ⟨b48, 0, none⟩) (ltrV1 xref).length 1, .int .i64 0] 24), .blk b12 (.cells ⟨vT (goS xt xn).1 a11_0 c11_0⟩ 24), .blk b9 (.cells ⟨vT (rpS xt xref xstate).1 a8_0 c8_0⟩ 24), .blk b7 (.cells ⟨vT (puS xt xref xstate).1 a6_0 c6_0⟩ 24), .blk b5 (.cells ⟨vT (ldS xt xref).1 a4_0 c4_0⟩ 24), .blk b3 (.cells ⟨vT (staS xref).1 a2_0 c2_0⟩ 24), .blk b1 (.cells ⟨vT xt axt_0 cxt_0⟩ 24)]) (econs (congrArg (fun l : List Value => Ent.blk b14 (.cells ⟨l⟩ 24)) (lcons (congrArg (fun l : List (Bs × Bs × Int) => Value.slice (some ⟨b48, 0, none⟩) l.length 1) ((if_t hc47).symm)) (lcons (rfl) rfl))) (econs (rfl) (econs (rfl) (econs (rfl) (econs (rfl) (econs (rfl) (econs (rfl) rfl))))))) ?_)
     exact fun a W hA hW => ⟨g49, hx49, (some ⟨b48, 0, none⟩), 1, (Eq.mp (congrArg (fun l : List (Bs × Bs × Int) => Rep g49 (.slice (.pair (.str) (.pair (.str) (.int .i64)))) [.slice (some ⟨b48, 0, none⟩) l.length 1] l) ((if_t hc47).symm)) hRf49), hA.sub (by kernel_rfl), hW, hF⟩
    ·replace hF := hF.2 hc47
     refine Ok.skip (Ok.thenN (Ok.heapEq (H' := [.blk b14 (.cells #[.slice none (ltrV1 xref).length 0, .int .i64 0] 24), .blk b12 (.cells ⟨vT (goS xt xn).1 a11_0 c11_0⟩ 24), .blk b9 (.cells ⟨vT (rpS xt xref xstate).1 a8_0 c8_0⟩ 24), .blk b7 (.cells ⟨vT (puS xt xref xstate).1 a6_0 c6_0⟩ 24), .blk b5 (.cells ⟨vT (ldS xt xref).1 a4_0 c4_0⟩ 24), .blk b3 (.cells ⟨vT (staS xref).1 a2_0 c2_0⟩ 24), .blk b1 (.cells ⟨vT xt axt_0 cxt_0⟩ 24)]) (econs (congrArg (fun l : List Value => Ent.blk b14 (.cells ⟨l⟩ 24)) (lcons (congrArg (fun l : List (Bs × Bs × Int) => Value.slice none l.length 0) (show ([] : List (Bs × Bs × Int)) = (ltrV1 xref) from (if_f hc47).symm)) (lcons (rfl) rfl))) (econs (rfl) (econs (rfl) (econs (rfl) (econs (rfl) (econs (rfl) (econs (rfl) rfl))))))) ?_))
     exact fun a W hA hW => ⟨gj16, (Gext.refl w0 gj16), none, 0, (Eq.mp (congrArg (fun l : List (Bs × Bs × Int) => Rep gj16 (.slice (.pair (.str) (.pair (.str) (.int .i64)))) [.slice none l.length 0] l) (show ([] : List (Bs × Bs × Int)) = (ltrV1 xref) from (if_f hc47).symm)) Rep.nil), hA.sub (by kernel_rfl), hW, hF⟩
   ·
    clear hF
    rintro a W ⟨gj25, hxj25, ayb14_0j25, cyb14_0j25, hRyb14_0j25, hA, hW, hF⟩
    refine (?_ : Ok _ _ _ _ _ _) a W hA hW
    clear hA hW
    replace hR11_0 := hR11_0.mono hxj25.1
    replace hR8_0 := hR8_0.mono hxj25.1
    replace hR6_0 := hR6_0.mono hxj25.1
    replace hR4_0 := hR4_0.mono hxj25.1
    replace hR2_0 := hR2_0.mono hxj25.1
    replace hRxt_0 := hRxt_0.mono hxj25.1
    replace hG0 := hG0.mono hxj25.1
    replace hG1 := hG1.mono hxj25.1
    replace hG2 := hG2.mono hxj25.1
    replace hG3 := hG3.mono hxj25.1
    replace hG4 := hG4.mono hxj25.1
    replace hG5 := hG5.mono hxj25.1
    refine Ok.seq (Ok.seq (Ok.region (Ok.op rfl (OpOk.step (v := .agg ⟨vT (staS xref).1 a2_0 c2_0⟩) (Yields.loadAgg 5 2 ⟨vT (staS xref).1 a2_0 c2_0⟩ rfl rfl Tryz.underlying24 rfl (by kernel_rfl) (by kernel_rfl) (by kernel_rfl)) rfl rfl (Ok.op rfl (OpOk.step (v := .agg #[.slice ayb14_0j25 (ltrV1 xref).length cyb14_0j25, .int .i64 0]) (Yields.loadAgg 0 2 #[.slice ayb14_0j25 (ltrV1 xref).length cyb14_0j25, .int .i64 0] rfl rfl Tryz.underlying24 rfl (by kernel_rfl) (by kernel_rfl) (by kernel_rfl)) rfl rfl ?_))))))
    obtain ⟨hp15, hF⟩ := hF
    refine Ok.op rfl (OpOk.callG (v := .bool (smtS (staS xref).1 ((ltrV1 xref), 0))) enr (fun W hW => rst_c (staS xref).1 ((ltrV1 xref), 0) (hR2_0.mono hW.sees) (hRyb14_0j25.mono hW.sees) hp15) rfl ?_)
    refine Ok.bat 1 [1, 2, 3, 4, 11, 12, 13, 14, 15, 16, 17, 18, 19, 22] [(83, .bool (!(smtS (staS xref).1 ((ltrV1 xref), 0))))] ?_
    refine Ok.nil (Ok.thenN (Ok.cond (b := !(smtS (staS xref).1 ((ltrV1 xref), 0))) rfl (fun hc16 => ?_) (fun hc16 => ?_)))
    ·replace hF := hF.1 hc16
     refine Ok.seq (Ok.region (Ok.batch 1 [(8, .bool false)] (by kernel_rfl) (Ok.nil (Ok.thenN (Ok.ret (Ok.thenR ?_))))))
     exact Ok.resP (vs := [.bool false]) [] [] (by decide) rfl (.inl rfl) rfl (.cons (.tmp rfl) .nil) ((((((hx2.trans hx4).trans hx6).trans hx8).trans hx11).trans hxj16).trans hxj25) ⟨false, rfl, rfl, hF⟩
    ·replace hF := hF.2 hc16
     refine Ok.skip (Ok.thenN (Ok.seq (Ok.seq (Ok.region (Ok.op rfl (OpOk.step (v := .agg ⟨vT (ldS xt xref).1 a4_0 c4_0⟩) (Yields.loadAgg 4 2 ⟨vT (ldS xt xref).1 a4_0 c4_0⟩ rfl rfl Tryz.underlying24 rfl (by kernel_rfl) (by kernel_rfl) (by kernel_rfl)) rfl rfl (Ok.op rfl (OpOk.step (v := .agg ⟨vT (puS xt xref xstate).1 a6_0 c6_0⟩) (Yields.loadAgg 3 2 ⟨vT (puS xt xref xstate).1 a6_0 c6_0⟩ rfl rfl Tryz.underlying24 rfl (by kernel_rfl) (by kernel_rfl) (by kernel_rfl)) rfl rfl (Ok.op rfl (OpOk.step (v := .agg ⟨vT (rpS xt xref xstate).1 a8_0 c8_0⟩) (Yields.loadAgg 2 2 ⟨vT (rpS xt xref xstate).1 a8_0 c8_0⟩ rfl rfl Tryz.underlying24 rfl (by kernel_rfl) (by kernel_rfl) (by kernel_rfl)) rfl rfl ?_))))))))))
     have hL17 : RepL gj25 (.pair (.slice (.pair (.str) (.pair (.str) (.int .i64)))) (.int .i64)) ([.slice a4_0 ((ldS xt xref).1.1).length c4_0, .int .i64 (ldS xt xref).1.2, .slice a6_0 ((puS xt xref xstate).1.1).length c6_0, .int .i64 (puS xt xref xstate).1.2, .slice a8_0 ((rpS xt xref xstate).1.1).length c8_0, .int .i64 (rpS xt xref xstate).1.2] : List Value) ([(ldS xt xref).1, (puS xt xref xstate).1, (rpS xt xref xstate).1] : List ((List (Bs × Bs × Int)) × Int)) := (RepL.consN (c := (vT (ldS xt xref).1 a4_0 c4_0)) ⟨[.slice a4_0 ((ldS xt xref).1.1).length c4_0], [.int .i64 (ldS xt xref).1.2], rfl, hR4_0, rfl⟩ (RepL.consN (c := (vT (puS xt xref xstate).1 a6_0 c6_0)) ⟨[.slice a6_0 ((puS xt xref xstate).1.1).length c6_0], [.int .i64 (puS xt xref xstate).1.2], rfl, hR6_0, rfl⟩ (RepL.consN (c := (vT (rpS xt xref xstate).1 a8_0 c8_0)) ⟨[.slice a8_0 ((rpS xt xref xstate).1.1).length c8_0], [.int .i64 (rpS xt xref xstate).1.2], rfl, hR8_0, rfl⟩ rfl)))
     refine Ok.op rfl (OpOk.lit (E := 24) (.pair (.slice (.pair (.str) (.pair (.str) (.int .i64)))) (.int .i64)) ([(ldS xt xref).1, (puS xt xref xstate).1, (rpS xt xref xstate).1] : List ((List (Bs × Bs × Int)) × Int)) ([.slice a4_0 ((ldS xt xref).1.1).length c4_0, .int .i64 (ldS xt xref).1.2, .slice a6_0 ((puS xt xref xstate).1.1).length c6_0, .int .i64 (puS xt xref xstate).1.2, .slice a8_0 ((rpS xt xref xstate).1.1).length c8_0, .int .i64 (rpS xt xref xstate).1.2] : List Value) (by kernel_rfl) (by kernel_rfl) rfl (by kernel_rfl) hL17 rfl fun b17 => ?_)
     refine Ok.bat 2 [1, 2, 3, 4, 12, 14, 16, 17, 18, 19, 22] [(87, .slice (some ⟨b17, 0, none⟩) ([(ldS xt xref).1, (puS xt xref xstate).1, (rpS xt xref xstate).1] : List ((List (Bs × Bs × Int)) × Int)).length 3), (88, .int .i64 (([(ldS xt xref).1, (puS xt xref xstate).1, (rpS xt xref xstate).1] : List ((List (Bs × Bs × Int)) × Int)).length : Int)), (89, .int .i64 0)] ?_
     refine Ok.nil (Ok.frz 0 rfl hL17 fun g18 hx18 hRf18 => ?_)
     replace hRyb14_0j25 := hRyb14_0j25.mono hx18.1
     replace hR11_0 := hR11_0.mono hx18.1
     replace hR8_0 := hR8_0.mono hx18.1
     replace hR6_0 := hR6_0.mono hx18.1
     replace hR4_0 := hR4_0.mono hx18.1
     replace hR2_0 := hR2_0.mono hx18.1
     replace hRxt_0 := hRxt_0.mono hx18.1
     replace hG0 := hG0.mono hx18.1
     replace hG1 := hG1.mono hx18.1
     replace hG2 := hG2.mono hx18.1
     replace hG3 := hG3.mono hx18.1
     replace hG4 := hG4.mono hx18.1
     replace hG5 := hG5.mono hx18.1
     refine Ok.thenN (Ok.block ?_)
     obtain ⟨k, hF⟩ := hF
     refine Ok.loop (fun k a W => ∃ gl43 : Ghost, Gext w0 g18 gl43 ∧ ∃ (x89l43 : Int) (ayb14_0l43 : Option Addr) (cyb14_0l43 : Nat) (yb14_0l43 : List (Bs × Bs × Int)) (yb14_1l43 : Int), Rep gl43 (.slice (.pair (.str) (.pair (.str) (.int .i64)))) [.slice ayb14_0l43 yb14_0l43.length cyb14_0l43] yb14_0l43 ∧ StA 187 [(1, sv xref), (2, sv xstate), (3, .int .i64 xn), (4, pv b1 0), (12, .int .i64 (ldS xt xref).2), (14, .int .i64 (puS xt xref xstate).2), (16, .int .i64 (rpS xt xref xstate).2), (17, pv b12 0), (18, .bool (goS xt xn).2.1), (19, .int .i64 (goS xt xn).2.2), (22, pv b14 0), (87, .slice (some ⟨b17, 0, none⟩) ([(ldS xt xref).1, (puS xt xref xstate).1, (rpS xt xref xstate).1] : List ((List (Bs × Bs × Int)) × Int)).length 3), (88, .int .i64 (([(ldS xt xref).1, (puS xt xref xstate).1, (rpS xt xref xstate).1] : List ((List (Bs × Bs × Int)) × Int)).length : Int)), (89, .int .i64 x89l43)] a ∧ StW w0 [.blk b14 (.cells #[.slice ayb14_0l43 yb14_0l43.length cyb14_0l43, .int .i64 yb14_1l43] 24), .blk b12 (.cells ⟨vT (goS xt xn).1 a11_0 c11_0⟩ 24), .blk b1 (.cells ⟨vT xt axt_0 cxt_0⟩ 24)] gl43 W ∧ ltrl43 xt xref xstate xn K k x89l43 yb14_0l43 yb14_1l43) k ?_ ?_
     ·
      exact fun a W hA hW => ⟨g18, (Gext.refl w0 g18), 0, ayb14_0j25, cyb14_0j25, (ltrV1 xref), 0, hRyb14_0j25, hA.sub (by kernel_rfl), hW.sub (.cons_cons _ (.cons_cons _ (.cons _ (.cons _ (.cons _ (.cons _ (.cons_cons _ .slnil))))))), hF⟩
     ·
      clear hF
      rintro k43 a W ⟨gl43, hxl43, x89l43, ayb14_0l43, cyb14_0l43, yb14_0l43, yb14_1l43, hRyb14_0l43, hA, hW, hF⟩
      cases k43 with
      | zero => exact (hF : False).elim
      | succ k43 =>
       refine (?_ : Ok _ _ _ _ _ _) a W hA hW
       clear hA hW
       replace hRf18 := hRf18.mono hxl43.1
       replace hR11_0 := hR11_0.mono hxl43.1
       replace hRxt_0 := hRxt_0.mono hxl43.1
       replace hG0 := hG0.mono hxl43.1
       replace hG1 := hG1.mono hxl43.1
       replace hG2 := hG2.mono hxl43.1
       replace hG3 := hG3.mono hxl43.1
       replace hG4 := hG4.mono hxl43.1
       replace hG5 := hG5.mono hxl43.1
       refine Ok.seq (Ok.region (Ok.bat 1 [1, 2, 3, 4, 12, 14, 16, 17, 18, 19, 22, 87, 88, 89] [(90, .bool (decide (x89l43 < (([(ldS xt xref).1, (puS xt xref xstate).1, (rpS xt xref xstate).1] : List ((List (Bs × Bs × Int)) × Int)).length : Int))))] ?_))
       refine Ok.nil (Ok.thenN (Ok.seq (Ok.cond (b := decide (x89l43 < (([(ldS xt xref).1, (puS xt xref xstate).1, (rpS xt xref xstate).1] : List ((List (Bs × Bs × Int)) × Int)).length : Int))) rfl (fun hc19 => ?_) (fun hc19 => ?_))))
       ·replace hF := hF.1 hc19
        refine Ok.skip (Ok.thenN (Ok.seq (Ok.block (Ok.seq (Ok.region (Ok.bat 1 [1, 2, 3, 4, 12, 14, 16, 17, 18, 19, 22, 87, 88, 89] [(91, .int .i64 x89l43)] ?_))))))
        obtain ⟨h021, h121, hF⟩ := hF
        have he21 := get_of (l := ([(ldS xt xref).1, (puS xt xref xstate).1, (rpS xt xref xstate).1] : List ((List (Bs × Bs × Int)) × Int))) (default : (List (Bs × Bs × Int)) × Int) h121
        generalize hg21 : (([(ldS xt xref).1, (puS xt xref xstate).1, (rpS xt xref xstate).1] : List ((List (Bs × Bs × Int)) × Int)).getD (Int.toNat x89l43) default) = e21 at he21 hF ⊢
        refine Ok.op rfl (OpOk.indexRo (e := .pair (.slice (.pair (.str) (.pair (.str) (.int .i64)))) (.int .i64)) (i := x89l43) (el := e21) rfl rfl Tryz.underlying38 (by kernel_rfl) hRf18 h021 he21 rfl fun q20 o20 cs20 _ hat20 hr20 => ?_)
        obtain ⟨_, _, rfl, ⟨a20_0, c20_0, rfl, hm20_0, hr20_0⟩, rfl⟩ := hr20
        have hR20_0 : Rep gl43 (.slice (.pair (.str) (.pair (.str) (.int .i64)))) [.slice a20_0 e21.1.length c20_0] e21.1 := ⟨a20_0, c20_0, rfl, hm20_0, hr20_0⟩
        replace hat20 : At gl43 q20 o20 (vT e21 a20_0 c20_0) := hat20
        refine Ok.op rfl (OpOk.step (v := .agg ⟨vT e21 a20_0 c20_0⟩) (Yields.loadAggRo 0 2 ⟨vT e21 a20_0 c20_0⟩ hat20 (by kernel_rfl) Tryz.underlying24 rfl (by kernel_rfl) (by kernel_rfl) (by kernel_rfl)) rfl rfl (Ok.op rfl (OpOk.alloc (z := .agg #[.slice none 0 0, .int .i64 0]) (cs := #[.slice none 0 0, .int .i64 0]) (by kernel_rfl) (by kernel_rfl) rfl fun b22 => ?_)))
        refine Ok.bat 1 [1, 2, 3, 4, 12, 14, 16, 17, 18, 19, 22, 87, 88, 89] [(23, .int .i64 x89l43), (24, pv b22 0), (93, .agg ⟨vT e21 a20_0 c20_0⟩)] ?_
        refine Ok.op rfl (OpOk.sto (k := 2) (v := .agg ⟨vT e21 a20_0 c20_0⟩) 0 ⟨vT e21 a20_0 c20_0⟩ rfl rfl rfl ?_)
        refine Ok.nil (Ok.thenN (Ok.seq (Ok.region (Ok.op rfl (OpOk.step (v := .agg ⟨vT xt axt_0 cxt_0⟩) (Yields.loadAgg 3 2 ⟨vT xt axt_0 cxt_0⟩ rfl rfl Tryz.underlying24 rfl (by kernel_rfl) (by kernel_rfl) (by kernel_rfl)) rfl rfl (Ok.bat 4 [1, 2, 3, 4, 12, 14, 16, 17, 18, 19, 22, 23, 24, 87, 88, 89] [(95, .agg ⟨vT xt axt_0 cxt_0⟩), (97, .int .i64 (w6 (x89l43 + 1))), (98, sv xref), (99, sv xstate)] ?_))))))
        obtain ⟨hp23, hF⟩ := hF
        refine Ok.op rfl (OpOk.callH [] _ enr rfl (rgn_c xt (w6 (x89l43 + 1)) xref xstate hRxt_0 hG0 hG1 hp23) rfl fun g24 _ _ hx24 hV24 => ?_)
        obtain ⟨a24_0, c24_0, rfl, hR24_0, rfl⟩ := hV24
        replace hRf18 := hRf18.mono hx24.1
        replace hRxt_0 := hRxt_0.mono hx24.1
        replace hR20_0 := hR20_0.mono hx24.1
        replace hRyb14_0l43 := hRyb14_0l43.mono hx24.1
        replace hR11_0 := hR11_0.mono hx24.1
        replace hG0 := hG0.mono hx24.1
        replace hG1 := hG1.mono hx24.1
        replace hG2 := hG2.mono hx24.1
        replace hG3 := hG3.mono hx24.1
        replace hG4 := hG4.mono hx24.1
        replace hG5 := hG5.mono hx24.1
        refine Ok.bat 3 [1, 2, 3, 4, 12, 14, 16, 17, 18, 19, 22, 23, 24, 87, 88, 89] [(101, .agg ⟨vT (gonS xt (w6 (x89l43 + 1)) xref xstate).1 a24_0 c24_0⟩), (102, .int .i64 (gonS xt (w6 (x89l43 + 1)) xref xstate).2)] ?_
        refine Ok.op rfl (OpOk.sto (k := 2) (v := .agg ⟨vT (gonS xt (w6 (x89l43 + 1)) xref xstate).1 a24_0 c24_0⟩) 1 ⟨vT (gonS xt (w6 (x89l43 + 1)) xref xstate).1 a24_0 c24_0⟩ rfl rfl rfl ?_)
        refine Ok.bat 1 [1, 2, 3, 4, 12, 14, 16, 17, 18, 19, 22, 23, 24, 87, 88, 89] [(21, .int .i64 (gonS xt (w6 (x89l43 + 1)) xref xstate).2)] ?_
        refine Ok.nil (Ok.thenN (Ok.cut (fun a W => ∃ gj56 : Ghost, Gext w0 g24 gj56 ∧ StA 187 [(1, sv xref), (2, sv xstate), (3, .int .i64 xn), (4, pv b1 0), (12, .int .i64 (ldS xt xref).2), (14, .int .i64 (puS xt xref xstate).2), (16, .int .i64 (rpS xt xref xstate).2), (17, pv b12 0), (18, .bool (goS xt xn).2.1), (19, .int .i64 (goS xt xn).2.2), (22, pv b14 0), (87, .slice (some ⟨b17, 0, none⟩) ([(ldS xt xref).1, (puS xt xref xstate).1, (rpS xt xref xstate).1] : List ((List (Bs × Bs × Int)) × Int)).length 3), (88, .int .i64 (([(ldS xt xref).1, (puS xt xref xstate).1, (rpS xt xref xstate).1] : List ((List (Bs × Bs × Int)) × Int)).length : Int)), (89, .int .i64 x89l43), (117, .bool (ltrV3 xt xref xstate e21 x89l43))] a ∧ StW w0 [.blk b14 (.cells ⟨vT (gonS xt (w6 (x89l43 + 1)) xref xstate).1 a24_0 c24_0⟩ 24), .blk b12 (.cells ⟨vT (goS xt xn).1 a11_0 c11_0⟩ 24), .blk b1 (.cells ⟨vT xt axt_0 cxt_0⟩ 24)] gj56 W ∧ ltrj56 xt xref xstate K e21 x89l43 (ltrl43 xt xref xstate xn K k43)) ?_ ?_))
        ·
         refine Ok.region (Ok.op rfl (OpOk.step (v := .agg ⟨vT e21 a20_0 c20_0⟩) (Yields.loadAgg 0 2 ⟨vT e21 a20_0 c20_0⟩ rfl rfl Tryz.underlying24 rfl (by kernel_rfl) (by kernel_rfl) (by kernel_rfl)) rfl rfl (Ok.op rfl (OpOk.step (v := .agg ⟨vT (gonS xt (w6 (x89l43 + 1)) xref xstate).1 a24_0 c24_0⟩) (Yields.loadAgg 1 2 ⟨vT (gonS xt (w6 (x89l43 + 1)) xref xstate).1 a24_0 c24_0⟩ rfl rfl Tryz.underlying24 rfl (by kernel_rfl) (by kernel_rfl) (by kernel_rfl)) rfl rfl ?_))))
         obtain ⟨hp26, hF⟩ := hF
         refine Ok.op rfl (OpOk.callG (v := .bool (ltrV6 xt xref xstate e21 x89l43)) enr (fun W hW => rst_c e21 (gonS xt (w6 (x89l43 + 1)) xref xstate).1 (hR20_0.mono hW.sees) (hR24_0.mono hW.sees) hp26) rfl ?_)
         refine Ok.bat 2 [1, 2, 3, 4, 12, 14, 16, 17, 18, 19, 21, 22, 23, 87, 88, 89] [(107, .bool (!(ltrV6 xt xref xstate e21 x89l43)))] ?_
         refine Ok.boolAt 107 (!(ltrV6 xt xref xstate e21 x89l43)) rfl (fun hc27 => ?_) (fun hc27 => ?_)
         ·replace hF := hF.1 hc27
          refine Ok.bat 10 [1, 2, 3, 4, 12, 14, 16, 17, 18, 19, 22, 87, 88, 89] [(117, .bool true)] ?_
          refine Ok.nil (Ok.thenN (Ok.reval 117 rfl (show (.bool true : Value) = .bool (ltrV3 xt xref xstate e21 x89l43) from congrArg (Value.bool) (mor_t hc27)) ?_))
          exact fun a W hA hW => ⟨g24, (Gext.refl w0 g24), hA.sub (by kernel_rfl), hW.sub (.cons _ (.cons_cons _ (.cons_cons _ (.cons_cons _ .slnil)))), hF⟩
         ·replace hF := hF.2 hc27
          refine Ok.bat 3 [1, 2, 3, 4, 12, 14, 16, 17, 18, 19, 21, 22, 23, 87, 88, 89] [(107, .bool false), (108, .int .i64 (ldS xt xref).2), (109, .int .i64 (puS xt xref xstate).2), (110, .int .i64 (rpS xt xref xstate).2)] ?_
          have hL28 : RepL g24 (.int .i64) ([.int .i64 (ldS xt xref).2, .int .i64 (puS xt xref xstate).2, .int .i64 (rpS xt xref xstate).2] : List Value) ([(ldS xt xref).2, (puS xt xref xstate).2, (rpS xt xref xstate).2] : List (Int)) := (RepL.consN (c := [.int .i64 (ldS xt xref).2]) rfl (RepL.consN (c := [.int .i64 (puS xt xref xstate).2]) rfl (RepL.consN (c := [.int .i64 (rpS xt xref xstate).2]) rfl rfl)))
          refine Ok.opYes (j := 4) (d := 107) (want := false) (b := false) rfl (by kernel_rfl) (by kernel_rfl) rfl (OpOk.lit (E := 25) (.int .i64) ([(ldS xt xref).2, (puS xt xref xstate).2, (rpS xt xref xstate).2] : List (Int)) ([.int .i64 (ldS xt xref).2, .int .i64 (puS xt xref xstate).2, .int .i64 (rpS xt xref xstate).2] : List Value) (by kernel_rfl) (by kernel_rfl) rfl (by kernel_rfl) hL28 rfl fun b28 => ?_)
          refine Ok.bat 1 [1, 2, 3, 4, 12, 14, 16, 17, 18, 19, 21, 22, 87, 88, 89, 107] [(111, .slice (some ⟨b28, 0, none⟩) ([(ldS xt xref).2, (puS xt xref xstate).2, (rpS xt xref xstate).2] : List (Int)).length 3), (112, .int .i64 x89l43)] ?_
          obtain ⟨h030, h130, hF⟩ := hF
          have he30 := get_of (l := ([(ldS xt xref).2, (puS xt xref xstate).2, (rpS xt xref xstate).2] : List (Int))) (default : Int) h130
          generalize hg30 : (([(ldS xt xref).2, (puS xt xref xstate).2, (rpS xt xref xstate).2] : List (Int)).getD (Int.toNat x89l43) default) = e30 at he30 hF ⊢
          refine Ok.opYes (j := 4) (d := 107) (want := false) (b := false) rfl (by kernel_rfl) (by kernel_rfl) rfl (OpOk.indexOwn (e := .int .i64) (q := x89l43) (el := e30) 0 rfl hL28 rfl rfl Tryz.underlying40 (by kernel_rfl) (by kernel_rfl) h030 he30 rfl fun cs29 _ hr29 hc29 => ?_)
          obtain rfl := hr29
          replace hc29 : ∀ j v, ([.int .i64 e30] : List Value)[j]? = some v → ([.int .i64 (ldS xt xref).2, .int .i64 (puS xt xref xstate).2, .int .i64 (rpS xt xref xstate).2] : List Value)[Int.toNat x89l43 * 1 + j]? = some v := hc29
          refine Ok.opYes (j := 4) (d := 107) (want := false) (b := false) rfl (by kernel_rfl) (by kernel_rfl) rfl (OpOk.step (v := .int .i64 e30) (Yields.loadOwn 0 0 rfl hc29 rfl Tryz.underlying25 rfl (by kernel_rfl)) rfl rfl (Ok.bat 3 [1, 2, 3, 4, 12, 14, 16, 17, 18, 19, 22, 87, 88, 89] [(117, .bool (e30 != (gonS xt (w6 (x89l43 + 1)) xref xstate).2))] ?_))
          refine Ok.nil (Ok.thenN ?_)
          subst hg30
          refine Ok.reval 117 rfl (show (.bool ((([(ldS xt xref).2, (puS xt xref xstate).2, (rpS xt xref xstate).2] : List (Int)).getD (Int.toNat x89l43) default) != (gonS xt (w6 (x89l43 + 1)) xref xstate).2) : Value) = .bool (ltrV3 xt xref xstate e21 x89l43) from congrArg (Value.bool) (mor_f hc27)) ?_
          exact fun a W hA hW => ⟨g24, (Gext.refl w0 g24), hA.sub (by kernel_rfl), hW.sub (.cons _ (.cons _ (.cons_cons _ (.cons_cons _ (.cons_cons _ .slnil))))), hF⟩
        ·
         clear hF
         rintro a W ⟨gj56, hxj56, hA, hW, hF⟩
         refine (?_ : Ok _ _ _ _ _ _) a W hA hW
         clear hA hW
         replace hRf18 := hRf18.mono hxj56.1
         replace hR24_0 := hR24_0.mono hxj56.1
         replace hR11_0 := hR11_0.mono hxj56.1
         replace hRxt_0 := hRxt_0.mono hxj56.1
         replace hG0 := hG0.mono hxj56.1
         replace hG1 := hG1.mono hxj56.1
         replace hG2 := hG2.mono hxj56.1
         replace hG3 := hG3.mono hxj56.1
         replace hG4 := hG4.mono hxj56.1
         replace hG5 := hG5.mono hxj56.1
         refine Ok.cond (b := (ltrV3 xt xref xstate e21 x89l43)) rfl (fun hc25 => ?_) (fun hc25 => ?_)
         ·replace hF := hF.1 hc25
          refine Ok.seq (Ok.region (Ok.batch 1 [(8, .bool false)] (by kernel_rfl) (Ok.nil (Ok.thenN (Ok.ret (Ok.blockR (Ok.thenR (Ok.thenR (Ok.blockR (Ok.thenR ?_))))))))))
          exact Ok.resP (vs := [.bool false]) [] [] (by decide) rfl (.inl rfl) rfl (.cons (.tmp rfl) .nil) ((((((((((hx2.trans hx4).trans hx6).trans hx8).trans hx11).trans hxj16).trans hxj25).trans hx18).trans hxl43).trans hx24).trans hxj56) ⟨false, rfl, rfl, hF⟩
         ·replace hF := hF.2 hc25
          refine Ok.skip (Ok.blockN (Ok.thenN (Ok.region (Ok.bat 2 [1, 2, 3, 4, 12, 14, 16, 17, 18, 19, 22, 87, 88] [(89, .int .i64 (w6 (x89l43 + 1)))] ?_))))
          refine Ok.nil (Ok.thenN ?_)
          subst hg21
          exact fun a W hA hW => ⟨k43, Nat.lt_succ_self _, gj56, ((hxl43.trans hx24).trans hxj56), w6 (x89l43 + 1), a24_0, c24_0, (gonS xt (w6 (x89l43 + 1)) xref xstate).1.1, (gonS xt (w6 (x89l43 + 1)) xref xstate).1.2, hR24_0, hA.sub (by kernel_rfl), hW, hF⟩
       ·replace hF := hF.2 hc19
        refine Ok.exit (Ok.thenE (Ok.thenE (Ok.blockHit (Ok.thenN (Ok.seq (Ok.region (Ok.op rfl (OpOk.step (v := .agg ⟨vT xt axt_0 cxt_0⟩) (Yields.loadAgg 2 2 ⟨vT xt axt_0 cxt_0⟩ rfl rfl Tryz.underlying24 rfl (by kernel_rfl) (by kernel_rfl) (by kernel_rfl)) rfl rfl ?_))))))))
        obtain ⟨hp31, hF⟩ := hF
        refine Ok.op rfl (OpOk.callG (v := .int .i64 (chkT xt)) enr (fun W hW => rtr_c xt (hRxt_0.mono hW.sees) (hG0.mono hW.sees) (hG1.mono hW.sees) hp31) rfl ?_)
        refine Ok.bat 1 [3, 4, 17, 18, 19, 22] [(21, .int .i64 (chkT xt))] ?_
        refine Ok.nil (Ok.thenN (Ok.cut (fun a W => ∃ gj66 : Ghost, Gext w0 gl43 gj66 ∧ StA 187 [(3, .int .i64 xn), (4, pv b1 0), (17, pv b12 0), (18, .bool (goS xt xn).2.1), (19, .int .i64 (goS xt xn).2.2), (21, .int .i64 (if (ltrV4 xt xn) = true then 5 else (chkT xt))), (22, pv b14 0)] a ∧ StW w0 [.blk b14 (.cells #[.slice ayb14_0l43 yb14_0l43.length cyb14_0l43, .int .i64 yb14_1l43] 24), .blk b12 (.cells ⟨vT (goS xt xn).1 a11_0 c11_0⟩ 24), .blk b1 (.cells ⟨vT xt axt_0 cxt_0⟩ 24)] gj66 W ∧ ltrj66 xt xn K) ?_ ?_))
        ·
         refine Ok.cut (fun a W => ∃ gj67 : Ghost, Gext w0 gl43 gj67 ∧ StA 187 [(3, .int .i64 xn), (4, pv b1 0), (17, pv b12 0), (18, .bool (goS xt xn).2.1), (19, .int .i64 (goS xt xn).2.2), (21, .int .i64 (chkT xt)), (22, pv b14 0), (137, .bool (ltrV4 xt xn))] a ∧ StW w0 [.blk b14 (.cells #[.slice ayb14_0l43 yb14_0l43.length cyb14_0l43, .int .i64 yb14_1l43] 24), .blk b12 (.cells ⟨vT (goS xt xn).1 a11_0 c11_0⟩ 24), .blk b1 (.cells ⟨vT xt axt_0 cxt_0⟩ 24)] gj67 W ∧ ltrj67 xt xn K) ?_ ?_
         ·
          refine Ok.region (Ok.bat 3 [3, 4, 17, 18, 19, 21, 22] [(123, .bool ((chkT xt) == 0))] ?_)
          refine Ok.boolAt 123 (((chkT xt) == 0)) rfl (fun hc46 => ?_) (fun hc46 => ?_)
          ·replace hF := hF.1 hc46
           refine Ok.bat 2 [3, 4, 17, 18, 19, 21, 22] [(123, .bool true), (124, .int .i64 xn), (125, pv b1 1)] ?_
           refine Ok.opYes (j := 2) (d := 123) (want := true) (b := true) rfl (by kernel_rfl) (by kernel_rfl) rfl (OpOk.step (v := .int .i64 xt.2) (Yields.load 2 rfl rfl Tryz.underlying3 rfl (by kernel_rfl)) rfl rfl (Ok.bat 2 [3, 4, 17, 18, 19, 21, 22, 123, 124] [(127, .int .i64 (w6 (0 - xt.2))), (128, pv b1 0)] ?_))
           refine Ok.opYes (j := 2) (d := 123) (want := true) (b := true) rfl (by kernel_rfl) (by kernel_rfl) rfl (OpOk.step (v := .slice axt_0 xt.1.length cxt_0) (Yields.load 2 rfl rfl Tryz.underlying22 rfl (by kernel_rfl)) rfl rfl (Ok.bat 3 [3, 4, 17, 18, 19, 21, 22, 123, 124, 127] [(131, .int .i64 (w6 ((xt.1.length : Int) - 1))), (132, pv b1 1)] ?_))
           refine Ok.opYes (j := 2) (d := 123) (want := true) (b := true) rfl (by kernel_rfl) (by kernel_rfl) rfl (OpOk.step (v := .int .i64 xt.2) (Yields.load 2 rfl rfl Tryz.underlying3 rfl (by kernel_rfl)) rfl rfl (Ok.bat 1 [3, 4, 17, 18, 19, 21, 22, 123, 124, 127] [(134, .int .i64 (w6 ((w6 ((xt.1.length : Int) - 1)) - xt.2)))] ?_))
           refine Ok.opYes (j := 2) (d := 123) (want := true) (b := true) rfl (by kernel_rfl) (by kernel_rfl) rfl (OpOk.callG (v := .bool (ltrV8 xt xn)) enr (fun W hW => rbet_c xn (w6 (0 - xt.2)) (w6 ((w6 ((xt.1.length : Int) - 1)) - xt.2))) rfl ?_)
           refine Ok.bat 2 [3, 4, 17, 18, 19, 21, 22] [(137, .bool (!(ltrV8 xt xn)))] ?_
           refine Ok.nil (Ok.thenN (Ok.reval 137 rfl (show (.bool (!(ltrV8 xt xn)) : Value) = .bool (ltrV4 xt xn) from congrArg (Value.bool) (mand_t hc46)) ?_))
           exact fun a W hA hW => ⟨gl43, (Gext.refl w0 gl43), hA.sub (by kernel_rfl), hW, hF⟩
          ·replace hF := hF.2 hc46
           refine Ok.bat 14 [3, 4, 17, 18, 19, 21, 22] [(137, .bool false)] ?_
           refine Ok.nil (Ok.thenN (Ok.reval 137 rfl (show (.bool false : Value) = .bool (ltrV4 xt xn) from congrArg (Value.bool) (mand_f hc46)) ?_))
           exact fun a W hA hW => ⟨gl43, (Gext.refl w0 gl43), hA.sub (by kernel_rfl), hW, hF⟩
         ·
          clear hF
          rintro a W ⟨gj67, hxj67, hA, hW, hF⟩
          refine (?_ : Ok _ _ _ _ _ _) a W hA hW
          clear hA hW
          replace hRyb14_0l43 := hRyb14_0l43.mono hxj67.1
          replace hR11_0 := hR11_0.mono hxj67.1
          replace hRxt_0 := hRxt_0.mono hxj67.1
          replace hG0 := hG0.mono hxj67.1
          replace hG1 := hG1.mono hxj67.1
          replace hG2 := hG2.mono hxj67.1
          replace hG3 := hG3.mono hxj67.1
          replace hG4 := hG4.mono hxj67.1
          replace hG5 := hG5.mono hxj67.1
          refine Ok.cond (b := (ltrV4 xt xn)) rfl (fun hc45 => ?_) (fun hc45 => ?_)
          ·replace hF := hF.1 hc45
           refine Ok.region (Ok.bat 1 [3, 4, 17, 18, 19, 22] [(21, .int .i64 5)] ?_)
           refine Ok.nil (Ok.thenN (Ok.reval 21 rfl (show (.int .i64 5 : Value) = .int .i64 (if (ltrV4 xt xn) = true then 5 else (chkT xt)) from congrArg (Value.int .i64) ((if_t hc45).symm)) ?_))
           exact fun a W hA hW => ⟨gj67, hxj67, hA.sub (by kernel_rfl), hW, hF⟩
          ·replace hF := hF.2 hc45
           refine Ok.skip (Ok.thenN (Ok.reval 21 rfl (show (.int .i64 (chkT xt) : Value) = .int .i64 (if (ltrV4 xt xn) = true then 5 else (chkT xt)) from congrArg (Value.int .i64) ((if_f hc45).symm)) ?_))
           exact fun a W hA hW => ⟨gj67, hxj67, hA.sub (by kernel_rfl), hW, hF⟩
        ·
         clear hF
         rintro a W ⟨gj66, hxj66, hA, hW, hF⟩
         refine (?_ : Ok _ _ _ _ _ _) a W hA hW
         clear hA hW
         replace hRyb14_0l43 := hRyb14_0l43.mono hxj66.1
         replace hR11_0 := hR11_0.mono hxj66.1
         replace hRxt_0 := hRxt_0.mono hxj66.1
         replace hG0 := hG0.mono hxj66.1
         replace hG1 := hG1.mono hxj66.1
         replace hG2 := hG2.mono hxj66.1
         replace hG3 := hG3.mono hxj66.1
         replace hG4 := hG4.mono hxj66.1
         replace hG5 := hG5.mono hxj66.1
         refine Ok.seq (Ok.seq (Ok.region (Ok.bat 2 [3, 4, 17, 18, 19, 21, 22] [(139, .bool ((if (ltrV4 xt xn) = true then 5 else (chkT xt)) != 0))] ?_)))
         refine Ok.nil (Ok.thenN (Ok.cond (b := ((if (ltrV4 xt xn) = true then 5 else (chkT xt)) != 0)) rfl (fun hc32 => ?_) (fun hc32 => ?_)))
         ·replace hF := hF.1 hc32
          refine Ok.seq (Ok.region (Ok.op rfl (OpOk.step (v := .agg ⟨vT (goS xt xn).1 a11_0 c11_0⟩) (Yields.loadAgg 1 2 ⟨vT (goS xt xn).1 a11_0 c11_0⟩ rfl rfl Tryz.underlying24 rfl (by kernel_rfl) (by kernel_rfl) (by kernel_rfl)) rfl rfl (Ok.bat 1 [18, 19, 21] [(140, .agg ⟨vT (goS xt xn).1 a11_0 c11_0⟩), (141, .agg #[.slice none 0 0, .int .i64 0])] ?_))))
          obtain ⟨hp33, hF⟩ := hF
          refine Ok.op rfl (OpOk.callG (v := .bool (smtS (goS xt xn).1 ([], 0))) enr (fun W hW => rst_c (goS xt xn).1 ([], 0) (hR11_0.mono hW.sees) Rep.nil hp33) rfl ?_)
          refine Ok.bat 1 [18, 19, 21] [(143, .bool (smtS (goS xt xn).1 ([], 0)))] ?_
          refine Ok.midway 3 [(19, .int .i64 (goS xt xn).2.2), (21, .int .i64 (if (ltrV4 xt xn) = true then 5 else (chkT xt))), (146, .bool ((smtS (goS xt xn).1 ([], 0)) && (!((goS xt xn).2.1))))] (fun hR34 => ?_) ?_
          ·refine Ok.boolAt 143 ((smtS (goS xt xn).1 ([], 0))) rfl (fun hc35 => ?_) (fun hc35 => ?_)
           ·skip
            refine Ok.bat 3 [19, 21] [(146, .bool (!((goS xt xn).2.1)))] ?_
            refine Ok.reval 146 rfl (show (.bool (!((goS xt xn).2.1)) : Value) = .bool ((smtS (goS xt xn).1 ([], 0)) && (!((goS xt xn).2.1))) from congrArg Value.bool (mand_t hc35)) (Ok.bat 0 [19, 21] [(146, .bool ((smtS (goS xt xn).1 ([], 0)) && (!((goS xt xn).2.1))))] ?_)
            exact hR34
           ·skip
            refine Ok.bat 3 [19, 21] [(146, .bool false)] ?_
            refine Ok.reval 146 rfl (show (.bool false : Value) = .bool ((smtS (goS xt xn).1 ([], 0)) && (!((goS xt xn).2.1))) from congrArg Value.bool (mand_f hc35)) (Ok.bat 0 [19, 21] [(146, .bool ((smtS (goS xt xn).1 ([], 0)) && (!((goS xt xn).2.1))))] ?_)
            exact hR34
          refine Ok.bat 1 [19, 21] [(147, .bool ((smtS (goS xt xn).1 ([], 0)) && (!((goS xt xn).2.1))))] ?_
          refine Ok.midway 4 [(151, .bool (((smtS (goS xt xn).1 ([], 0)) && (!((goS xt xn).2.1))) && ((goS xt xn).2.2 == (if (ltrV4 xt xn) = true then 5 else (chkT xt)))))] (fun hR36 => ?_) ?_
          ·refine Ok.boolAt 147 (((smtS (goS xt xn).1 ([], 0)) && (!((goS xt xn).2.1)))) rfl (fun hc37 => ?_) (fun hc37 => ?_)
           ·skip
            refine Ok.batch 4 [(151, .bool ((goS xt xn).2.2 == (if (ltrV4 xt xn) = true then 5 else (chkT xt))))] (by kernel_rfl) (Ok.reval 151 rfl (show (.bool ((goS xt xn).2.2 == (if (ltrV4 xt xn) = true then 5 else (chkT xt))) : Value) = .bool (((smtS (goS xt xn).1 ([], 0)) && (!((goS xt xn).2.1))) && ((goS xt xn).2.2 == (if (ltrV4 xt xn) = true then 5 else (chkT xt)))) from congrArg Value.bool (mand_t hc37)) (Ok.batch 0 [(151, .bool (((smtS (goS xt xn).1 ([], 0)) && (!((goS xt xn).2.1))) && ((goS xt xn).2.2 == (if (ltrV4 xt xn) = true then 5 else (chkT xt)))))] (by kernel_rfl) ?_))
            exact hR36
           ·skip
            refine Ok.batch 4 [(151, .bool false)] (by kernel_rfl) (Ok.reval 151 rfl (show (.bool false : Value) = .bool (((smtS (goS xt xn).1 ([], 0)) && (!((goS xt xn).2.1))) && ((goS xt xn).2.2 == (if (ltrV4 xt xn) = true then 5 else (chkT xt)))) from congrArg Value.bool (mand_f hc37)) (Ok.batch 0 [(151, .bool (((smtS (goS xt xn).1 ([], 0)) && (!((goS xt xn).2.1))) && ((goS xt xn).2.2 == (if (ltrV4 xt xn) = true then 5 else (chkT xt)))))] (by kernel_rfl) ?_))
            exact hR36
          refine Ok.batch 1 [(8, .bool (((smtS (goS xt xn).1 ([], 0)) && (!((goS xt xn).2.1))) && ((goS xt xn).2.2 == (if (ltrV4 xt xn) = true then 5 else (chkT xt)))))] (by kernel_rfl) (Ok.nil (Ok.thenN (Ok.ret (Ok.thenR ?_))))
          exact Ok.resP (vs := [.bool (((smtS (goS xt xn).1 ([], 0)) && (!((goS xt xn).2.1))) && ((goS xt xn).2.2 == (if (ltrV4 xt xn) = true then 5 else (chkT xt))))]) [] [] (by decide) rfl (.inl rfl) rfl (.cons (.tmp rfl) .nil) (((((((((hx2.trans hx4).trans hx6).trans hx8).trans hx11).trans hxj16).trans hxj25).trans hx18).trans hxl43).trans hxj66) ⟨(((smtS (goS xt xn).1 ([], 0)) && (!((goS xt xn).2.1))) && ((goS xt xn).2.2 == (if (ltrV4 xt xn) = true then 5 else (chkT xt)))), rfl, rfl, hF⟩
         ·replace hF := hF.2 hc32
          refine Ok.skip (Ok.thenN (Ok.seq (Ok.region (Ok.bat 1 [3, 4, 17, 18, 19, 22] [(152, pv b1 0)] ?_))))
          refine Ok.op rfl (OpOk.step (v := .slice axt_0 xt.1.length cxt_0) (Yields.load 2 rfl rfl Tryz.underlying22 rfl (by kernel_rfl)) rfl rfl (Ok.bat 1 [3, 4, 17, 18, 19, 22] [(153, .slice axt_0 xt.1.length cxt_0), (154, pv b1 1)] ?_))
          refine Ok.op rfl (OpOk.step (v := .int .i64 xt.2) (Yields.load 2 rfl rfl Tryz.underlying3 rfl (by kernel_rfl)) rfl rfl (Ok.bat 3 [3, 4, 17, 18, 19, 22] [(158, .agg #[.slice axt_0 xt.1.length cxt_0, .int .i64 (w6 (xt.2 + xn))])] ?_))
          refine Ok.op rfl (OpOk.sto (k := 2) (v := .agg #[.slice axt_0 xt.1.length cxt_0, .int .i64 (w6 (xt.2 + xn))]) 0 #[.slice axt_0 xt.1.length cxt_0, .int .i64 (w6 (xt.2 + xn))] rfl rfl rfl ?_)
          refine Ok.nil (Ok.thenN (Ok.cut (fun a W => ∃ gj82 : Ghost, Gext w0 gj66 gj82 ∧ StA 187 [(8, .bool (ltrV5 xt xn))] a ∧ StW w0 [] gj82 W ∧ ltrj82 xt xn K) ?_ ?_))
          ·
           refine Ok.quiet' (by kernel_rfl) (by kernel_rfl) (OkQ.op rfl (OpQ.step (v := .agg ⟨vT (goS xt xn).1 a11_0 c11_0⟩) (Yields.loadAgg 1 2 ⟨vT (goS xt xn).1 a11_0 c11_0⟩ rfl rfl Tryz.underlying24 rfl (by kernel_rfl) (by kernel_rfl) (by kernel_rfl)) rfl rfl (OkQ.op rfl (OpQ.step (v := .agg #[.slice axt_0 xt.1.length cxt_0, .int .i64 (w6 (xt.2 + xn))]) (Yields.loadAgg 0 2 #[.slice axt_0 xt.1.length cxt_0, .int .i64 (w6 (xt.2 + xn))] rfl rfl Tryz.underlying24 rfl (by kernel_rfl) (by kernel_rfl) (by kernel_rfl)) rfl rfl ?_))))
           obtain ⟨hp38, hF⟩ := hF
           refine OkQ.op rfl (OpQ.callG (v := .bool (ltrV7 xt xn)) enr (fun W hW => rst_c (goS xt xn).1 (xt.1, w6 (xt.2 + xn)) (hR11_0.mono hW.sees) (hRxt_0.mono hW.sees) hp38) rfl ?_)
           refine OkQ.bat 1 [3, 4, 18, 19] [(162, .bool (ltrV7 xt xn))] ?_
           refine OkQ.boolAt 162 ((ltrV7 xt xn)) rfl (fun hc39 => ?_) (fun hc39 => ?_)
           ·replace hF := hF.1 hc39
            refine OkQ.bat 2 [3, 4, 19] [(162, .bool true), (163, .bool (goS xt xn).2.1), (164, pv b1 0)] ?_
            refine OkQ.opYes (j := 3) (d := 162) (want := true) (b := true) rfl (by kernel_rfl) (by kernel_rfl) rfl (OpQ.step (v := .slice axt_0 xt.1.length cxt_0) (Yields.load 2 rfl rfl Tryz.underlying22 rfl (by kernel_rfl)) rfl rfl (OkQ.bat 1 [3, 4, 19, 162, 163] [(165, .slice axt_0 xt.1.length cxt_0), (166, pv b1 1)] ?_))
            refine OkQ.opYes (j := 3) (d := 162) (want := true) (b := true) rfl (by kernel_rfl) (by kernel_rfl) rfl (OpQ.step (v := .int .i64 xt.2) (Yields.load 2 rfl rfl Tryz.underlying3 rfl (by kernel_rfl)) rfl rfl (OkQ.bat 2 [4, 19, 162, 163, 165] [(169, .int .i64 (w6 (xt.2 + xn)))] ?_))
            obtain ⟨h041, h141, hF⟩ := hF
            have he41 := get_of (l := xt.1) (default : Bs × Bs × Int) h141
            generalize hg41 : (xt.1.getD (Int.toNat (w6 (xt.2 + xn))) default) = e41 at he41 hF ⊢
            refine OkQ.opYes (j := 3) (d := 162) (want := true) (b := true) rfl (by kernel_rfl) (by kernel_rfl) rfl (OpQ.indexRo (e := .pair (.str) (.pair (.str) (.int .i64))) (i := w6 (xt.2 + xn)) (el := e41) rfl rfl Tryz.underlying22 (by kernel_rfl) hRxt_0 h041 he41 rfl fun q40 o40 cs40 _ hat40 hr40 => ?_)
            obtain ⟨_, _, rfl, rfl, ⟨_, _, rfl, rfl, rfl⟩⟩ := hr40
            replace hat40 : At gj66 q40 o40 (vE e41) := hat40
            refine OkQ.bat 1 [4, 19, 162, 163] [(171, .pointer (some ⟨q40, o40 + 2, none⟩))] ?_
            refine OkQ.opYes (j := 3) (d := 162) (want := true) (b := true) rfl (by kernel_rfl) (by kernel_rfl) rfl (OpQ.step (v := .int .i64 e41.2.2) (Yields.loadRo 2 hat40 (by kernel_rfl) Tryz.underlying3 rfl (by kernel_rfl)) rfl rfl (OkQ.bat 1 [4, 19, 162, 163] [(172, .int .i64 e41.2.2), (173, pv b1 0)] ?_))
            refine OkQ.opYes (j := 3) (d := 162) (want := true) (b := true) rfl (by kernel_rfl) (by kernel_rfl) rfl (OpQ.step (v := .slice axt_0 xt.1.length cxt_0) (Yields.load 2 rfl rfl Tryz.underlying22 rfl (by kernel_rfl)) rfl rfl (OkQ.bat 1 [19, 162, 163, 172] [(174, .slice axt_0 xt.1.length cxt_0), (175, pv b1 1)] ?_))
            refine OkQ.opYes (j := 3) (d := 162) (want := true) (b := true) rfl (by kernel_rfl) (by kernel_rfl) rfl (OpQ.step (v := .int .i64 xt.2) (Yields.load 2 rfl rfl Tryz.underlying3 rfl (by kernel_rfl)) rfl rfl ?_)
            obtain ⟨h043, h143, hF⟩ := hF
            have he43 := get_of (l := xt.1) (default : Bs × Bs × Int) h143
            generalize hg43 : (xt.1.getD (Int.toNat xt.2) default) = e43 at he43 hF ⊢
            refine OkQ.opYes (j := 3) (d := 162) (want := true) (b := true) rfl (by kernel_rfl) (by kernel_rfl) rfl (OpQ.indexRo (e := .pair (.str) (.pair (.str) (.int .i64))) (i := xt.2) (el := e43) rfl rfl Tryz.underlying22 (by kernel_rfl) hRxt_0 h043 he43 rfl fun q42 o42 cs42 _ hat42 hr42 => ?_)
            obtain ⟨_, _, rfl, rfl, ⟨_, _, rfl, rfl, rfl⟩⟩ := hr42
            replace hat42 : At gj66 q42 o42 (vE e43) := hat42
            refine OkQ.bat 1 [19, 162, 163, 172] [(178, .pointer (some ⟨q42, o42 + 2, none⟩))] ?_
            refine OkQ.opYes (j := 3) (d := 162) (want := true) (b := true) rfl (by kernel_rfl) (by kernel_rfl) rfl (OpQ.step (v := .int .i64 e43.2.2) (Yields.loadRo 2 hat42 (by kernel_rfl) Tryz.underlying3 rfl (by kernel_rfl)) rfl rfl (OkQ.bat 4 [19] [(183, .bool ((goS xt xn).2.1 == (e41.2.2 != e43.2.2)))] ?_))
            refine OkQ.boolAt 183 (((goS xt xn).2.1 == (e41.2.2 != e43.2.2))) rfl (fun hc44 => ?_) (fun hc44 => ?_)
            ·replace hF := hF.1 hc44
             refine OkQ.batch 4 [(8, .bool ((goS xt xn).2.2 == 0))] (by kernel_rfl) (OkQ.nil (Ok.thenN ?_))
             subst hg43
             subst hg41
             refine Ok.reval 8 rfl (show (.bool ((goS xt xn).2.2 == 0) : Value) = .bool (ltrV5 xt xn) from congrArg (Value.bool) ((Eq.trans (mand_t hc44) (mand_t hc39)))) ?_
             exact fun a W hA hW => ⟨gj66, (Gext.refl w0 gj66), hA.sub (by kernel_rfl), hW.sub (.cons _ (.cons _ (.cons _ .slnil))), hF⟩
            ·replace hF := hF.2 hc44
             refine OkQ.batch 4 [(8, .bool false)] (by kernel_rfl) (OkQ.nil (Ok.thenN ?_))
             subst hg43
             subst hg41
             refine Ok.reval 8 rfl (show (.bool false : Value) = .bool (ltrV5 xt xn) from congrArg (Value.bool) ((Eq.trans (mand_f hc44) (mand_t hc39)))) ?_
             exact fun a W hA hW => ⟨gj66, (Gext.refl w0 gj66), hA.sub (by kernel_rfl), hW.sub (.cons _ (.cons _ (.cons _ .slnil))), hF⟩
           ·replace hF := hF.2 hc39
            refine OkQ.batch 25 [(8, .bool false)] (by kernel_rfl) (OkQ.nil (Ok.thenN (Ok.reval 8 rfl (show (.bool false : Value) = .bool (ltrV5 xt xn) from congrArg (Value.bool) (mand_f hc39)) ?_)))
            exact fun a W hA hW => ⟨gj66, (Gext.refl w0 gj66), hA.sub (by kernel_rfl), hW.sub (.cons _ (.cons _ (.cons _ .slnil))), hF⟩
          ·
           clear hF
           rintro a W ⟨gj82, hxj82, hA, hW, hF⟩
           refine (?_ : Ok _ _ _ _ _ _) a W hA hW
           clear hA hW
           replace hG0 := hG0.mono hxj82.1
           replace hG1 := hG1.mono hxj82.1
           replace hG2 := hG2.mono hxj82.1
           replace hG3 := hG3.mono hxj82.1
           replace hG4 := hG4.mono hxj82.1
           replace hG5 := hG5.mono hxj82.1
           refine Ok.ret ?_
           exact Ok.resH (vs := [.bool (ltrV5 xt xn)]) (.inl rfl) rfl (.cons (.tmp rfl) .nil) ((((((((((hx2.trans hx4).trans hx6).trans hx8).trans hx11).trans hxj16).trans hxj25).trans hx18).trans hxl43).trans hxj66).trans hxj82) ⟨(ltrV5 xt xn), rfl, rfl, hF⟩
def ltrP (t : JTr) (r s : Bs) (n : Int) : Prop := DomS ((.pair (.slice (.pair (.str) (.pair (.str) (.int .i64)))) (.int .i64))) t ∧ r.length ≤ reachBytes ∧ s.length ≤ reachBytes ∧ Dom (.int .i64) n
theorem sta_len (r : Bs) : (staS r).1.1.length ≤ 1 := by
 rw [staS_eq]; unfold staS0
 split <;> simp
theorem beh_len {t : JTr} (e : JEn) : (behS t e).1.length ≤ t.1.length + 1 := by
 rw [behS_eq]; unfold behS0
 show (wbhV0 t e).length ≤ _
 unfold wbhV0 wclS
 split <;> simp <;> omega
theorem ld_len {t : JTr} {r : Bs} : (ldS t r).1.1.length ≤ t.1.length + 1 := by
 rw [ldS_eq]; unfold ldS0
 split
 ·simp
 ·split
  ·simp
  ·exact beh_len _
theorem pu_len {t : JTr} {r s : Bs} : (puS t r s).1.1.length ≤ t.1.length + 1 := by
 rw [puS_eq]; unfold puS0
 split
 ·simp
 ·exact beh_len _
theorem rp_len {t : JTr} {r s : Bs} : (rpS t r s).1.1.length ≤ t.1.length + 1 := by
 rw [rpS_eq]; unfold rpS0
 split
 ·simp
 ·simp
theorem go_len {t : JTr} {n : Int} : (goS t n).1.1.length ≤ t.1.length := by
 rw [goS_eq]; unfold goS0
 split
 ·simp
 ·split <;> simp
theorem smt_refl (a : JTr) : smtS a a = true := by unfold smtS; simp
theorem ltr_F (t : JTr) (r s : Bs) (n : Int) (hp : ltrP t r s n) : ltrF t r s n (fun b => b = true) := by
 have hl : t.1.length ≤ 140737488351232 := hp.1.2.1.1
 have hn : -9223372036854775808 ≤ n ∧ n ≤ 9223372036854775807 := Dom.i64 hp.2.2.2
 have hlen : lenP t := by show t.1.length ≤ _; omega
 have hgo := go_len (t := t) (n := n)
 have j82 : chkT t = 0 → wgoV0 t n = false → ltrj82 t n (fun b => b = true) := fun h0 hv => by
  show ltrV5 t n = true
  unfold ltrV5
  rw [goS_eq]; unfold goS0
  rw [if_f (by rw [h0]; rfl), if_f hv]
  show (smtS (t.1, w6 (t.2 + n)) (t.1, w6 (t.2 + n)) && _) = true
  rw [smt_refl]
  unfold hereS
  simp
 have hbet : chkT t = 0 → rbetM n (w6 (0 - t.2)) (w6 ((w6 ((t.1.length : Int) - 1)) - t.2)) = !(wgoV0 t n) := fun h0 => by
  obtain ⟨⟨h1, h2⟩, h3, -⟩ := chk_zero h0
  rw [bet_eq]
  unfold wgoV0
  rw [w64 (x := 0 - t.2) (by omega), w64 (x := (t.1.length : Int) - 1) (by omega), w64 (x := (t.1.length : Int) - 1 - t.2) (by omega), w64 (x := (t.1.length : Int) - t.2) (by omega)]
  by_cases a : n < 0 - t.2
  ·rw [decide_eq_true a, decide_eq_false (show ¬ 0 - t.2 ≤ n by omega)]; rfl
  ·rw [decide_eq_false a, decide_eq_true (show 0 - t.2 ≤ n by omega)]
   by_cases b : n ≥ (t.1.length : Int) - t.2
   ·rw [decide_eq_true b, decide_eq_false (show ¬ n ≤ (t.1.length : Int) - 1 - t.2 by omega)]; rfl
   ·rw [decide_eq_false b, decide_eq_true (show n ≤ (t.1.length : Int) - 1 - t.2 by omega)]; rfl
 have hq : ((if ltrV4 t n = true then 5 else chkT t) != 0) = false → chkT t = 0 ∧ wgoV0 t n = false := fun h => by
  by_cases h0 : chkT t = 0
  ·refine ⟨h0, ?_⟩
   cases hv : wgoV0 t n
   ·rfl
   ·have hv4 : ltrV4 t n = true := by
     unfold ltrV4
     rw [hbet h0, hv, h0]; rfl
    rw [if_t hv4] at h; cases h
  ·exfalso
   have hv4 : ltrV4 t n = false := by
    unfold ltrV4
    have : (chkT t == 0) = false := by rw [beq_eq_false_iff_ne]; exact h0
    rw [this, Bool.false_and]
   rw [if_f hv4] at h
   exact h0 (by simpa using h)
 have j66 : ltrj66 t n (fun b => b = true) := by
  refine ⟨fun h => ⟨⟨by omega, by show (0 : Nat) ≤ _; omega⟩, ?_⟩, fun h => ⟨⟨by omega, by show t.1.length ≤ _; omega⟩, fun h7 => ?_, fun _ => ?_⟩⟩
  ·by_cases h0 : chkT t = 0
   ·have hv4 : ltrV4 t n = true := by
     cases hv : ltrV4 t n
     ·rw [hv, if_f rfl, h0] at h; cases h
     ·rfl
    have hv : wgoV0 t n = true := by
     unfold ltrV4 at hv4
     rw [hbet h0, Bool.not_not, Bool.and_eq_true] at hv4
     exact hv4.2
    rw [if_t hv4, goS_eq]; unfold goS0
    rw [if_f (by rw [h0]; rfl), if_t hv]
    rfl
   ·have hv4 : ltrV4 t n = false := by
     unfold ltrV4
     have : (chkT t == 0) = false := by rw [beq_eq_false_iff_ne]; exact h0
     rw [this, Bool.false_and]
    rw [if_f hv4, goS_eq]; unfold goS0
    rw [if_t (by simpa using h0)]
    show (smtS ([], 0) ([], 0) && !false && (chkT t == chkT t)) = true
    rw [smt_refl]; simp
  ·obtain ⟨h0, hv⟩ := hq h
   obtain ⟨hh, h3, -⟩ := chk_zero h0
   have h8 := go_here hh h3 hv
   exact ⟨h8.1, h8.2, hh.1, hh.2, fun _ => j82 h0 hv, fun _ => j82 h0 hv⟩
  ·obtain ⟨h0, hv⟩ := hq h
   exact j82 h0 hv
 have j67 : ltrj67 t n (fun b => b = true) := ⟨fun _ => j66, fun _ => j66⟩
 have step : ∀ (i : Nat) (C : Int → List JEn → Int → Prop) (e : JTr) (x : JTr × Int), gonS t (w6 ((i : Int) + 1)) r s = x → e = x.1 → ([(ldS t r).2, (puS t r s).2, (rpS t r s).2].getD i default) = x.2 → (∀ a b, C (w6 ((i : Int) + 1)) a b) →
   ltrj56 t r s (fun b => b = true) e (i : Int) C ∧ ltrV6 t r s e (i : Int) = true := fun i C e x h1 h2 h3 hC => by
  refine ⟨⟨fun h => ?_, fun _ => hC _ _⟩, ?_⟩
  ·exfalso
   unfold ltrV3 at h
   rw [h1, h2, smt_refl, Int.toNat_natCast, h3] at h
   simp at h
  ·unfold ltrV6
   rw [h1, h2, smt_refl]
 have g1 : gonS t 1 r s = ldS t r := by rw [gonS_eq]; rfl
 have g2 : gonS t 2 r s = puS t r s := by rw [gonS_eq]; rfl
 have g3 : gonS t 3 r s = rpS t r s := by rw [gonS_eq]; rfl
 have l1 := ld_len (t := t) (r := r)
 have l2 := pu_len (t := t) (r := r) (s := s)
 have l3 := rp_len (t := t) (r := r) (s := s)
 have last : ∀ a b, ltrl43 t r s n (fun b => b = true) 1 3 a b := fun a b =>
  ⟨fun h => (by cases h), fun _ => ⟨hlen, fun _ => j67, fun _ => j67⟩⟩
 have at3 : ∀ a b, ltrl43 t r s n (fun b => b = true) 2 2 a b := fun a b => by
  obtain ⟨k1, k2⟩ := step 2 (ltrl43 t r s n (fun b => b = true) 1) (rpS t r s).1 (rpS t r s) g3 rfl rfl last
  refine ⟨fun _ => ⟨by decide, by show 2 < 3; decide, ⟨hlen, .inr (.inr rfl)⟩, ⟨?_, ?_⟩, fun h => ?_, fun _ => ⟨by decide, by show 2 < 3; decide, k1⟩⟩, fun h => (by cases h)⟩
  ·show (rpS t r s).1.1.length ≤ _; omega
  ·show (gonS t 3 r s).1.1.length ≤ _; rw [g3]; omega
  ·have h : (!(ltrV6 t r s (rpS t r s).1 ((2 : Nat) : Int))) = true := h
   rw [k2] at h; cases h
 have at2 : ∀ a b, ltrl43 t r s n (fun b => b = true) 3 1 a b := fun a b => by
  obtain ⟨k1, k2⟩ := step 1 (ltrl43 t r s n (fun b => b = true) 2) (puS t r s).1 (puS t r s) g2 rfl rfl at3
  refine ⟨fun _ => ⟨by decide, by show 1 < 3; decide, ⟨hlen, .inr (.inl rfl)⟩, ⟨?_, ?_⟩, fun h => ?_, fun _ => ⟨by decide, by show 1 < 3; decide, k1⟩⟩, fun h => (by cases h)⟩
  ·show (puS t r s).1.1.length ≤ _; omega
  ·show (gonS t 2 r s).1.1.length ≤ _; rw [g2]; omega
  ·have h : (!(ltrV6 t r s (puS t r s).1 ((1 : Nat) : Int))) = true := h
   rw [k2] at h; cases h
 have at1 : ∀ a b, ltrl43 t r s n (fun b => b = true) 4 0 a b := fun a b => by
  obtain ⟨k1, k2⟩ := step 0 (ltrl43 t r s n (fun b => b = true) 3) (ldS t r).1 (ldS t r) g1 rfl rfl at2
  refine ⟨fun _ => ⟨by decide, by show 0 < 3; decide, ⟨hlen, .inl rfl⟩, ⟨?_, ?_⟩, fun h => ?_, fun _ => ⟨by decide, by show 0 < 3; decide, k1⟩⟩, fun h => (by cases h)⟩
  ·show (ldS t r).1.1.length ≤ _; omega
  ·show (gonS t 1 r s).1.1.length ≤ _; rw [g1]; omega
  ·have h : (!(ltrV6 t r s (ldS t r).1 ((0 : Nat) : Int))) = true := h
   rw [k2] at h; cases h
 have hsta : staS r = ((ltrV1 r, 0), (resS r r).2) := by
  rw [staS_eq]; unfold staS0 ltrV1
  by_cases h : (resS r r).2 = 0
  ·rw [if_f (by rw [h]; rfl), if_t (by rw [h]; rfl), h]
  ·rw [if_t (by simpa using h), if_f (by rw [beq_eq_false_iff_ne]; exact h)]
 have hsl := sta_len r
 have j25 : ltrj25 t r s n (fun b => b = true) := by
  refine ⟨⟨by omega, ?_⟩, fun h => ?_, fun _ => ⟨4, at1 _ _⟩⟩
  ·show (ltrV1 r).length ≤ _
   rw [hsta] at hsl
   have hsl : (ltrV1 r).length ≤ 1 := hsl
   omega
  ·rw [hsta, smt_refl] at h; cases h
 have j16 : ltrj16 t r s n (fun b => b = true) := by
  refine ⟨fun h => ?_, fun _ => ⟨fun _ => j25, fun _ => j25⟩⟩
  unfold ltrV0 at h
  rw [hsta] at h
  simp at h
 exact ⟨hn, hlen, fun _ => j16, fun _ => j16⟩
theorem ltr_c {g : Ghost} {axt_0 : Option Addr} {cxt_0 : Nat} (xt : (List (Bs × Bs × Int)) × Int) (xref : Bs) (xstate : Bs) (xn : Int) (hRxt_0 : Rep g (.slice (.pair (.str) (.pair (.str) (.int .i64)))) [.slice axt_0 xt.1.length cxt_0] xt.1) (hG0 : SomeInt g 0) (hG1 : GlobL g 1 (.int .u64) DPow) (hG2 : SomeIf g 2) (hG3 : SomeIf g 3) (hG4 : GlobL g 4 (.int .u8) DFirst) (hG5 : GlobL g 5 (.pair (.int .u8) (.int .u8)) DAcc)  (hp : ltrP xt xref xstate xn) : CallsG Tryz.prog 3 #[.agg ⟨vT xt axt_0 cxt_0⟩, sv xref, sv xstate, .int .i64 xn] g (.bool ((fun _ _ _ _ => true) xt xref xstate xn)) :=
 (ltr_ok xt xref xstate xn hRxt_0 hG0 hG1 hG2 hG3 hG4 hG5 _ (ltr_F xt xref xstate xn hp)).gives (by rintro g' H' v _ ⟨r0, rfl, rfl, hK⟩; subst hK; rfl)
end
end Go.Proofs.YtdaagfgedkdmjaaGreatDoor.Ub
