/- Store: the law's function. -/
import Derived.Test.YtdjcgbejnpbjlaaGreatDoorSdr
import Derived.Test.YtdjcgbejnpbjlaaGreatDoorUp
namespace Go.Proofs.YtdjcgbejnpbjlaaGreatDoor.Sd
open Go Go.Eng Go.RowKit Bld Sp Ti Uc Ua Ui Ub
set_option maxHeartbeats 4000000
set_option maxRecDepth 100000
set_option linter.unusedSimpArgs false
set_option linter.unusedVariables false
noncomputable section
theorem srn_c {g : Ghost} {axops_0 : Option Addr} {cxops_0 : Nat} (xops : List (Int × Bs × Bs × Bs)) (hRxops_0 : Rep g (.slice (.pair (.int .i64) (.pair (.str) (.pair (.str) (.str))))) [.slice axops_0 xops.length cxops_0] xops) (hG0 : SomeInt g 0) (hG1 : GlobL g 1 (.int .u64) DPow) (hG2 : SomeIf g 2) (hG3 : SomeIf g 3) (hG4 : GlobL g 4 (.int .u8) DFirst) (hG5 : GlobL g 5 (.pair (.int .u8) (.int .u8)) DAcc)  (hp : srnP xops) : CallsH Tryz.prog 4 #[.slice axops_0 xops.length cxops_0] g [] (fun g' H' v => ∃ (ar0_0 : Option Addr) (cr0_0 : Nat), v = .tuple #[.slice ar0_0 (srnS xops).1.length cr0_0, .int .i64 (srnS xops).2] ∧ Rep g' (.slice (.pair (.int .i64) (.pair (.str) (.pair (.bool) (.slice (.str)))))) [.slice ar0_0 (srnS xops).1.length cr0_0] (srnS xops).1 ∧ H' = []) :=
 (srn_ok xops hRxops_0 hG0 hG1 hG2 hG3 hG4 hG5 _ (srn_F xops hp)).mono (by rintro g' H' v _ ⟨r0, r1, ar0_0, cr0_0, rfl, hRr0_0, rfl, hK⟩; obtain ⟨rfl, rfl⟩ : r0 = (srnS xops).1 ∧ r1 = (srnS xops).2 := ⟨congrArg (fun z => z.1) hK, congrArg (fun z => z.2) hK⟩; exact ⟨ar0_0, cr0_0, rfl, hRr0_0, rfl⟩)
theorem rsa_c {g : Ghost} {axops_0 : Option Addr} {cxops_0 : Nat} (xops : List (Int × Bs × Bs × Bs)) (hRxops_0 : Rep g (.slice (.pair (.int .i64) (.pair (.str) (.pair (.str) (.str))))) [.slice axops_0 xops.length cxops_0] xops) (hG0 : SomeInt g 0) (hG1 : GlobL g 1 (.int .u64) DPow)  (hp : rsaP xops) : CallsH Tryz.prog 6 #[.slice axops_0 xops.length cxops_0] g [] (fun g' H' v => ∃ (ar0_0 : Option Addr) (cr0_0 : Nat), v = .slice ar0_0 (rsaS xops).length cr0_0 ∧ Rep g' (.slice (.pair (.int .i64) (.pair (.str) (.pair (.bool) (.slice (.str)))))) [.slice ar0_0 (rsaS xops).length cr0_0] (rsaS xops) ∧ H' = []) :=
 (rsa_ok xops hRxops_0 hG0 hG1 _ (rsa_F xops hp)).mono (by rintro g' H' v _ ⟨r0, ar0_0, cr0_0, rfl, hRr0_0, rfl, hK⟩; subst hK; exact ⟨ar0_0, cr0_0, rfl, hRr0_0, rfl⟩)
def seqql15b (xs1 : List Bs) (xs2 : List Bs) (K : Bool → Prop) (x13l15 : Int) (C15 : Int → Prop) : Prop :=
 ((decide (x13l15 < (xs1.length : Int))) = true → (0 : Int) ≤ x13l15 ∧ Int.toNat x13l15 < xs1.length ∧ (0 : Int) ≤ x13l15 ∧ Int.toNat x13l15 < xs2.length ∧ ((!((xs1.getD (Int.toNat x13l15) default) == (xs2.getD (Int.toNat x13l15) default))) = true → K false) ∧ ((!((xs1.getD (Int.toNat x13l15) default) == (xs2.getD (Int.toNat x13l15) default))) = false → C15 (w6 (x13l15 + 1)))) ∧ ((decide (x13l15 < (xs1.length : Int))) = false → K true)
def seqql15 (xs1 : List Bs) (xs2 : List Bs) (K : Bool → Prop) : Nat → Int → Prop
 | 0, _ => False
 | k + 1, x13l15 => seqql15b xs1 xs2 K x13l15 (seqql15 xs1 xs2 K k)
def seqqF (xs1 : List Bs) (xs2 : List Bs) (K : Bool → Prop) : Prop :=
 ((((xs1.length : Int) != (xs2.length : Int))) = true → K false) ∧ ((((xs1.length : Int) != (xs2.length : Int))) = false → ∃ k, seqql15 xs1 xs2 K k 0)
theorem seqq_ok {g : Ghost} {axs1_0 : Option Addr} {cxs1_0 : Nat} (xs1 : List Bs) {axs2_0 : Option Addr} {cxs2_0 : Nat} (xs2 : List Bs) (hRxs1_0 : Rep g (.slice (.str)) [.slice axs1_0 xs1.length cxs1_0] xs1) (hRxs2_0 : Rep g (.slice (.str)) [.slice axs2_0 xs2.length cxs2_0] xs2) (K : Bool → Prop)
  (hF : seqqF xs1 xs2 K) : CallsH Tryz.prog 19 #[.slice axs1_0 xs1.length cxs1_0, .slice axs2_0 xs2.length cxs2_0] g [] (fun g' H' v => ∃ (r0 : Bool), v = .bool r0 ∧ H' = [] ∧ K r0) := by
 refine CallsH.enter 26 [(0, .slice axs1_0 xs1.length cxs1_0), (1, .slice axs2_0 xs2.length cxs2_0)] Tryz.func19 rfl (by kernel_rfl) (by kernel_rfl) (by kernel_rfl) fun w0 => ?_
 refine Ok.seq (Ok.region (Ok.batch 1 [(0, .slice axs1_0 xs1.length cxs1_0), (1, .slice axs2_0 xs2.length cxs2_0)] (by kernel_rfl) (Ok.nil (Ok.thenN (Ok.seq (Ok.seq (Ok.region (Ok.bat 5 [0, 1] [(10, .bool ((xs1.length : Int) != (xs2.length : Int)))] ?_))))))))
 refine Ok.nil (Ok.thenN (Ok.cond (b := ((xs1.length : Int) != (xs2.length : Int))) rfl (fun hc1 => ?_) (fun hc1 => ?_)))
 ·replace hF := hF.1 hc1
  refine Ok.seq (Ok.region (Ok.batch 1 [(4, .bool false)] (by kernel_rfl) (Ok.nil (Ok.thenN (Ok.ret (Ok.thenR ?_))))))
  exact Ok.resH (vs := [.bool false]) (.inl rfl) rfl (.cons (.tmp rfl) .nil) (Gext.refl w0 g) ⟨false, rfl, rfl, hF⟩
 ·replace hF := hF.2 hc1
  refine Ok.skip (Ok.thenN (Ok.seq (Ok.seq (Ok.region (Ok.bat 3 [0, 1] [(12, .int .i64 (xs1.length : Int)), (13, .int .i64 0)] ?_)))))
  refine Ok.nil (Ok.thenN (Ok.block ?_))
  obtain ⟨k, hF⟩ := hF
  refine Ok.loop (fun k a W => ∃ (x13l15 : Int), StA 26 [(0, .slice axs1_0 xs1.length cxs1_0), (1, .slice axs2_0 xs2.length cxs2_0), (12, .int .i64 (xs1.length : Int)), (13, .int .i64 x13l15)] a ∧ StW w0 [] g W ∧ seqql15 xs1 xs2 K k x13l15) k ?_ ?_
  ·
   exact fun a W hA hW => ⟨0, hA.sub (by kernel_rfl), hW, hF⟩
  ·
   clear hF
   rintro k15 a W ⟨x13l15, hA, hW, hF⟩
   cases k15 with
   | zero => exact (hF : False).elim
   | succ k15 =>
    refine (?_ : Ok _ _ _ _ _ _) a W hA hW
    clear hA hW
    refine Ok.seq (Ok.region (Ok.bat 1 [0, 1, 12, 13] [(14, .bool (decide (x13l15 < (xs1.length : Int))))] ?_))
    refine Ok.nil (Ok.thenN (Ok.seq (Ok.cond (b := decide (x13l15 < (xs1.length : Int))) rfl (fun hc2 => ?_) (fun hc2 => ?_))))
    ·replace hF := hF.1 hc2
     refine Ok.skip (Ok.thenN (Ok.seq (Ok.block (Ok.seq (Ok.region (Ok.bat 2 [0, 1, 12, 13] [(5, .int .i64 x13l15)] ?_))))))
     refine Ok.nil (Ok.thenN (Ok.seq (Ok.quiet' (by kernel_rfl) (by kernel_rfl) (OkQ.bat 2 [0, 1, 5, 12, 13] [(16, .slice axs1_0 xs1.length cxs1_0), (17, .int .i64 x13l15)] ?_))))
     obtain ⟨h04, h14, hF⟩ := hF
     have he4 := get_of (l := xs1) (default : Bs) h14
     generalize hg4 : (xs1.getD (Int.toNat x13l15) default) = e4 at he4 hF ⊢
     refine OkQ.op rfl (OpQ.indexRo (e := .str) (i := x13l15) (el := e4) rfl rfl Tryz.underlying28 (by kernel_rfl) hRxs1_0 h04 he4 rfl fun q3 o3 cs3 _ hat3 hr3 => ?_)
     obtain rfl := hr3
     replace hat3 : At g q3 o3 [sv e4] := hat3
     refine OkQ.op rfl (OpQ.step (v := sv e4) (Yields.loadRo 0 hat3 (by kernel_rfl) Tryz.underlying9 rfl (by kernel_rfl)) rfl rfl (OkQ.bat 2 [0, 1, 12, 13] [(19, sv e4), (20, .slice axs2_0 xs2.length cxs2_0), (21, .int .i64 x13l15)] ?_))
     obtain ⟨h06, h16, hF⟩ := hF
     have he6 := get_of (l := xs2) (default : Bs) h16
     generalize hg6 : (xs2.getD (Int.toNat x13l15) default) = e6 at he6 hF ⊢
     refine OkQ.op rfl (OpQ.indexRo (e := .str) (i := x13l15) (el := e6) rfl rfl Tryz.underlying28 (by kernel_rfl) hRxs2_0 h06 he6 rfl fun q5 o5 cs5 _ hat5 hr5 => ?_)
     obtain rfl := hr5
     replace hat5 : At g q5 o5 [sv e6] := hat5
     refine OkQ.op rfl (OpQ.step (v := sv e6) (Yields.loadRo 0 hat5 (by kernel_rfl) Tryz.underlying9 rfl (by kernel_rfl)) rfl rfl (OkQ.op rfl (OpQ.step (v := .bool (!(e4 == e6))) (Yields.strCmp (f := .neq) (a := e4) (b := e6) (by kernel_rfl) (by kernel_rfl) rfl) rfl rfl (OkQ.nil (Ok.thenN (Ok.cond (b := !(e4 == e6)) rfl (fun hc7 => ?_) (fun hc7 => ?_)))))))
     ·replace hF := hF.1 hc7
      refine Ok.seq (Ok.region (Ok.batch 1 [(4, .bool false)] (by kernel_rfl) (Ok.nil (Ok.thenN (Ok.ret (Ok.blockR (Ok.thenR (Ok.thenR (Ok.blockR (Ok.thenR ?_))))))))))
      exact Ok.resH (vs := [.bool false]) (.inl rfl) rfl (.cons (.tmp rfl) .nil) (Gext.refl w0 g) ⟨false, rfl, rfl, hF⟩
     ·replace hF := hF.2 hc7
      refine Ok.skip (Ok.blockN (Ok.thenN (Ok.region (Ok.bat 2 [0, 1, 12] [(13, .int .i64 (w6 (x13l15 + 1)))] ?_))))
      refine Ok.nil (Ok.thenN ?_)
      subst hg6
      subst hg4
      exact fun a W hA hW => ⟨k15, Nat.lt_succ_self _, w6 (x13l15 + 1), hA.sub (by kernel_rfl), hW, hF⟩
    ·replace hF := hF.2 hc2
     refine Ok.exit (Ok.thenE (Ok.thenE (Ok.blockHit (Ok.thenN (Ok.seq (Ok.region (Ok.batch 1 [(4, .bool true)] (by kernel_rfl) (Ok.nil (Ok.thenN (Ok.ret ?_))))))))))
     exact Ok.resH (vs := [.bool true]) (.inl rfl) rfl (.cons (.tmp rfl) .nil) (Gext.refl w0 g) ⟨true, rfl, rfl, hF⟩
def seqqS (a b : List (Bt)) : Bool := a == b
def seqqP (a b : List (Bt)) : Prop := a.length ≤ 1000000 ∧ b.length ≤ 1000000
theorem seqq_F (p q : List (Bt)) (hp : seqqP p q) : seqqF p q (fun r => r = seqqS p q) := by
 obtain ⟨hp1, hp2⟩ := hp
 unfold seqqS
 refine ⟨fun h => ?_, fun h => ?_⟩
 ·have h : p.length ≠ q.length := by rw [bne_iff_ne] at h; omega
  have : (p == q) = false := by
   rw [beq_eq_false_iff_ne]
   intro h2; exact h (congrArg List.length h2)
  rw [this]
 ·have hlen : p.length = q.length := by
   rw [bne_eq_false_iff_eq] at h; omega
  have loop : ∀ (k i : Nat), i + k = p.length → (p == q) = (p.drop i == q.drop i) → seqql15 p q (fun r => r = (p == q)) (k + 1) (i : Int) := by
   intro k
   induction k with
   | zero =>
    intro i h1 he
    rw [List.drop_of_length_le (by omega), List.drop_of_length_le (by omega)] at he
    exact ⟨fun h => by have := of_decide_eq_true h; omega, fun _ => by rw [he]; rfl⟩
   | succ k ih =>
    intro i h1 he
    have hi : i < p.length := by omega
    rw [drop_get (l := p) default hi, drop_get (l := q) default (by omega)] at he
    refine ⟨fun _ => ?_, fun h => by have := of_decide_eq_false h; omega⟩
    rw [Int.toNat_natCast]
    refine ⟨by omega, by omega, by omega, by omega, fun h => ?_, fun h => ?_⟩
    ·have h : (p.getD i default == q.getD i default) = false := by rw [Bool.not_eq_true'] at h; exact h
     rw [he, List.cons_beq_cons, h]; rfl
    ·have h : (p.getD i default == q.getD i default) = true := by rw [Bool.not_eq_false'] at h; exact h
     rw [w64 (by omega)]
     refine ih (i + 1) (by omega) ?_
     rw [he, List.cons_beq_cons, h]; rfl
  exact ⟨_, loop p.length 0 (by omega) rfl⟩
theorem seqq_c {g : Ghost} {axs1_0 : Option Addr} {cxs1_0 : Nat} (xs1 : List Bs) {axs2_0 : Option Addr} {cxs2_0 : Nat} (xs2 : List Bs) (hRxs1_0 : Rep g (.slice (.str)) [.slice axs1_0 xs1.length cxs1_0] xs1) (hRxs2_0 : Rep g (.slice (.str)) [.slice axs2_0 xs2.length cxs2_0] xs2)  (hp : seqqP xs1 xs2) : CallsG Tryz.prog 19 #[.slice axs1_0 xs1.length cxs1_0, .slice axs2_0 xs2.length cxs2_0] g (.bool (seqqS xs1 xs2)) :=
 (seqq_ok xs1 xs2 hRxs1_0 hRxs2_0 _ (seqq_F xs1 xs2 hp)).gives (by rintro g' H' v _ ⟨r0, rfl, rfl, hK⟩; subst hK; rfl)

def sstV0 (xa : AN) (xb : AN) : Bool :=
 ((xa.1 == xb.1) && ((xa.2.1 == xb.2.1) && ((xa.2.2.1 == xb.2.2.1) && (seqqS xa.2.2.2 xb.2.2.2))))
def sstj3 (xa : AN) (xb : AN) (K : Bool → Prop) : Prop :=
 K (sstV0 xa xb)
def sstF (xa : AN) (xb : AN) (K : Bool → Prop) : Prop :=
 (((xa.1 == xb.1)) = true → (((xa.2.1 == xb.2.1)) = true → (((xa.2.2.1 == xb.2.2.1)) = true → seqqP xa.2.2.2 xb.2.2.2 ∧ sstj3 xa xb K) ∧ (((xa.2.2.1 == xb.2.2.1)) = false → sstj3 xa xb K)) ∧ (((xa.2.1 == xb.2.1)) = false → sstj3 xa xb K)) ∧ (((xa.1 == xb.1)) = false → sstj3 xa xb K)
theorem sst_ok {g : Ghost} {axa_0 : Option Addr} {cxa_0 : Nat} (xa : AN) {axb_0 : Option Addr} {cxb_0 : Nat} (xb : AN) (hRxa_0 : Rep g (.slice (.str)) [.slice axa_0 xa.2.2.2.length cxa_0] xa.2.2.2) (hRxb_0 : Rep g (.slice (.str)) [.slice axb_0 xb.2.2.2.length cxb_0] xb.2.2.2) (K : Bool → Prop)
  (hF : sstF xa xb K) : CallsH Tryz.prog 7 #[.agg #[.int .i64 xa.1, sv xa.2.1, .bool xa.2.2.1, .slice axa_0 xa.2.2.2.length cxa_0], .agg #[.int .i64 xb.1, sv xb.2.1, .bool xb.2.2.1, .slice axb_0 xb.2.2.2.length cxb_0]] g [] (fun g' H' v => ∃ (r0 : Bool), v = .bool r0 ∧ H' = [] ∧ K r0) := by
 refine CallsH.enter 31 [(0, .agg #[.int .i64 xa.1, sv xa.2.1, .bool xa.2.2.1, .slice axa_0 xa.2.2.2.length cxa_0]), (1, .agg #[.int .i64 xb.1, sv xb.2.1, .bool xb.2.2.1, .slice axb_0 xb.2.2.2.length cxb_0])] Tryz.func7 rfl (by kernel_rfl) (by kernel_rfl) (by kernel_rfl) fun w0 => ?_
 refine Ok.seq (Ok.region (Ok.op rfl (OpOk.box (v := .agg #[.int .i64 xa.1, sv xa.2.1, .bool xa.2.2.1, .slice axa_0 xa.2.2.2.length cxa_0]) (cs := #[.int .i64 xa.1, sv xa.2.1, .bool xa.2.2.1, .slice axa_0 xa.2.2.2.length cxa_0]) rfl (by kernel_rfl) rfl fun bs2 => ?_)))
 refine Ok.op rfl (OpOk.box (v := .agg #[.int .i64 xb.1, sv xb.2.1, .bool xb.2.2.1, .slice axb_0 xb.2.2.2.length cxb_0]) (cs := #[.int .i64 xb.1, sv xb.2.1, .bool xb.2.2.1, .slice axb_0 xb.2.2.2.length cxb_0]) rfl (by kernel_rfl) rfl fun bs3 => ?_)
 refine Ok.batch 1 [(2, pv bs2 0), (3, pv bs3 0)] (by kernel_rfl) (Ok.nil (Ok.thenN (Ok.cut (fun a W => StA 31 [(4, .bool (sstV0 xa xb))] a ∧ StW w0 [] g W ∧ sstj3 xa xb K) ?_ ?_)))
 ·
  refine Ok.region (Ok.bat 1 [2, 3] [(5, pv bs2 0)] ?_)
  refine Ok.op rfl (OpOk.step (v := .int .i64 xa.1) (Yields.load 1 rfl rfl Tryz.underlying24 rfl (by kernel_rfl)) rfl rfl (Ok.bat 1 [2, 3] [(6, .int .i64 xa.1), (7, pv bs3 0)] ?_))
  refine Ok.op rfl (OpOk.step (v := .int .i64 xb.1) (Yields.load 0 rfl rfl Tryz.underlying24 rfl (by kernel_rfl)) rfl rfl (Ok.bat 2 [2, 3] [(10, .bool (xa.1 == xb.1))] ?_))
  refine Ok.boolAt 10 ((xa.1 == xb.1)) rfl (fun hc3 => ?_) (fun hc3 => ?_)
  ·replace hF := hF.1 hc3
   refine Ok.bat 1 [2, 3] [(10, .bool true), (11, pv bs2 1)] ?_
   refine Ok.opYes (j := 5) (d := 10) (want := true) (b := true) rfl (by kernel_rfl) (by kernel_rfl) rfl (OpOk.step (v := sv xa.2.1) (Yields.load 1 rfl rfl Tryz.underlying9 rfl (by kernel_rfl)) rfl rfl (Ok.bat 1 [2, 3, 10] [(12, sv xa.2.1), (13, pv bs3 1)] ?_))
   refine Ok.opYes (j := 5) (d := 10) (want := true) (b := true) rfl (by kernel_rfl) (by kernel_rfl) rfl (OpOk.step (v := sv xb.2.1) (Yields.load 0 rfl rfl Tryz.underlying9 rfl (by kernel_rfl)) rfl rfl (Ok.opYes (j := 5) (d := 10) (want := true) (b := true) rfl (by kernel_rfl) (by kernel_rfl) rfl (OpOk.step (v := .bool (xa.2.1 == xb.2.1)) (Yields.strCmp (f := .eql) (a := xa.2.1) (b := xb.2.1) (by kernel_rfl) (by kernel_rfl) rfl) rfl rfl (Ok.bat 2 [2, 3] [(17, .bool (xa.2.1 == xb.2.1))] ?_))))
   refine Ok.boolAt 17 ((xa.2.1 == xb.2.1)) rfl (fun hc4 => ?_) (fun hc4 => ?_)
   ·replace hF := hF.1 hc4
    refine Ok.bat 1 [2, 3] [(17, .bool true), (18, pv bs2 2)] ?_
    refine Ok.opYes (j := 12) (d := 17) (want := true) (b := true) rfl (by kernel_rfl) (by kernel_rfl) rfl (OpOk.step (v := .bool xa.2.2.1) (Yields.load 1 rfl rfl Tryz.underlying4 rfl (by kernel_rfl)) rfl rfl (Ok.bat 1 [2, 3, 17] [(19, .bool xa.2.2.1), (20, pv bs3 2)] ?_))
    refine Ok.opYes (j := 12) (d := 17) (want := true) (b := true) rfl (by kernel_rfl) (by kernel_rfl) rfl (OpOk.step (v := .bool xb.2.2.1) (Yields.load 0 rfl rfl Tryz.underlying4 rfl (by kernel_rfl)) rfl rfl (Ok.bat 3 [2, 3] [(24, .bool (xa.2.2.1 == xb.2.2.1))] ?_))
    refine Ok.boolAt 24 ((xa.2.2.1 == xb.2.2.1)) rfl (fun hc5 => ?_) (fun hc5 => ?_)
    ·replace hF := hF.1 hc5
     refine Ok.bat 1 [3] [(24, .bool true), (25, pv bs2 3)] ?_
     refine Ok.opYes (j := 19) (d := 24) (want := true) (b := true) rfl (by kernel_rfl) (by kernel_rfl) rfl (OpOk.step (v := .slice axa_0 xa.2.2.2.length cxa_0) (Yields.load 1 rfl rfl Tryz.underlying28 rfl (by kernel_rfl)) rfl rfl (Ok.bat 1 [24] [(26, .slice axa_0 xa.2.2.2.length cxa_0), (27, pv bs3 3)] ?_))
     refine Ok.opYes (j := 19) (d := 24) (want := true) (b := true) rfl (by kernel_rfl) (by kernel_rfl) rfl (OpOk.step (v := .slice axb_0 xb.2.2.2.length cxb_0) (Yields.load 0 rfl rfl Tryz.underlying28 rfl (by kernel_rfl)) rfl rfl ?_)
     obtain ⟨hp6, hF⟩ := hF
     refine Ok.opYes (j := 19) (d := 24) (want := true) (b := true) rfl (by kernel_rfl) (by kernel_rfl) rfl (OpOk.callG (v := .bool (seqqS xa.2.2.2 xb.2.2.2)) enr (fun W hW => seqq_c xa.2.2.2 xb.2.2.2 (hRxa_0.mono hW.sees) (hRxb_0.mono hW.sees) hp6) rfl ?_)
     refine Ok.batch 2 [(4, .bool (seqqS xa.2.2.2 xb.2.2.2))] (by kernel_rfl) (Ok.nil (Ok.thenN (Ok.reval 4 rfl (show (.bool (seqqS xa.2.2.2 xb.2.2.2) : Value) = .bool (sstV0 xa xb) from congrArg (Value.bool) ((Eq.trans ((Eq.trans (mand_t hc5) (mand_t hc4))) (mand_t hc3)))) ?_)))
     exact fun a W hA hW => ⟨hA.sub (by kernel_rfl), hW.sub (.cons _ (.cons _ .slnil)), hF⟩
    ·replace hF := hF.2 hc5
     refine Ok.batch 7 [(4, .bool false)] (by kernel_rfl) (Ok.nil (Ok.thenN (Ok.reval 4 rfl (show (.bool false : Value) = .bool (sstV0 xa xb) from congrArg (Value.bool) ((Eq.trans ((Eq.trans (mand_f hc5) (mand_t hc4))) (mand_t hc3)))) ?_)))
     exact fun a W hA hW => ⟨hA.sub (by kernel_rfl), hW.sub (.cons _ (.cons _ .slnil)), hF⟩
   ·replace hF := hF.2 hc4
    refine Ok.batch 14 [(4, .bool false)] (by kernel_rfl) (Ok.nil (Ok.thenN (Ok.reval 4 rfl (show (.bool false : Value) = .bool (sstV0 xa xb) from congrArg (Value.bool) ((Eq.trans (mand_f hc4) (mand_t hc3)))) ?_)))
    exact fun a W hA hW => ⟨hA.sub (by kernel_rfl), hW.sub (.cons _ (.cons _ .slnil)), hF⟩
  ·replace hF := hF.2 hc3
   refine Ok.batch 21 [(4, .bool false)] (by kernel_rfl) (Ok.nil (Ok.thenN (Ok.reval 4 rfl (show (.bool false : Value) = .bool (sstV0 xa xb) from congrArg (Value.bool) (mand_f hc3)) ?_)))
   exact fun a W hA hW => ⟨hA.sub (by kernel_rfl), hW.sub (.cons _ (.cons _ .slnil)), hF⟩
 ·
  clear hF
  rintro a W ⟨hA, hW, hF⟩
  refine (?_ : Ok _ _ _ _ _ _) a W hA hW
  clear hA hW
  refine Ok.ret ?_
  exact Ok.resH (vs := [.bool (sstV0 xa xb)]) (.inl rfl) rfl (.cons (.tmp rfl) .nil) (Gext.refl w0 g) ⟨(sstV0 xa xb), rfl, rfl, hF⟩
def sstS (a b : AN) : Bool := (a.1 == b.1) && ((a.2.1 == b.2.1) && ((a.2.2.1 == b.2.2.1) && seqqS a.2.2.2 b.2.2.2))
def sstP (a b : AN) : Prop := seqqP a.2.2.2 b.2.2.2
theorem sst_F (a b : AN) (hp : sstP a b) : sstF a b (fun r => r = sstS a b) := by
 have h3 : sstj3 a b (fun r => r = sstS a b) := rfl
 exact ⟨fun _ => ⟨fun _ => ⟨fun _ => ⟨hp, h3⟩, fun _ => h3⟩, fun _ => h3⟩, fun _ => h3⟩
theorem sst_c {g : Ghost} {axa_0 : Option Addr} {cxa_0 : Nat} (xa : Int × Bs × Bool × List Bs) {axb_0 : Option Addr} {cxb_0 : Nat} (xb : Int × Bs × Bool × List Bs) (hRxa_0 : Rep g (.slice (.str)) [.slice axa_0 xa.2.2.2.length cxa_0] xa.2.2.2) (hRxb_0 : Rep g (.slice (.str)) [.slice axb_0 xb.2.2.2.length cxb_0] xb.2.2.2)  (hp : sstP xa xb) : CallsG Tryz.prog 7 #[.agg #[.int .i64 xa.1, sv xa.2.1, .bool xa.2.2.1, .slice axa_0 xa.2.2.2.length cxa_0], .agg #[.int .i64 xb.1, sv xb.2.1, .bool xb.2.2.1, .slice axb_0 xb.2.2.2.length cxb_0]] g (.bool (sstS xa xb)) :=
 (sst_ok xa xb hRxa_0 hRxb_0 _ (sst_F xa xb hp)).gives (by rintro g' H' v _ ⟨r0, rfl, rfl, hK⟩; subst hK; rfl)
def lssji38 (xops : List (Int × KP)) (K : Bool → Prop) (x23ji38 : Bool) : Prop :=
 K (x23ji38 && ((srnS xops).2 == 0))
def lssl15x1b (xops : List (Int × KP)) (K : Bool → Prop) (x17l15i23 : Int) (C15x1 : Int → Prop) : Prop :=
 ((decide (x17l15i23 < ((srnS xops).1.length : Int))) = true → (0 : Int) ≤ x17l15i23 ∧ Int.toNat x17l15i23 < (srnS xops).1.length ∧ (0 : Int) ≤ x17l15i23 ∧ Int.toNat x17l15i23 < (rsaS xops).length ∧ sstP ((srnS xops).1.getD (Int.toNat x17l15i23) default) ((rsaS xops).getD (Int.toNat x17l15i23) default) ∧ ((!(sstS ((srnS xops).1.getD (Int.toNat x17l15i23) default) ((rsaS xops).getD (Int.toNat x17l15i23) default))) = true → lssji38 xops K false) ∧ ((!(sstS ((srnS xops).1.getD (Int.toNat x17l15i23) default) ((rsaS xops).getD (Int.toNat x17l15i23) default))) = false → C15x1 (w6 (x17l15i23 + 1)))) ∧ ((decide (x17l15i23 < ((srnS xops).1.length : Int))) = false → lssji38 xops K true)
def lssl15x1 (xops : List (Int × KP)) (K : Bool → Prop) : Nat → Int → Prop
 | 0, _ => False
 | k + 1, x17l15i23 => lssl15x1b xops K x17l15i23 (lssl15x1 xops K k)
def lssF (xops : List (Int × KP)) (K : Bool → Prop) : Prop :=
 srnP xops ∧ ((decide ((xops.length : Int) > 100)) = true → K ((((srnS xops).1.length : Int) == 0) && ((srnS xops).2 == 2))) ∧ ((decide ((xops.length : Int) > 100)) = false → rsaP xops ∧ (((((srnS xops).1.length : Int) != ((rsaS xops).length : Int))) = true → lssji38 xops K false) ∧ (((((srnS xops).1.length : Int) != ((rsaS xops).length : Int))) = false → ∃ k, lssl15x1 xops K k 0))
theorem lss_ok {g : Ghost} {axops_0 : Option Addr} {cxops_0 : Nat} (xops : List (Int × KP)) (hRxops_0 : Rep g (.slice (.pair (.int .i64) (.pair (.str) (.pair (.str) (.str))))) [.slice axops_0 xops.length cxops_0] xops) (hG0 : SomeInt g 0) (hG1 : GlobL g 1 (.int .u64) DPow) (hG2 : SomeIf g 2) (hG3 : SomeIf g 3) (hG4 : GlobL g 4 (.int .u8) DFirst) (hG5 : GlobL g 5 (.pair (.int .u8) (.int .u8)) DAcc) (K : Bool → Prop)
  (hF : lssF xops K) : CallsH Tryz.prog 3 #[.slice axops_0 xops.length cxops_0] g [] (fun g' H' v => ∃ (r0 : Bool), v = .bool r0 ∧ H' = [] ∧ K r0) := by
 refine CallsH.enter 28 [(0, .slice axops_0 xops.length cxops_0)] Tryz.func3 rfl (by kernel_rfl) (by kernel_rfl) (by kernel_rfl) fun w0 => ?_
 refine Ok.seq (Ok.region (Ok.batch 1 [(0, .slice axops_0 xops.length cxops_0)] (by kernel_rfl) (Ok.nil (Ok.thenN (Ok.seq (Ok.region (Ok.bat 1 [0] [(6, .slice axops_0 xops.length cxops_0)] ?_)))))))
 obtain ⟨hp1, hF⟩ := hF
 refine Ok.op rfl (OpOk.callH [] _ enr rfl (srn_c xops hRxops_0 hG0 hG1 hG2 hG3 hG4 hG5 hp1) rfl fun g2 _ _ hx2 hV2 => ?_)
 obtain ⟨a2_0, c2_0, rfl, hR2_0, rfl⟩ := hV2
 replace hRxops_0 := hRxops_0.mono hx2.1
 replace hG0 := hG0.mono hx2.1
 replace hG1 := hG1.mono hx2.1
 replace hG2 := hG2.mono hx2.1
 replace hG3 := hG3.mono hx2.1
 replace hG4 := hG4.mono hx2.1
 replace hG5 := hG5.mono hx2.1
 refine Ok.bat 5 [0] [(3, .slice a2_0 (srnS xops).1.length c2_0), (4, .int .i64 (srnS xops).2)] ?_
 refine Ok.nil (Ok.thenN (Ok.seq (Ok.seq (Ok.region (Ok.bat 3 [0, 3, 4] [(12, .bool (decide ((xops.length : Int) > 100)))] ?_)))))
 refine Ok.nil (Ok.thenN (Ok.cond (b := decide ((xops.length : Int) > 100)) rfl (fun hc3 => ?_) (fun hc3 => ?_)))
 ·replace hF := hF.1 hc3
  refine Ok.seq (Ok.region (Ok.bat 4 [4] [(16, .bool (((srnS xops).1.length : Int) == 0))] ?_))
  refine Ok.midway 3 [(19, .bool ((((srnS xops).1.length : Int) == 0) && ((srnS xops).2 == 2)))] (fun hR4 => ?_) ?_
  ·refine Ok.boolAt 16 ((((srnS xops).1.length : Int) == 0)) rfl (fun hc5 => ?_) (fun hc5 => ?_)
   ·skip
    refine Ok.batch 3 [(19, .bool ((srnS xops).2 == 2))] (by kernel_rfl) (Ok.reval 19 rfl (show (.bool ((srnS xops).2 == 2) : Value) = .bool ((((srnS xops).1.length : Int) == 0) && ((srnS xops).2 == 2)) from congrArg Value.bool (mand_t hc5)) (Ok.batch 0 [(19, .bool ((((srnS xops).1.length : Int) == 0) && ((srnS xops).2 == 2)))] (by kernel_rfl) ?_))
    exact hR4
   ·skip
    refine Ok.batch 3 [(19, .bool false)] (by kernel_rfl) (Ok.reval 19 rfl (show (.bool false : Value) = .bool ((((srnS xops).1.length : Int) == 0) && ((srnS xops).2 == 2)) from congrArg Value.bool (mand_f hc5)) (Ok.batch 0 [(19, .bool ((((srnS xops).1.length : Int) == 0) && ((srnS xops).2 == 2)))] (by kernel_rfl) ?_))
    exact hR4
  refine Ok.batch 1 [(2, .bool ((((srnS xops).1.length : Int) == 0) && ((srnS xops).2 == 2)))] (by kernel_rfl) (Ok.nil (Ok.thenN (Ok.ret (Ok.thenR ?_))))
  exact Ok.resH (vs := [.bool ((((srnS xops).1.length : Int) == 0) && ((srnS xops).2 == 2))]) (.inl rfl) rfl (.cons (.tmp rfl) .nil) hx2 ⟨((((srnS xops).1.length : Int) == 0) && ((srnS xops).2 == 2)), rfl, rfl, hF⟩
 ·replace hF := hF.2 hc3
  refine Ok.skip (Ok.thenN (Ok.seq (Ok.region (Ok.bat 2 [4] [(20, .slice a2_0 (srnS xops).1.length c2_0), (21, .slice axops_0 xops.length cxops_0)] ?_))))
  obtain ⟨hp6, hF⟩ := hF
  refine Ok.op rfl (OpOk.callH [] _ enr rfl (rsa_c xops hRxops_0 hG0 hG1 hp6) rfl fun g7 _ _ hx7 hV7 => ?_)
  obtain ⟨a7_0, c7_0, rfl, hR7_0, rfl⟩ := hV7
  replace hR2_0 := hR2_0.mono hx7.1
  replace hRxops_0 := hRxops_0.mono hx7.1
  replace hG0 := hG0.mono hx7.1
  replace hG1 := hG1.mono hx7.1
  replace hG2 := hG2.mono hx7.1
  replace hG3 := hG3.mono hx7.1
  replace hG4 := hG4.mono hx7.1
  replace hG5 := hG5.mono hx7.1
  refine Ok.op rfl (OpOk.cut (fun a W => ∃ gji38 : Ghost, Gext w0 g7 gji38 ∧ ∃ (x23ji38 : Bool), StA 28 [(4, .int .i64 (srnS xops).2), (23, .bool x23ji38)] a ∧ StW w0 [] gji38 W ∧ lssji38 xops K x23ji38) ?_ ?_)
  ·
   refine OpOk.inline (args := #[.slice a2_0 (srnS xops).1.length c2_0, .slice a7_0 (rsaS xops).length c7_0, .func (.func 7) #[] #[]]) 32 [(0, .slice a2_0 (srnS xops).1.length c2_0), (1, .slice a7_0 (rsaS xops).length c7_0), (2, .func (.func 7) #[] #[])] enr Tryz.func5 rfl rfl rfl rfl (Ok.seq (Ok.region (Ok.batch 1 [(0, .slice a2_0 (srnS xops).1.length c2_0), (1, .slice a7_0 (rsaS xops).length c7_0), (2, .func (.func 7) #[] #[])] (by kernel_rfl) (Ok.nil (Ok.thenN (Ok.seq (Ok.seq (Ok.region (Ok.bat 5 [0, 1, 2] [(14, .bool (((srnS xops).1.length : Int) != ((rsaS xops).length : Int)))] ?_)))))))))
   refine Ok.nil (Ok.thenN (Ok.cond (b := (((srnS xops).1.length : Int) != ((rsaS xops).length : Int))) rfl (fun hc10 => ?_) (fun hc10 => ?_)))
   ·replace hF := hF.1 hc10
    refine Ok.seq (Ok.region (Ok.batch 1 [(6, .bool false)] (by kernel_rfl) (Ok.nil (Ok.thenN (Ok.ret (Ok.thenR (Ok.back (vs := [.bool false]) (.inl rfl) rfl (.cons (.tmp rfl) .nil) rfl ?_)))))))
    exact fun a W hA hW => ⟨g7, (Gext.refl w0 g7), false, hA.sub (by kernel_rfl), hW, hF⟩
   ·replace hF := hF.2 hc10
    refine Ok.skip (Ok.thenN (Ok.seq (Ok.seq (Ok.region (Ok.bat 3 [1, 2] [(15, .slice a2_0 (srnS xops).1.length c2_0), (16, .int .i64 ((srnS xops).1.length : Int)), (17, .int .i64 0)] ?_)))))
    refine Ok.nil (Ok.thenN (Ok.block ?_))
    obtain ⟨k, hF⟩ := hF
    refine Ok.loop (fun k a W => ∃ gl15i23 : Ghost, Gext w0 g7 gl15i23 ∧ ∃ (x17l15i23 : Int), StA 32 [(1, .slice a7_0 (rsaS xops).length c7_0), (2, .func (.func 7) #[] #[]), (15, .slice a2_0 (srnS xops).1.length c2_0), (16, .int .i64 ((srnS xops).1.length : Int)), (17, .int .i64 x17l15i23)] a ∧ StW w0 [] gl15i23 W ∧ lssl15x1 xops K k x17l15i23) k ?_ ?_
    ·
     exact fun a W hA hW => ⟨g7, (Gext.refl w0 g7), 0, hA.sub (by kernel_rfl), hW, hF⟩
    ·
     clear hF
     rintro k15x1 a W ⟨gl15i23, hxl15i23, x17l15i23, hA, hW, hF⟩
     cases k15x1 with
     | zero => exact (hF : False).elim
     | succ k15x1 =>
      refine (?_ : Ok _ _ _ _ _ _) a W hA hW
      clear hA hW
      replace hR7_0 := hR7_0.mono hxl15i23.1
      replace hR2_0 := hR2_0.mono hxl15i23.1
      replace hG0 := hG0.mono hxl15i23.1
      replace hG1 := hG1.mono hxl15i23.1
      replace hG2 := hG2.mono hxl15i23.1
      replace hG3 := hG3.mono hxl15i23.1
      replace hG4 := hG4.mono hxl15i23.1
      replace hG5 := hG5.mono hxl15i23.1
      refine Ok.seq (Ok.region (Ok.bat 1 [1, 2, 15, 16, 17] [(18, .bool (decide (x17l15i23 < ((srnS xops).1.length : Int))))] ?_))
      refine Ok.nil (Ok.thenN (Ok.seq (Ok.cond (b := decide (x17l15i23 < ((srnS xops).1.length : Int))) rfl (fun hc11 => ?_) (fun hc11 => ?_))))
      ·replace hF := hF.1 hc11
       refine Ok.skip (Ok.thenN (Ok.seq (Ok.block (Ok.seq (Ok.region (Ok.bat 1 [1, 2, 15, 16, 17] [(19, .int .i64 x17l15i23)] ?_))))))
       obtain ⟨h013, h113, hF⟩ := hF
       have he13 := get_of (l := (srnS xops).1) (default : AN) h113
       generalize hg13 : ((srnS xops).1.getD (Int.toNat x17l15i23) default) = e13 at he13 hF ⊢
       refine Ok.op rfl (OpOk.indexRo (e := .pair (.int .i64) (.pair (.str) (.pair (.bool) (.slice (.str))))) (i := x17l15i23) (el := e13) rfl rfl Tryz.underlying23 (by kernel_rfl) hR2_0 h013 he13 rfl fun q12 o12 cs12 _ hat12 hr12 => ?_)
       obtain ⟨_, _, rfl, rfl, ⟨_, _, rfl, rfl, ⟨_, _, rfl, rfl, ⟨a12_3, c12_3, rfl, hm12_3, hr12_3⟩⟩⟩⟩ := hr12
       have hR12_3 : Rep gl15i23 (.slice (.str)) [.slice a12_3 e13.2.2.2.length c12_3] e13.2.2.2 := ⟨a12_3, c12_3, rfl, hm12_3, hr12_3⟩
       replace hat12 : At gl15i23 q12 o12 [.int .i64 e13.1, sv e13.2.1, .bool e13.2.2.1, .slice a12_3 e13.2.2.2.length c12_3] := hat12
       refine Ok.op rfl (OpOk.step (v := .agg #[.int .i64 e13.1, sv e13.2.1, .bool e13.2.2.1, .slice a12_3 e13.2.2.2.length c12_3]) (Yields.loadAggRo 0 4 #[.int .i64 e13.1, sv e13.2.1, .bool e13.2.2.1, .slice a12_3 e13.2.2.2.length c12_3] hat12 (by kernel_rfl) Tryz.underlying30 rfl (by kernel_rfl) (by kernel_rfl) (by kernel_rfl)) rfl rfl (Ok.op rfl (OpOk.alloc (z := .agg #[.int .i64 0, sv ([] : Bs), .bool false, .slice none 0 0]) (cs := #[.int .i64 0, sv ([] : Bs), .bool false, .slice none 0 0]) (by kernel_rfl) (by kernel_rfl) rfl fun bs8i23 => ?_)))
       refine Ok.bat 1 [1, 2, 15, 16, 17] [(7, .int .i64 x17l15i23), (8, pv bs8i23 0), (21, .agg #[.int .i64 e13.1, sv e13.2.1, .bool e13.2.2.1, .slice a12_3 e13.2.2.2.length c12_3])] ?_
       refine Ok.op rfl (OpOk.sto (k := 4) (v := .agg #[.int .i64 e13.1, sv e13.2.1, .bool e13.2.2.1, .slice a12_3 e13.2.2.2.length c12_3]) 0 #[.int .i64 e13.1, sv e13.2.1, .bool e13.2.2.1, .slice a12_3 e13.2.2.2.length c12_3] rfl rfl rfl ?_)
       refine Ok.nil (Ok.thenN (Ok.seq (Ok.region (Ok.bat 2 [1, 2, 8, 15, 16, 17] [(22, .slice a7_0 (rsaS xops).length c7_0), (23, .int .i64 x17l15i23)] ?_))))
       obtain ⟨h016, h116, hF⟩ := hF
       have he16 := get_of (l := (rsaS xops)) (default : AN) h116
       generalize hg16 : ((rsaS xops).getD (Int.toNat x17l15i23) default) = e16 at he16 hF ⊢
       refine Ok.op rfl (OpOk.indexRo (e := .pair (.int .i64) (.pair (.str) (.pair (.bool) (.slice (.str))))) (i := x17l15i23) (el := e16) rfl rfl Tryz.underlying23 (by kernel_rfl) hR7_0 h016 he16 rfl fun q15 o15 cs15 _ hat15 hr15 => ?_)
       obtain ⟨_, _, rfl, rfl, ⟨_, _, rfl, rfl, ⟨_, _, rfl, rfl, ⟨a15_3, c15_3, rfl, hm15_3, hr15_3⟩⟩⟩⟩ := hr15
       have hR15_3 : Rep gl15i23 (.slice (.str)) [.slice a15_3 e16.2.2.2.length c15_3] e16.2.2.2 := ⟨a15_3, c15_3, rfl, hm15_3, hr15_3⟩
       replace hat15 : At gl15i23 q15 o15 [.int .i64 e16.1, sv e16.2.1, .bool e16.2.2.1, .slice a15_3 e16.2.2.2.length c15_3] := hat15
       refine Ok.op rfl (OpOk.step (v := .agg #[.int .i64 e16.1, sv e16.2.1, .bool e16.2.2.1, .slice a15_3 e16.2.2.2.length c15_3]) (Yields.loadAggRo 0 4 #[.int .i64 e16.1, sv e16.2.1, .bool e16.2.2.1, .slice a15_3 e16.2.2.2.length c15_3] hat15 (by kernel_rfl) Tryz.underlying30 rfl (by kernel_rfl) (by kernel_rfl) (by kernel_rfl)) rfl rfl (Ok.op rfl (OpOk.alloc (z := .agg #[.int .i64 0, sv ([] : Bs), .bool false, .slice none 0 0]) (cs := #[.int .i64 0, sv ([] : Bs), .bool false, .slice none 0 0]) (by kernel_rfl) (by kernel_rfl) rfl fun bs9i23 => ?_)))
       refine Ok.op rfl (OpOk.sto (k := 4) (v := .agg #[.int .i64 e16.1, sv e16.2.1, .bool e16.2.2.1, .slice a15_3 e16.2.2.2.length c15_3]) 0 #[.int .i64 e16.1, sv e16.2.1, .bool e16.2.2.1, .slice a15_3 e16.2.2.2.length c15_3] rfl rfl rfl ?_)
       refine Ok.nil (Ok.thenN (Ok.seq (Ok.region (Ok.bat 1 [1, 2, 8, 15, 16, 17] [(9, pv bs9i23 0), (26, .func (.func 7) #[] #[])] ?_))))
       refine Ok.op rfl (OpOk.step (v := .agg #[.int .i64 e13.1, sv e13.2.1, .bool e13.2.2.1, .slice a12_3 e13.2.2.2.length c12_3]) (Yields.loadAgg 1 4 #[.int .i64 e13.1, sv e13.2.1, .bool e13.2.2.1, .slice a12_3 e13.2.2.2.length c12_3] rfl rfl Tryz.underlying30 rfl (by kernel_rfl) (by kernel_rfl) (by kernel_rfl)) rfl rfl (Ok.op rfl (OpOk.step (v := .agg #[.int .i64 e16.1, sv e16.2.1, .bool e16.2.2.1, .slice a15_3 e16.2.2.2.length c15_3]) (Yields.loadAgg 0 4 #[.int .i64 e16.1, sv e16.2.1, .bool e16.2.2.1, .slice a15_3 e16.2.2.2.length c15_3] rfl rfl Tryz.underlying30 rfl (by kernel_rfl) (by kernel_rfl) (by kernel_rfl)) rfl rfl ?_)))
       obtain ⟨hp18, hF⟩ := hF
       refine Ok.op rfl (OpOk.callG (v := .bool (sstS e13 e16)) enr (fun W hW => sst_c e13 e16 (hR12_3.mono hW.sees) (hR15_3.mono hW.sees) hp18) rfl ?_)
       refine Ok.bat 1 [1, 2, 15, 16, 17] [(30, .bool (!(sstS e13 e16)))] ?_
       refine Ok.nil (Ok.thenN (Ok.cond (b := !(sstS e13 e16)) rfl (fun hc19 => ?_) (fun hc19 => ?_)))
       ·replace hF := hF.1 hc19
        refine Ok.seq (Ok.region (Ok.batch 1 [(6, .bool false)] (by kernel_rfl) (Ok.nil (Ok.thenN (Ok.ret (Ok.blockR (Ok.thenR (Ok.thenR (Ok.blockR (Ok.thenR (Ok.back (vs := [.bool false]) (.inl rfl) rfl (.cons (.tmp rfl) .nil) rfl ?_)))))))))))
        subst hg16
        subst hg13
        exact fun a W hA hW => ⟨gl15i23, hxl15i23, false, hA.sub (by kernel_rfl), hW.sub (.cons _ (.cons _ .slnil)), hF⟩
       ·replace hF := hF.2 hc19
        refine Ok.skip (Ok.blockN (Ok.thenN (Ok.region (Ok.bat 2 [1, 2, 15, 16] [(17, .int .i64 (w6 (x17l15i23 + 1)))] ?_))))
        refine Ok.nil (Ok.thenN ?_)
        subst hg16
        subst hg13
        exact fun a W hA hW => ⟨k15x1, Nat.lt_succ_self _, gl15i23, hxl15i23, w6 (x17l15i23 + 1), hA.sub (by kernel_rfl), hW.sub (.cons _ (.cons _ .slnil)), hF⟩
      ·replace hF := hF.2 hc11
       refine Ok.exit (Ok.thenE (Ok.thenE (Ok.blockHit (Ok.thenN (Ok.seq (Ok.region (Ok.batch 1 [(6, .bool true)] (by kernel_rfl) (Ok.nil (Ok.thenN (Ok.ret (Ok.back (vs := [.bool true]) (.inl rfl) rfl (.cons (.tmp rfl) .nil) rfl ?_)))))))))))
       exact fun a W hA hW => ⟨gl15i23, hxl15i23, true, hA.sub (by kernel_rfl), hW, hF⟩
  ·
   clear hF
   rintro a W ⟨gji38, hxji38, x23ji38, hA, hW, hF⟩
   refine (?_ : Ok _ _ _ _ _ _) a W hA hW
   clear hA hW
   replace hG0 := hG0.mono hxji38.1
   replace hG1 := hG1.mono hxji38.1
   replace hG2 := hG2.mono hxji38.1
   replace hG3 := hG3.mono hxji38.1
   replace hG4 := hG4.mono hxji38.1
   replace hG5 := hG5.mono hxji38.1
   refine Ok.bat 1 [4] [(24, .bool x23ji38)] ?_
   refine Ok.midway 3 [(27, .bool (x23ji38 && ((srnS xops).2 == 0)))] (fun hR8 => ?_) ?_
   ·refine Ok.boolAt 24 (x23ji38) rfl (fun hc9 => ?_) (fun hc9 => ?_)
    ·skip
     refine Ok.batch 3 [(27, .bool ((srnS xops).2 == 0))] (by kernel_rfl) (Ok.reval 27 rfl (show (.bool ((srnS xops).2 == 0) : Value) = .bool (x23ji38 && ((srnS xops).2 == 0)) from congrArg Value.bool (mand_t hc9)) (Ok.batch 0 [(27, .bool (x23ji38 && ((srnS xops).2 == 0)))] (by kernel_rfl) ?_))
     exact hR8
    ·skip
     refine Ok.batch 3 [(27, .bool false)] (by kernel_rfl) (Ok.reval 27 rfl (show (.bool false : Value) = .bool (x23ji38 && ((srnS xops).2 == 0)) from congrArg Value.bool (mand_f hc9)) (Ok.batch 0 [(27, .bool (x23ji38 && ((srnS xops).2 == 0)))] (by kernel_rfl) ?_))
     exact hR8
   refine Ok.batch 1 [(2, .bool (x23ji38 && ((srnS xops).2 == 0)))] (by kernel_rfl) (Ok.nil (Ok.thenN (Ok.ret ?_)))
   exact Ok.resH (vs := [.bool (x23ji38 && ((srnS xops).2 == 0))]) (.inl rfl) rfl (.cons (.tmp rfl) .nil) ((hx2.trans hx7).trans hxji38) ⟨(x23ji38 && ((srnS xops).2 == 0)), rfl, rfl, hF⟩
theorem op_keys (all : List KP) (o : OP) : (opS all o).1.2.2.2.length ≤ all.length := by
 unfold opS
 repeat' split
 all_goals first
  | exact Nat.zero_le _
  | (show ((all.filter (own (gOf o))).map fun x => x.2.1).length ≤ _; rw [List.length_map]; exact List.length_filter_le _ _)
  | (unfold ansS; split <;> exact Nat.zero_le _)
theorem all_keys : ∀ (l : List OP) {n : Nat} {all : List KP} {D : List (Bt × DR)} (out : List AN), Rel n all D → n + l.length ≤ 1000 → (∀ a ∈ out, a.2.2.2.length ≤ 1000) → ∀ a ∈ allS l all out, a.2.2.2.length ≤ 1000
 | [], _, _, _, _, _, _, h => h
 | o :: l, n, all, D, out, hR, hn, h => by
  rw [List.length_cons] at hn
  refine all_keys l _ (step_ok hR o).2 (by omega) fun a ha => ?_
  rcases List.mem_append.1 ha with ha | ha
  ·exact h a ha
  ·rw [List.mem_singleton.1 ha]
   have := op_keys all o
   have := hR.len
   omega
def lssP (l : List OP) : Prop := DomS (.slice (.pair (.int .i64) (.pair (.str) (.pair (.str) (.str))))) l
theorem sst_same (a : AN) : sstS a a = true := by
 unfold sstS seqqS
 simp
theorem lss_F (l : List OP) (hp0 : lssP l) : lssF l (fun r => r = true) := by
 have hp : srnP l := fun o ho => by
  have h1 := (hp0.2.2 o ho).2.2
  exact ⟨Nat.le_trans h1.1 (by decide), Nat.le_trans h1.2 (by decide)⟩
 refine ⟨hp, fun h => ?_, fun h => ?_⟩
 ·have e : srnS l = ([], 2) := by unfold srnS; rw [if_pos h]
  rw [e]; rfl
 ·have hl : l.length ≤ 100 := by have := of_decide_eq_false h; omega
  have e : srnS l = (rsaS l, 0) := by
   unfold srnS; rw [if_neg (by rw [h]; decide)]
   unfold rsaS
   rw [all_run l [] Rel.start]
  have hk := all_keys l [] Rel.start (by omega) (fun a ha => by cases ha)
  rw [e]
  have hend : lssji38 l (fun r => r = true) true := by
   unfold lssji38; rw [e]; rfl
  refine ⟨⟨hl, hp⟩, fun h2 => ?_, fun _ => ?_⟩
  ·rw [bne_self_eq_false] at h2; cases h2
  ·have hrl : (rsaS l).length ≤ 1000 := by
    have key : ∀ (l : List OP) (all : List KP) (out : List AN), (allS l all out).length = out.length + l.length := fun l => by
     induction l with
     | nil => intro all out; rfl
     | cons o l ih =>
      intro all out
      show (allS l _ _).length = _
      rw [ih, List.length_append, List.length_cons]; simp only [List.length_cons, List.length_nil]; omega
    unfold rsaS; rw [key]
    have e0 : ([] : List AN).length = 0 := rfl
    omega
   have loop : ∀ (k i : Nat), i + k = (rsaS l).length → lssl15x1 l (fun r => r = true) (k + 1) (i : Int) := by
    intro k
    induction k with
    | zero =>
     intro i hi
     refine ⟨fun h => (by have := of_decide_eq_true h; rw [e] at this; dsimp only at this; omega), fun _ => hend⟩
    | succ k ih =>
     intro i hi
     refine ⟨fun _ => ?_, fun h => (by have := of_decide_eq_false h; rw [e] at this; dsimp only at this; omega)⟩
     rw [e, Int.toNat_natCast]
     dsimp only
     have hm : (rsaS l).getD i default ∈ rsaS l := getD_in (by omega)
     have hb := hk _ hm
     refine ⟨by omega, by omega, by omega, by omega, ⟨by omega, by omega⟩, fun h3 => ?_, fun _ => ?_⟩
     ·rw [sst_same] at h3; cases h3
     ·rw [w64 (by omega)]
      exact ih (i + 1) (by omega)
   exact ⟨_, loop (rsaS l).length 0 (by omega)⟩
theorem lss_c {g : Ghost} {axops_0 : Option Addr} {cxops_0 : Nat} (xops : List (Int × Bs × Bs × Bs)) (hRxops_0 : Rep g (.slice (.pair (.int .i64) (.pair (.str) (.pair (.str) (.str))))) [.slice axops_0 xops.length cxops_0] xops) (hG0 : SomeInt g 0) (hG1 : GlobL g 1 (.int .u64) DPow) (hG2 : SomeIf g 2) (hG3 : SomeIf g 3) (hG4 : GlobL g 4 (.int .u8) DFirst) (hG5 : GlobL g 5 (.pair (.int .u8) (.int .u8)) DAcc)  (hp : lssP xops) : CallsG Tryz.prog 3 #[.slice axops_0 xops.length cxops_0] g (.bool ((fun _ => true) xops)) :=
 (lss_ok xops hRxops_0 hG0 hG1 hG2 hG3 hG4 hG5 _ (lss_F xops hp)).gives (by rintro g' H' v _ ⟨r0, rfl, rfl, hK⟩; subst hK; rfl)
end
end Go.Proofs.YtdjcgbejnpbjlaaGreatDoor.Sd
