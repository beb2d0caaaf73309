/- Code: the checker of a function (its form). -/
import Derived.Test.YtanhbfhpnjjgcaaDoorCcc
namespace Go.Proofs.YtanhbfhpnjjgcaaDoor.Cc
open Go Go.Eng Go.RowKit Fl
set_option linter.unusedVariables false
noncomputable section
def frmV0 (xc : ((List (Int × Int × List (Int) × List (Int × Int))) × (List (Int × Int × List UInt8)) × List (List (List UInt8))) × (Int × Int × List (Int) × List (Int × Int)) × Int × (List ((Int) × (Int × List (Int)))) × List (Int) × Bool) : Bool :=
 ((decide (xc.2.1.1 < 0)) || ((decide (xc.2.1.2.1 < 0)) || (decide (xc.2.1.1 > (w6 (xc.2.1.2.1 - (xc.2.1.2.2.1.length : Int)))))))
def frmV1 (xc : ((List (Int × Int × List (Int) × List (Int × Int))) × (List (Int × Int × List UInt8)) × List (List (List UInt8))) × (Int × Int × List (Int) × List (Int × Int)) × Int × (List ((Int) × (Int × List (Int)))) × List (Int) × Bool) (e5 : Int × Int) : Bool :=
 ((decide (e5.1 < 1)) || ((decide (e5.1 > 25)) || ((decide (e5.2 < 0)) || (decide (e5.2 ≥ (bndN xc e5))))))
def frmV3 (xc : ((List (Int × Int × List (Int) × List (Int × Int))) × (List (Int × Int × List UInt8)) × List (List (List UInt8))) × (Int × Int × List (Int) × List (Int × Int)) × Int × (List ((Int) × (Int × List (Int)))) × List (Int) × Bool) (e5 : Int × Int) (e13 : Int) : Bool :=
 (((e5.2 == 0) || (decide (e13 < 0))) || (decide (e13 ≥ xc.2.1.2.1)))
def frmj24 (x34l17 : Int) (C17 : Int → Prop) : Prop :=
 C17 (w6 (x34l17 + 1))
def frmj54 (xc : ((List (Int × Int × List (Int) × List (Int × Int))) × (List (Int × Int × List UInt8)) × List (List (List UInt8))) × (Int × Int × List (Int) × List (Int × Int)) × Int × (List ((Int) × (Int × List (Int)))) × List (Int) × Bool) (K : Bool → Prop) (e5 : Int × Int) (x73l43 : Int) (e13 : Int) (C43 : Int → Prop) : Prop :=
 (((frmV3 xc e5 e13)) = true → K false) ∧ (((frmV3 xc e5 e13)) = false → C43 (w6 (x73l43 + 1)))
def frml43b (xc : ((List (Int × Int × List (Int) × List (Int × Int))) × (List (Int × Int × List UInt8)) × List (List (List UInt8))) × (Int × Int × List (Int) × List (Int × Int)) × Int × (List ((Int) × (Int × List (Int)))) × List (Int) × Bool) (K : Bool → Prop) (e5 : Int × Int) (x34l17 : Int) (C17 : Int → Prop) (e10 : Int × Int × List (Int) × List (Int × Int)) (x73l43 : Int) (C43 : Int → Prop) : Prop :=
 ((decide (x73l43 < (e10.2.2.1.length : Int))) = true → (0 : Int) ≤ x73l43 ∧ Int.toNat x73l43 < e10.2.2.1.length ∧ ((((e5.2 == 0) || (decide ((e10.2.2.1.getD (Int.toNat x73l43) default) < 0)))) = true → frmj54 xc K e5 x73l43 (e10.2.2.1.getD (Int.toNat x73l43) default) C43) ∧ ((((e5.2 == 0) || (decide ((e10.2.2.1.getD (Int.toNat x73l43) default) < 0)))) = false → frmj54 xc K e5 x73l43 (e10.2.2.1.getD (Int.toNat x73l43) default) C43)) ∧ ((decide (x73l43 < (e10.2.2.1.length : Int))) = false → (((e5.2 == 0)) = true → K false) ∧ (((e5.2 == 0)) = false → frmj24 x34l17 C17))
def frml43 (xc : ((List (Int × Int × List (Int) × List (Int × Int))) × (List (Int × Int × List UInt8)) × List (List (List UInt8))) × (Int × Int × List (Int) × List (Int × Int)) × Int × (List ((Int) × (Int × List (Int)))) × List (Int) × Bool) (K : Bool → Prop) (e5 : Int × Int) (x34l17 : Int) (C17 : Int → Prop) (e10 : Int × Int × List (Int) × List (Int × Int)) : Nat → Int → Prop
 | 0, _ => False
 | k + 1, x73l43 => frml43b xc K e5 x34l17 C17 e10 x73l43 (frml43 xc K e5 x34l17 C17 e10 k)
def frmj29 (xc : ((List (Int × Int × List (Int) × List (Int × Int))) × (List (Int × Int × List UInt8)) × List (List (List UInt8))) × (Int × Int × List (Int) × List (Int × Int)) × Int × (List ((Int) × (Int × List (Int)))) × List (Int) × Bool) (K : Bool → Prop) (e5 : Int × Int) (x34l17 : Int) (C17 : Int → Prop) : Prop :=
 (((frmV1 xc e5)) = true → K false) ∧ (((frmV1 xc e5)) = false → (((e5.1 == 16)) = true → (0 : Int) ≤ e5.2 ∧ Int.toNat e5.2 < xc.1.1.length ∧ ∃ k, frml43 xc K e5 x34l17 C17 (xc.1.1.getD (Int.toNat e5.2) default) k 0) ∧ (((e5.1 == 16)) = false → frmj24 x34l17 C17))
def frml17b (xc : ((List (Int × Int × List (Int) × List (Int × Int))) × (List (Int × Int × List UInt8)) × List (List (List UInt8))) × (Int × Int × List (Int) × List (Int × Int)) × Int × (List ((Int) × (Int × List (Int)))) × List (Int) × Bool) (K : Bool → Prop) (x34l17 : Int) (C17 : Int → Prop) : Prop :=
 ((decide (x34l17 < (xc.2.1.2.2.2.length : Int))) = true → (0 : Int) ≤ x34l17 ∧ Int.toNat x34l17 < xc.2.1.2.2.2.length ∧ ((decide ((xc.2.1.2.2.2.getD (Int.toNat x34l17) default).1 < 1)) = true → frmj29 xc K (xc.2.1.2.2.2.getD (Int.toNat x34l17) default) x34l17 C17) ∧ ((decide ((xc.2.1.2.2.2.getD (Int.toNat x34l17) default).1 < 1)) = false → ((decide ((xc.2.1.2.2.2.getD (Int.toNat x34l17) default).1 > 25)) = true → frmj29 xc K (xc.2.1.2.2.2.getD (Int.toNat x34l17) default) x34l17 C17) ∧ ((decide ((xc.2.1.2.2.2.getD (Int.toNat x34l17) default).1 > 25)) = false → ((decide ((xc.2.1.2.2.2.getD (Int.toNat x34l17) default).2 < 0)) = true → frmj29 xc K (xc.2.1.2.2.2.getD (Int.toNat x34l17) default) x34l17 C17) ∧ ((decide ((xc.2.1.2.2.2.getD (Int.toNat x34l17) default).2 < 0)) = false → frmj29 xc K (xc.2.1.2.2.2.getD (Int.toNat x34l17) default) x34l17 C17)))) ∧ ((decide (x34l17 < (xc.2.1.2.2.2.length : Int))) = false → K true)
def frml17 (xc : ((List (Int × Int × List (Int) × List (Int × Int))) × (List (Int × Int × List UInt8)) × List (List (List UInt8))) × (Int × Int × List (Int) × List (Int × Int)) × Int × (List ((Int) × (Int × List (Int)))) × List (Int) × Bool) (K : Bool → Prop) : Nat → Int → Prop
 | 0, _ => False
 | k + 1, x34l17 => frml17b xc K x34l17 (frml17 xc K k)
def frmj6 (xc : ((List (Int × Int × List (Int) × List (Int × Int))) × (List (Int × Int × List UInt8)) × List (List (List UInt8))) × (Int × Int × List (Int) × List (Int × Int)) × Int × (List ((Int) × (Int × List (Int)))) × List (Int) × Bool) (K : Bool → Prop) : Prop :=
 (((frmV0 xc)) = true → K false) ∧ (((frmV0 xc)) = false → ∃ k, frml17 xc K k 0)
def frmF (xc : ((List (Int × Int × List (Int) × List (Int × Int))) × (List (Int × Int × List UInt8)) × List (List (List UInt8))) × (Int × Int × List (Int) × List (Int × Int)) × Int × (List ((Int) × (Int × List (Int)))) × List (Int) × Bool) (K : Bool → Prop) : Prop :=
 ((decide (xc.2.1.1 < 0)) = true → frmj6 xc K) ∧ ((decide (xc.2.1.1 < 0)) = false → ((decide (xc.2.1.2.1 < 0)) = true → frmj6 xc K) ∧ ((decide (xc.2.1.2.1 < 0)) = false → frmj6 xc K))
set_option maxHeartbeats 4000000 in
set_option maxRecDepth 100000 in
set_option linter.unusedVariables false in
theorem frm_ok {g : Ghost} {bxc : Nat} {axc_0 : Option Addr} {cxc_0 : Nat} {axc_1 : Option Addr} {cxc_1 : Nat} {axc_2 : Option Addr} {cxc_2 : Nat} {axc_3 : Option Addr} {cxc_3 : Nat} {axc_4 : Option Addr} {cxc_4 : Nat} {mvxc : Value} {mvxc_9 : Value} (xc : ((List (Int × Int × List (Int) × List (Int × Int))) × (List (Int × Int × List UInt8)) × List (List (List UInt8))) × (Int × Int × List (Int) × List (Int × Int)) × Int × (List ((Int) × (Int × List (Int)))) × List (Int) × Bool) (hRxc_0 : Rep g (.slice (.pair (.int .i64) (.pair (.int .i64) (.pair (.slice (.int .i64)) (.slice (.pair (.int .i64) (.int .i64))))))) [.slice axc_0 xc.1.1.length cxc_0] xc.1.1) (hRxc_1 : Rep g (.slice (.pair (.int .i64) (.pair (.int .i64) (.str)))) [.slice axc_1 xc.1.2.1.length cxc_1] xc.1.2.1) (hRxc_2 : Rep g (.slice (.slice (.str))) [.slice axc_2 xc.1.2.2.length cxc_2] xc.1.2.2) (hRxc_3 : Rep g (.slice (.int .i64)) [.slice axc_3 xc.2.1.2.2.1.length cxc_3] xc.2.1.2.2.1) (hRxc_4 : Rep g (.slice (.pair (.int .i64) (.int .i64))) [.slice axc_4 xc.2.1.2.2.2.length cxc_4] xc.2.1.2.2.2) (hG0 : GlobL g 0 (.int .u8) DSpace) (K : Bool → Prop)
  (hF : frmF xc K) : CallsH Tryd.prog 8 #[.pointer (some ⟨bxc, 0, none⟩)] g [.blk bxc (.cells #[.slice axc_0 xc.1.1.length cxc_0, .slice axc_1 xc.1.2.1.length cxc_1, .slice axc_2 xc.1.2.2.length cxc_2, .int .i64 xc.2.1.1, .int .i64 xc.2.1.2.1, .slice axc_3 xc.2.1.2.2.1.length cxc_3, .slice axc_4 xc.2.1.2.2.2.length cxc_4, .int .i64 xc.2.2.1, mvxc, mvxc_9, .bool xc.2.2.2.2.2] 37)] (fun g' H' v => ∃ (r0 : Bool), v = .bool r0 ∧ H' = [.blk bxc (.cells #[.slice axc_0 xc.1.1.length cxc_0, .slice axc_1 xc.1.2.1.length cxc_1, .slice axc_2 xc.1.2.2.length cxc_2, .int .i64 xc.2.1.1, .int .i64 xc.2.1.2.1, .slice axc_3 xc.2.1.2.2.1.length cxc_3, .slice axc_4 xc.2.1.2.2.2.length cxc_4, .int .i64 xc.2.2.1, mvxc, mvxc_9, .bool xc.2.2.2.2.2] 37)] ∧ K r0) := by
 refine CallsH.enter 95 [(0, .pointer (some ⟨bxc, 0, none⟩))] Tryd.func8 rfl (by kernel_rfl) (by kernel_rfl) (by kernel_rfl) fun w0 => ?_
 refine Ok.seq ?_
 refine Ok.region ?_
 refine Ok.batch 1 [(0, .pointer (some ⟨bxc, 0, none⟩))] (by kernel_rfl) ?_
 refine Ok.nil ?_
 refine Ok.thenN ?_
 refine Ok.seq ?_
 refine Ok.region ?_
 refine Ok.batch 3 [(0, .pointer (some ⟨bxc, 0, none⟩)), (10, .pointer (some ⟨bxc, 3, none⟩))] (by kernel_rfl) ?_
 refine Ok.op rfl (OpOk.step (v := .agg #[.int .i64 xc.2.1.1, .int .i64 xc.2.1.2.1, .slice axc_3 xc.2.1.2.2.1.length cxc_3, .slice axc_4 xc.2.1.2.2.2.length cxc_4]) (Yields.loadAgg 0 4 #[.int .i64 xc.2.1.1, .int .i64 xc.2.1.2.1, .slice axc_3 xc.2.1.2.2.1.length cxc_3, .slice axc_4 xc.2.1.2.2.2.length cxc_4] rfl rfl Tryd.underlying33 rfl (by kernel_rfl) (by kernel_rfl) (by kernel_rfl)) rfl rfl ?_)
 refine Ok.op rfl (OpOk.alloc (z := .agg #[.int .i64 0, .int .i64 0, .slice none 0 0, .slice none 0 0]) (cs := #[.int .i64 0, .int .i64 0, .slice none 0 0, .slice none 0 0]) (by kernel_rfl) (by kernel_rfl) rfl fun bs3 => ?_)
 refine Ok.op rfl (OpOk.store (k := 4) (v := .agg #[.int .i64 xc.2.1.1, .int .i64 xc.2.1.2.1, .slice axc_3 xc.2.1.2.2.1.length cxc_3, .slice axc_4 xc.2.1.2.2.2.length cxc_4]) (H' := [.blk bs3 (.cells #[.int .i64 xc.2.1.1, .int .i64 xc.2.1.2.1, .slice axc_3 xc.2.1.2.2.1.length cxc_3, .slice axc_4 xc.2.1.2.2.2.length cxc_4] 33), .blk bxc (.cells #[.slice axc_0 xc.1.1.length cxc_0, .slice axc_1 xc.1.2.1.length cxc_1, .slice axc_2 xc.1.2.2.length cxc_2, .int .i64 xc.2.1.1, .int .i64 xc.2.1.2.1, .slice axc_3 xc.2.1.2.2.1.length cxc_3, .slice axc_4 xc.2.1.2.2.2.length cxc_4, .int .i64 xc.2.2.1, mvxc, mvxc_9, .bool xc.2.2.2.2.2] 37)]) 0 rfl rfl rfl (by kernel_rfl) (by kernel_rfl) (by kernel_rfl) (by kernel_rfl) (by kernel_rfl) ?_)
 refine Ok.nil ?_
 refine Ok.thenN ?_
 refine Ok.seq ?_
 refine Ok.cut (fun a W => ∃ gj6 : Ghost, Gext w0 g gj6 ∧ StA 95 [(0, .pointer (some ⟨bxc, 0, none⟩)), (3, .pointer (some ⟨bs3, 0, none⟩)), (30, .bool (frmV0 xc))] a ∧ StW w0 [.blk bs3 (.cells #[.int .i64 xc.2.1.1, .int .i64 xc.2.1.2.1, .slice axc_3 xc.2.1.2.2.1.length cxc_3, .slice axc_4 xc.2.1.2.2.2.length cxc_4] 33), .blk bxc (.cells #[.slice axc_0 xc.1.1.length cxc_0, .slice axc_1 xc.1.2.1.length cxc_1, .slice axc_2 xc.1.2.2.length cxc_2, .int .i64 xc.2.1.1, .int .i64 xc.2.1.2.1, .slice axc_3 xc.2.1.2.2.1.length cxc_3, .slice axc_4 xc.2.1.2.2.2.length cxc_4, .int .i64 xc.2.2.1, mvxc, mvxc_9, .bool xc.2.2.2.2.2] 37)] gj6 W ∧ frmj6 xc K) ?_ ?_
 ·
  refine Ok.region ?_
  refine Ok.batch 1 [(0, .pointer (some ⟨bxc, 0, none⟩)), (3, .pointer (some ⟨bs3, 0, none⟩)), (12, .pointer (some ⟨bs3, 0, none⟩))] (by kernel_rfl) ?_
  refine Ok.op rfl (OpOk.step (v := .int .i64 xc.2.1.1) (Yields.load 0 rfl rfl Tryd.underlying3 rfl (by kernel_rfl)) rfl rfl ?_)
  refine Ok.batch 2 [(0, .pointer (some ⟨bxc, 0, none⟩)), (3, .pointer (some ⟨bs3, 0, none⟩)), (15, .bool (decide (xc.2.1.1 < 0)))] (by kernel_rfl) ?_
  refine Ok.boolAt 15 (decide (xc.2.1.1 < 0)) rfl (fun hc23 => ?_) (fun hc23 => ?_)
  ·replace hF := hF.1 hc23
   refine Ok.batch 15 [(0, .pointer (some ⟨bxc, 0, none⟩)), (3, .pointer (some ⟨bs3, 0, none⟩)), (30, .bool true)] (by kernel_rfl) ?_
   refine Ok.nil ?_
   refine Ok.thenN ?_
   refine Ok.reval 30 rfl (show (.bool true : Value) = .bool (frmV0 xc) from congrArg (Value.bool) (mor_t hc23)) ?_
   exact fun a W hA hW => ⟨g, (Gext.refl w0 g), hA.sub (by kernel_rfl), hW, hF⟩
  ·replace hF := hF.2 hc23
   refine Ok.batch 1 [(0, .pointer (some ⟨bxc, 0, none⟩)), (3, .pointer (some ⟨bs3, 0, none⟩)), (15, .bool false), (16, .pointer (some ⟨bs3, 1, none⟩))] (by kernel_rfl) ?_
   refine Ok.opYes (j := 3) (d := 15) (want := false) (b := false) rfl (by kernel_rfl) (by kernel_rfl) rfl (OpOk.step (v := .int .i64 xc.2.1.2.1) (Yields.load 0 rfl rfl Tryd.underlying3 rfl (by kernel_rfl)) rfl rfl ?_)
   refine Ok.batch 3 [(0, .pointer (some ⟨bxc, 0, none⟩)), (3, .pointer (some ⟨bs3, 0, none⟩)), (20, .bool (decide (xc.2.1.2.1 < 0)))] (by kernel_rfl) ?_
   refine Ok.boolAt 20 (decide (xc.2.1.2.1 < 0)) rfl (fun hc24 => ?_) (fun hc24 => ?_)
   ·replace hF := hF.1 hc24
    refine Ok.batch 10 [(0, .pointer (some ⟨bxc, 0, none⟩)), (3, .pointer (some ⟨bs3, 0, none⟩)), (30, .bool true)] (by kernel_rfl) ?_
    refine Ok.nil ?_
    refine Ok.thenN ?_
    refine Ok.reval 30 rfl (show (.bool true : Value) = .bool (frmV0 xc) from congrArg (Value.bool) ((Eq.trans (mor_t hc24) (mor_f hc23)))) ?_
    exact fun a W hA hW => ⟨g, (Gext.refl w0 g), hA.sub (by kernel_rfl), hW, hF⟩
   ·replace hF := hF.2 hc24
    refine Ok.batch 1 [(0, .pointer (some ⟨bxc, 0, none⟩)), (3, .pointer (some ⟨bs3, 0, none⟩)), (20, .bool false), (21, .pointer (some ⟨bs3, 0, none⟩))] (by kernel_rfl) ?_
    refine Ok.opYes (j := 8) (d := 20) (want := false) (b := false) rfl (by kernel_rfl) (by kernel_rfl) rfl (OpOk.step (v := .int .i64 xc.2.1.1) (Yields.load 0 rfl rfl Tryd.underlying3 rfl (by kernel_rfl)) rfl rfl ?_)
    refine Ok.batch 1 [(0, .pointer (some ⟨bxc, 0, none⟩)), (3, .pointer (some ⟨bs3, 0, none⟩)), (20, .bool false), (22, .int .i64 xc.2.1.1), (23, .pointer (some ⟨bs3, 1, none⟩))] (by kernel_rfl) ?_
    refine Ok.opYes (j := 8) (d := 20) (want := false) (b := false) rfl (by kernel_rfl) (by kernel_rfl) rfl (OpOk.step (v := .int .i64 xc.2.1.2.1) (Yields.load 0 rfl rfl Tryd.underlying3 rfl (by kernel_rfl)) rfl rfl ?_)
    refine Ok.batch 1 [(0, .pointer (some ⟨bxc, 0, none⟩)), (3, .pointer (some ⟨bs3, 0, none⟩)), (20, .bool false), (22, .int .i64 xc.2.1.1), (24, .int .i64 xc.2.1.2.1), (25, .pointer (some ⟨bs3, 2, none⟩))] (by kernel_rfl) ?_
    refine Ok.opYes (j := 8) (d := 20) (want := false) (b := false) rfl (by kernel_rfl) (by kernel_rfl) rfl (OpOk.step (v := .slice axc_3 xc.2.1.2.2.1.length cxc_3) (Yields.load 0 rfl rfl Tryd.underlying30 rfl (by kernel_rfl)) rfl rfl ?_)
    refine Ok.batch 4 [(0, .pointer (some ⟨bxc, 0, none⟩)), (3, .pointer (some ⟨bs3, 0, none⟩)), (30, .bool (decide (xc.2.1.1 > (w6 (xc.2.1.2.1 - (xc.2.1.2.2.1.length : Int))))))] (by kernel_rfl) ?_
    refine Ok.nil ?_
    refine Ok.thenN ?_
    refine Ok.reval 30 rfl (show (.bool (decide (xc.2.1.1 > (w6 (xc.2.1.2.1 - (xc.2.1.2.2.1.length : Int))))) : Value) = .bool (frmV0 xc) from congrArg (Value.bool) ((Eq.trans (mor_f hc24) (mor_f hc23)))) ?_
    exact fun a W hA hW => ⟨g, (Gext.refl w0 g), hA.sub (by kernel_rfl), hW, hF⟩
 ·
  clear hF
  rintro a W ⟨gj6, hxj6, hA, hW, hF⟩
  refine (?_ : Ok _ _ _ _ _ _) a W hA hW
  clear hA hW
  replace hRxc_3 := hRxc_3.mono hxj6.1
  replace hRxc_4 := hRxc_4.mono hxj6.1
  replace hRxc_0 := hRxc_0.mono hxj6.1
  replace hRxc_1 := hRxc_1.mono hxj6.1
  replace hRxc_2 := hRxc_2.mono hxj6.1
  replace hG0 := hG0.mono hxj6.1
  refine Ok.cond (b := (frmV0 xc)) rfl (fun hc2 => ?_) (fun hc2 => ?_)
  ·replace hF := hF.1 hc2
   refine Ok.seq ?_
   refine Ok.region ?_
   refine Ok.batch 1 [(2, .bool false)] (by kernel_rfl) ?_
   refine Ok.nil ?_
   refine Ok.thenN ?_
   refine Ok.ret ?_
   refine Ok.thenR ?_
   exact Ok.resP (vs := [.bool false]) [1] [.blk bxc (.cells #[.slice axc_0 xc.1.1.length cxc_0, .slice axc_1 xc.1.2.1.length cxc_1, .slice axc_2 xc.1.2.2.length cxc_2, .int .i64 xc.2.1.1, .int .i64 xc.2.1.2.1, .slice axc_3 xc.2.1.2.2.1.length cxc_3, .slice axc_4 xc.2.1.2.2.2.length cxc_4, .int .i64 xc.2.2.1, mvxc, mvxc_9, .bool xc.2.2.2.2.2] 37)] (by decide) rfl (.inl rfl) rfl (.cons (.tmp rfl) .nil) hxj6 ⟨false, rfl, rfl, hF⟩
  ·replace hF := hF.2 hc2
   refine Ok.skip ?_
   refine Ok.thenN ?_
   refine Ok.seq ?_
   refine Ok.seq ?_
   refine Ok.region ?_
   refine Ok.batch 1 [(0, .pointer (some ⟨bxc, 0, none⟩)), (3, .pointer (some ⟨bs3, 0, none⟩)), (31, .pointer (some ⟨bs3, 3, none⟩))] (by kernel_rfl) ?_
   refine Ok.op rfl (OpOk.step (v := .slice axc_4 xc.2.1.2.2.2.length cxc_4) (Yields.load 0 rfl rfl Tryd.underlying31 rfl (by kernel_rfl)) rfl rfl ?_)
   refine Ok.batch 2 [(0, .pointer (some ⟨bxc, 0, none⟩)), (3, .pointer (some ⟨bs3, 0, none⟩)), (32, .slice axc_4 xc.2.1.2.2.2.length cxc_4), (33, .int .i64 (xc.2.1.2.2.2.length : Int)), (34, .int .i64 0)] (by kernel_rfl) ?_
   refine Ok.nil ?_
   refine Ok.thenN ?_
   refine Ok.block ?_
   obtain ⟨k, hF⟩ := hF
   refine Ok.loop (fun k a W => ∃ gl17 : Ghost, Gext w0 gj6 gl17 ∧ ∃ (x34l17 : Int), StA 95 [(0, .pointer (some ⟨bxc, 0, none⟩)), (3, .pointer (some ⟨bs3, 0, none⟩)), (32, .slice axc_4 xc.2.1.2.2.2.length cxc_4), (33, .int .i64 (xc.2.1.2.2.2.length : Int)), (34, .int .i64 x34l17)] a ∧ StW w0 [.blk bs3 (.cells #[.int .i64 xc.2.1.1, .int .i64 xc.2.1.2.1, .slice axc_3 xc.2.1.2.2.1.length cxc_3, .slice axc_4 xc.2.1.2.2.2.length cxc_4] 33), .blk bxc (.cells #[.slice axc_0 xc.1.1.length cxc_0, .slice axc_1 xc.1.2.1.length cxc_1, .slice axc_2 xc.1.2.2.length cxc_2, .int .i64 xc.2.1.1, .int .i64 xc.2.1.2.1, .slice axc_3 xc.2.1.2.2.1.length cxc_3, .slice axc_4 xc.2.1.2.2.2.length cxc_4, .int .i64 xc.2.2.1, mvxc, mvxc_9, .bool xc.2.2.2.2.2] 37)] gl17 W ∧ frml17 xc K k x34l17) k ?_ ?_
   ·
    exact fun a W hA hW => ⟨gj6, (Gext.refl w0 gj6), 0, hA.sub (by kernel_rfl), hW, hF⟩
   ·
    clear hF
    rintro k17 a W ⟨gl17, hxl17, x34l17, hA, hW, hF⟩
    cases k17 with
    | zero => exact (hF : False).elim
    | succ k17 =>
     refine (?_ : Ok _ _ _ _ _ _) a W hA hW
     clear hA hW
     replace hRxc_4 := hRxc_4.mono hxl17.1
     replace hRxc_3 := hRxc_3.mono hxl17.1
     replace hRxc_0 := hRxc_0.mono hxl17.1
     replace hRxc_1 := hRxc_1.mono hxl17.1
     replace hRxc_2 := hRxc_2.mono hxl17.1
     replace hG0 := hG0.mono hxl17.1
     refine Ok.seq ?_
     refine Ok.region ?_
     refine Ok.batch 1 [(0, .pointer (some ⟨bxc, 0, none⟩)), (3, .pointer (some ⟨bs3, 0, none⟩)), (32, .slice axc_4 xc.2.1.2.2.2.length cxc_4), (33, .int .i64 (xc.2.1.2.2.2.length : Int)), (34, .int .i64 x34l17), (35, .bool (decide (x34l17 < (xc.2.1.2.2.2.length : Int))))] (by kernel_rfl) ?_
     refine Ok.nil ?_
     refine Ok.thenN ?_
     refine Ok.seq ?_
     refine Ok.cond (b := decide (x34l17 < (xc.2.1.2.2.2.length : Int))) rfl (fun hc3 => ?_) (fun hc3 => ?_)
     ·replace hF := hF.1 hc3
      refine Ok.skip ?_
      refine Ok.thenN ?_
      refine Ok.cut (fun a W => ∃ gj24 : Ghost, Gext w0 gl17 gj24 ∧ StA 95 [(0, .pointer (some ⟨bxc, 0, none⟩)), (3, .pointer (some ⟨bs3, 0, none⟩)), (32, .slice axc_4 xc.2.1.2.2.2.length cxc_4), (33, .int .i64 (xc.2.1.2.2.2.length : Int)), (34, .int .i64 x34l17)] a ∧ StW w0 [.blk bxc (.cells #[.slice axc_0 xc.1.1.length cxc_0, .slice axc_1 xc.1.2.1.length cxc_1, .slice axc_2 xc.1.2.2.length cxc_2, .int .i64 xc.2.1.1, .int .i64 xc.2.1.2.1, .slice axc_3 xc.2.1.2.2.1.length cxc_3, .slice axc_4 xc.2.1.2.2.2.length cxc_4, .int .i64 xc.2.2.1, mvxc, mvxc_9, .bool xc.2.2.2.2.2] 37), .blk bs3 (.cells #[.int .i64 xc.2.1.1, .int .i64 xc.2.1.2.1, .slice axc_3 xc.2.1.2.2.1.length cxc_3, .slice axc_4 xc.2.1.2.2.2.length cxc_4] 33)] gj24 W ∧ frmj24 x34l17 (frml17 xc K k17)) ?_ ?_
      ·
       refine Ok.block ?_
       refine Ok.seq ?_
       refine Ok.region ?_
       obtain ⟨h05, h15, hF⟩ := hF
       have he5 := get_of (l := xc.2.1.2.2.2) (default : Int × Int) h15
       generalize hg5 : (xc.2.1.2.2.2.getD (Int.toNat x34l17) default) = e5 at he5 hF ⊢
       refine Ok.op rfl (OpOk.indexRo (e := .pair (.int .i64) (.int .i64)) (i := x34l17) (el := e5) rfl rfl Tryd.underlying31 (by kernel_rfl) hRxc_4 h05 he5 rfl fun q4 o4 cs4 _ hat4 hr4 => ?_)
       obtain ⟨_, _, rfl, rfl, rfl⟩ := hr4
       replace hat4 : At gl17 q4 o4 [.int .i64 e5.1, .int .i64 e5.2] := hat4
       refine Ok.op rfl (OpOk.step (v := .agg #[.int .i64 e5.1, .int .i64 e5.2]) (Yields.loadAggRo 0 2 #[.int .i64 e5.1, .int .i64 e5.2] hat4 (by kernel_rfl) Tryd.underlying46 rfl (by kernel_rfl) (by kernel_rfl) (by kernel_rfl)) rfl rfl ?_)
       refine Ok.op rfl (OpOk.alloc (z := .agg #[.int .i64 0, .int .i64 0]) (cs := #[.int .i64 0, .int .i64 0]) (by kernel_rfl) (by kernel_rfl) rfl fun bs5 => ?_)
       refine Ok.op rfl (OpOk.store (k := 2) (v := .agg #[.int .i64 e5.1, .int .i64 e5.2]) (H' := [.blk bs5 (.cells #[.int .i64 e5.1, .int .i64 e5.2] 46), .blk bs3 (.cells #[.int .i64 xc.2.1.1, .int .i64 xc.2.1.2.1, .slice axc_3 xc.2.1.2.2.1.length cxc_3, .slice axc_4 xc.2.1.2.2.2.length cxc_4] 33), .blk bxc (.cells #[.slice axc_0 xc.1.1.length cxc_0, .slice axc_1 xc.1.2.1.length cxc_1, .slice axc_2 xc.1.2.2.length cxc_2, .int .i64 xc.2.1.1, .int .i64 xc.2.1.2.1, .slice axc_3 xc.2.1.2.2.1.length cxc_3, .slice axc_4 xc.2.1.2.2.2.length cxc_4, .int .i64 xc.2.2.1, mvxc, mvxc_9, .bool xc.2.2.2.2.2] 37)]) 0 rfl rfl rfl (by kernel_rfl) (by kernel_rfl) (by kernel_rfl) (by kernel_rfl) (by kernel_rfl) ?_)
       refine Ok.nil ?_
       refine Ok.thenN ?_
       refine Ok.seq ?_
       refine Ok.cut (fun a W => ∃ gj29 : Ghost, Gext w0 gl17 gj29 ∧ StA 95 [(0, .pointer (some ⟨bxc, 0, none⟩)), (3, .pointer (some ⟨bs3, 0, none⟩)), (5, .pointer (some ⟨bs5, 0, none⟩)), (32, .slice axc_4 xc.2.1.2.2.2.length cxc_4), (33, .int .i64 (xc.2.1.2.2.2.length : Int)), (34, .int .i64 x34l17), (58, .bool (frmV1 xc e5))] a ∧ StW w0 [.blk bxc (.cells #[.slice axc_0 xc.1.1.length cxc_0, .slice axc_1 xc.1.2.1.length cxc_1, .slice axc_2 xc.1.2.2.length cxc_2, .int .i64 xc.2.1.1, .int .i64 xc.2.1.2.1, .slice axc_3 xc.2.1.2.2.1.length cxc_3, .slice axc_4 xc.2.1.2.2.2.length cxc_4, .int .i64 xc.2.2.1, mvxc, mvxc_9, .bool xc.2.2.2.2.2] 37), .blk bs5 (.cells #[.int .i64 e5.1, .int .i64 e5.2] 46), .blk bs3 (.cells #[.int .i64 xc.2.1.1, .int .i64 xc.2.1.2.1, .slice axc_3 xc.2.1.2.2.1.length cxc_3, .slice axc_4 xc.2.1.2.2.2.length cxc_4] 33)] gj29 W ∧ frmj29 xc K e5 x34l17 (frml17 xc K k17)) ?_ ?_
       ·
        refine Ok.entries [2, 0, 1] [.blk bxc (.cells #[.slice axc_0 xc.1.1.length cxc_0, .slice axc_1 xc.1.2.1.length cxc_1, .slice axc_2 xc.1.2.2.length cxc_2, .int .i64 xc.2.1.1, .int .i64 xc.2.1.2.1, .slice axc_3 xc.2.1.2.2.1.length cxc_3, .slice axc_4 xc.2.1.2.2.2.length cxc_4, .int .i64 xc.2.2.1, mvxc, mvxc_9, .bool xc.2.2.2.2.2] 37), .blk bs5 (.cells #[.int .i64 e5.1, .int .i64 e5.2] 46), .blk bs3 (.cells #[.int .i64 xc.2.1.1, .int .i64 xc.2.1.2.1, .slice axc_3 xc.2.1.2.2.1.length cxc_3, .slice axc_4 xc.2.1.2.2.2.length cxc_4] 33)] (by decide) rfl ?_
        refine Ok.mix [] [] [.blk bs5 (.cells #[.int .i64 e5.1, .int .i64 e5.2] 46), .blk bs3 (.cells #[.int .i64 xc.2.1.1, .int .i64 xc.2.1.2.1, .slice axc_3 xc.2.1.2.2.1.length cxc_3, .slice axc_4 xc.2.1.2.2.2.length cxc_4] 33)] [(0, true), (1, true), (2, true), (3, true), (4, true), (5, true), (6, true), (7, true), (8, true), (9, true), (10, true), (11, true), (12, true), (13, true), (14, true), (15, true), (16, true), (17, true), (18, false), (19, true), (20, true)] (by kernel_rfl) (by kernel_rfl) (.cons _ (.cons_cons _ (.cons_cons _ .slnil))) ?_
        refine OkM.batch 1 [(0, .pointer (some ⟨bxc, 0, none⟩)), (3, .pointer (some ⟨bs3, 0, none⟩)), (5, .pointer (some ⟨bs5, 0, none⟩)), (32, .slice axc_4 xc.2.1.2.2.2.length cxc_4), (33, .int .i64 (xc.2.1.2.2.2.length : Int)), (34, .int .i64 x34l17), (38, .pointer (some ⟨bs5, 0, none⟩))] (by kernel_rfl) ?_
        refine OkM.head rfl rfl (show _ = [.blk bs5 (.cells #[.int .i64 e5.1, .int .i64 e5.2] 46), .blk bs3 (.cells #[.int .i64 xc.2.1.1, .int .i64 xc.2.1.2.1, .slice axc_3 xc.2.1.2.2.1.length cxc_3, .slice axc_4 xc.2.1.2.2.2.length cxc_4] 33)] from rfl) (OpQ.step (v := .int .i64 e5.1) (Yields.load 0 rfl rfl Tryd.underlying3 rfl (by kernel_rfl)) rfl rfl ?_)
        refine OkM.batch 2 [(0, .pointer (some ⟨bxc, 0, none⟩)), (3, .pointer (some ⟨bs3, 0, none⟩)), (5, .pointer (some ⟨bs5, 0, none⟩)), (32, .slice axc_4 xc.2.1.2.2.2.length cxc_4), (33, .int .i64 (xc.2.1.2.2.2.length : Int)), (34, .int .i64 x34l17), (41, .bool (decide (e5.1 < 1)))] (by kernel_rfl) ?_
        refine OkM.boolAt 41 (decide (e5.1 < 1)) rfl (fun hc19 => ?_) (fun hc19 => ?_)
        ·replace hF := hF.1 hc19
         refine OkM.batch 14 [(0, .pointer (some ⟨bxc, 0, none⟩)), (3, .pointer (some ⟨bs3, 0, none⟩)), (5, .pointer (some ⟨bs5, 0, none⟩)), (32, .slice axc_4 xc.2.1.2.2.2.length cxc_4), (33, .int .i64 (xc.2.1.2.2.2.length : Int)), (34, .int .i64 x34l17), (51, .bool true), (53, undef), (54, undef), (55, undef)] (by kernel_rfl) ?_
         refine OkM.tailNo (j := 13) (d := 51) (want := false) (b := true) rfl rfl (by kernel_rfl) (by kernel_rfl) rfl rfl (by kernel_rfl) (show _ = [.blk bs5 (.cells #[.int .i64 e5.1, .int .i64 e5.2] 46), .blk bs3 (.cells #[.int .i64 xc.2.1.1, .int .i64 xc.2.1.2.1, .slice axc_3 xc.2.1.2.2.1.length cxc_3, .slice axc_4 xc.2.1.2.2.2.length cxc_4] 33)] from rfl) (Gle.refl _) (.cons _ (.cons_cons _ (.cons_cons _ .slnil))) ?_
         refine OkM.batch 2 [(0, .pointer (some ⟨bxc, 0, none⟩)), (3, .pointer (some ⟨bs3, 0, none⟩)), (5, .pointer (some ⟨bs5, 0, none⟩)), (32, .slice axc_4 xc.2.1.2.2.2.length cxc_4), (33, .int .i64 (xc.2.1.2.2.2.length : Int)), (34, .int .i64 x34l17), (58, .bool true)] (by kernel_rfl) ?_
         refine OkM.nil ?_
         refine Ok.thenN ?_
         refine Ok.reval 58 rfl (show (.bool true : Value) = .bool (frmV1 xc e5) from congrArg (Value.bool) (mor_t hc19)) ?_
         exact fun a W hA hW => ⟨gl17, (Gext.refl w0 gl17), hA.sub (by kernel_rfl), hW, hF⟩
        ·replace hF := hF.2 hc19
         refine OkM.batch 1 [(0, .pointer (some ⟨bxc, 0, none⟩)), (3, .pointer (some ⟨bs3, 0, none⟩)), (5, .pointer (some ⟨bs5, 0, none⟩)), (32, .slice axc_4 xc.2.1.2.2.2.length cxc_4), (33, .int .i64 (xc.2.1.2.2.2.length : Int)), (34, .int .i64 x34l17), (41, .bool false), (42, .pointer (some ⟨bs5, 0, none⟩))] (by kernel_rfl) ?_
         refine OkM.headYes (j := 3) (d := 41) (want := false) (b := false) rfl rfl (show _ = [.blk bs5 (.cells #[.int .i64 e5.1, .int .i64 e5.2] 46), .blk bs3 (.cells #[.int .i64 xc.2.1.1, .int .i64 xc.2.1.2.1, .slice axc_3 xc.2.1.2.2.1.length cxc_3, .slice axc_4 xc.2.1.2.2.2.length cxc_4] 33)] from rfl) (by kernel_rfl) (by kernel_rfl) rfl (OpQ.step (v := .int .i64 e5.1) (Yields.load 0 rfl rfl Tryd.underlying3 rfl (by kernel_rfl)) rfl rfl ?_)
         refine OkM.batch 3 [(0, .pointer (some ⟨bxc, 0, none⟩)), (3, .pointer (some ⟨bs3, 0, none⟩)), (5, .pointer (some ⟨bs5, 0, none⟩)), (32, .slice axc_4 xc.2.1.2.2.2.length cxc_4), (33, .int .i64 (xc.2.1.2.2.2.length : Int)), (34, .int .i64 x34l17), (46, .bool (decide (e5.1 > 25)))] (by kernel_rfl) ?_
         refine OkM.boolAt 46 (decide (e5.1 > 25)) rfl (fun hc20 => ?_) (fun hc20 => ?_)
         ·replace hF := hF.1 hc20
          refine OkM.batch 9 [(0, .pointer (some ⟨bxc, 0, none⟩)), (3, .pointer (some ⟨bs3, 0, none⟩)), (5, .pointer (some ⟨bs5, 0, none⟩)), (32, .slice axc_4 xc.2.1.2.2.2.length cxc_4), (33, .int .i64 (xc.2.1.2.2.2.length : Int)), (34, .int .i64 x34l17), (51, .bool true), (53, undef), (54, undef), (55, undef)] (by kernel_rfl) ?_
          refine OkM.tailNo (j := 13) (d := 51) (want := false) (b := true) rfl rfl (by kernel_rfl) (by kernel_rfl) rfl rfl (by kernel_rfl) (show _ = [.blk bs5 (.cells #[.int .i64 e5.1, .int .i64 e5.2] 46), .blk bs3 (.cells #[.int .i64 xc.2.1.1, .int .i64 xc.2.1.2.1, .slice axc_3 xc.2.1.2.2.1.length cxc_3, .slice axc_4 xc.2.1.2.2.2.length cxc_4] 33)] from rfl) (Gle.refl _) (.cons _ (.cons_cons _ (.cons_cons _ .slnil))) ?_
          refine OkM.batch 2 [(0, .pointer (some ⟨bxc, 0, none⟩)), (3, .pointer (some ⟨bs3, 0, none⟩)), (5, .pointer (some ⟨bs5, 0, none⟩)), (32, .slice axc_4 xc.2.1.2.2.2.length cxc_4), (33, .int .i64 (xc.2.1.2.2.2.length : Int)), (34, .int .i64 x34l17), (58, .bool true)] (by kernel_rfl) ?_
          refine OkM.nil ?_
          refine Ok.thenN ?_
          refine Ok.reval 58 rfl (show (.bool true : Value) = .bool (frmV1 xc e5) from congrArg (Value.bool) ((Eq.trans (mor_t hc20) (mor_f hc19)))) ?_
          exact fun a W hA hW => ⟨gl17, (Gext.refl w0 gl17), hA.sub (by kernel_rfl), hW, hF⟩
         ·replace hF := hF.2 hc20
          refine OkM.batch 1 [(0, .pointer (some ⟨bxc, 0, none⟩)), (3, .pointer (some ⟨bs3, 0, none⟩)), (5, .pointer (some ⟨bs5, 0, none⟩)), (32, .slice axc_4 xc.2.1.2.2.2.length cxc_4), (33, .int .i64 (xc.2.1.2.2.2.length : Int)), (34, .int .i64 x34l17), (46, .bool false), (47, .pointer (some ⟨bs5, 1, none⟩))] (by kernel_rfl) ?_
          refine OkM.headYes (j := 8) (d := 46) (want := false) (b := false) rfl rfl (show _ = [.blk bs5 (.cells #[.int .i64 e5.1, .int .i64 e5.2] 46), .blk bs3 (.cells #[.int .i64 xc.2.1.1, .int .i64 xc.2.1.2.1, .slice axc_3 xc.2.1.2.2.1.length cxc_3, .slice axc_4 xc.2.1.2.2.2.length cxc_4] 33)] from rfl) (by kernel_rfl) (by kernel_rfl) rfl (OpQ.step (v := .int .i64 e5.2) (Yields.load 0 rfl rfl Tryd.underlying3 rfl (by kernel_rfl)) rfl rfl ?_)
          refine OkM.batch 3 [(0, .pointer (some ⟨bxc, 0, none⟩)), (3, .pointer (some ⟨bs3, 0, none⟩)), (5, .pointer (some ⟨bs5, 0, none⟩)), (32, .slice axc_4 xc.2.1.2.2.2.length cxc_4), (33, .int .i64 (xc.2.1.2.2.2.length : Int)), (34, .int .i64 x34l17), (51, .bool (decide (e5.2 < 0)))] (by kernel_rfl) ?_
          refine OkM.boolAt 51 (decide (e5.2 < 0)) rfl (fun hc21 => ?_) (fun hc21 => ?_)
          ·replace hF := hF.1 hc21
           refine OkM.batch 4 [(0, .pointer (some ⟨bxc, 0, none⟩)), (3, .pointer (some ⟨bs3, 0, none⟩)), (5, .pointer (some ⟨bs5, 0, none⟩)), (32, .slice axc_4 xc.2.1.2.2.2.length cxc_4), (33, .int .i64 (xc.2.1.2.2.2.length : Int)), (34, .int .i64 x34l17), (51, .bool true), (53, undef), (54, undef), (55, undef)] (by kernel_rfl) ?_
           refine OkM.tailNo (j := 13) (d := 51) (want := false) (b := true) rfl rfl (by kernel_rfl) (by kernel_rfl) rfl rfl (by kernel_rfl) (show _ = [.blk bs5 (.cells #[.int .i64 e5.1, .int .i64 e5.2] 46), .blk bs3 (.cells #[.int .i64 xc.2.1.1, .int .i64 xc.2.1.2.1, .slice axc_3 xc.2.1.2.2.1.length cxc_3, .slice axc_4 xc.2.1.2.2.2.length cxc_4] 33)] from rfl) (Gle.refl _) (.cons _ (.cons_cons _ (.cons_cons _ .slnil))) ?_
           refine OkM.batch 2 [(0, .pointer (some ⟨bxc, 0, none⟩)), (3, .pointer (some ⟨bs3, 0, none⟩)), (5, .pointer (some ⟨bs5, 0, none⟩)), (32, .slice axc_4 xc.2.1.2.2.2.length cxc_4), (33, .int .i64 (xc.2.1.2.2.2.length : Int)), (34, .int .i64 x34l17), (58, .bool true)] (by kernel_rfl) ?_
           refine OkM.nil ?_
           refine Ok.thenN ?_
           refine Ok.reval 58 rfl (show (.bool true : Value) = .bool (frmV1 xc e5) from congrArg (Value.bool) ((Eq.trans ((Eq.trans (mor_t hc21) (mor_f hc20))) (mor_f hc19)))) ?_
           exact fun a W hA hW => ⟨gl17, (Gext.refl w0 gl17), hA.sub (by kernel_rfl), hW, hF⟩
          ·replace hF := hF.2 hc21
           refine OkM.batch 1 [(0, .pointer (some ⟨bxc, 0, none⟩)), (3, .pointer (some ⟨bs3, 0, none⟩)), (5, .pointer (some ⟨bs5, 0, none⟩)), (32, .slice axc_4 xc.2.1.2.2.2.length cxc_4), (33, .int .i64 (xc.2.1.2.2.2.length : Int)), (34, .int .i64 x34l17), (51, .bool false), (52, .pointer (some ⟨bs5, 1, none⟩))] (by kernel_rfl) ?_
           refine OkM.headYes (j := 13) (d := 51) (want := false) (b := false) rfl rfl (show _ = [.blk bs5 (.cells #[.int .i64 e5.1, .int .i64 e5.2] 46), .blk bs3 (.cells #[.int .i64 xc.2.1.1, .int .i64 xc.2.1.2.1, .slice axc_3 xc.2.1.2.2.1.length cxc_3, .slice axc_4 xc.2.1.2.2.2.length cxc_4] 33)] from rfl) (by kernel_rfl) (by kernel_rfl) rfl (OpQ.step (v := .int .i64 e5.2) (Yields.load 0 rfl rfl Tryd.underlying3 rfl (by kernel_rfl)) rfl rfl ?_)
           refine OkM.batch 1 [(0, .pointer (some ⟨bxc, 0, none⟩)), (3, .pointer (some ⟨bs3, 0, none⟩)), (5, .pointer (some ⟨bs5, 0, none⟩)), (32, .slice axc_4 xc.2.1.2.2.2.length cxc_4), (33, .int .i64 (xc.2.1.2.2.2.length : Int)), (34, .int .i64 x34l17), (51, .bool false), (53, .int .i64 e5.2), (54, .pointer (some ⟨bxc, 0, none⟩))] (by kernel_rfl) ?_
           refine OkM.headYes (j := 13) (d := 51) (want := false) (b := false) rfl rfl (show _ = [.blk bs5 (.cells #[.int .i64 e5.1, .int .i64 e5.2] 46), .blk bs3 (.cells #[.int .i64 xc.2.1.1, .int .i64 xc.2.1.2.1, .slice axc_3 xc.2.1.2.2.1.length cxc_3, .slice axc_4 xc.2.1.2.2.2.length cxc_4] 33)] from rfl) (by kernel_rfl) (by kernel_rfl) rfl (OpQ.step (v := .agg #[.int .i64 e5.1, .int .i64 e5.2]) (Yields.loadAgg 0 2 #[.int .i64 e5.1, .int .i64 e5.2] rfl rfl Tryd.underlying46 rfl (by kernel_rfl) (by kernel_rfl) (by kernel_rfl)) rfl rfl ?_)
           refine OkM.tailYes (j := 13) (d := 51) (want := false) (b := false) rfl rfl (by kernel_rfl) (by kernel_rfl) rfl (OpOk.callH [.blk bxc (.cells #[.slice axc_0 xc.1.1.length cxc_0, .slice axc_1 xc.1.2.1.length cxc_1, .slice axc_2 xc.1.2.2.length cxc_2, .int .i64 xc.2.1.1, .int .i64 xc.2.1.2.1, .slice axc_3 xc.2.1.2.2.1.length cxc_3, .slice axc_4 xc.2.1.2.2.2.length cxc_4, .int .i64 xc.2.2.1, mvxc, mvxc_9, .bool xc.2.2.2.2.2] 37)] [.blk bs5 (.cells #[.int .i64 e5.1, .int .i64 e5.2] 46), .blk bs3 (.cells #[.int .i64 xc.2.1.1, .int .i64 xc.2.1.2.1, .slice axc_3 xc.2.1.2.2.1.length cxc_3, .slice axc_4 xc.2.1.2.2.2.length cxc_4] 33)] (enters (by kernel_rfl) (fun _ => by kernel_rfl)) rfl (bnd_c xc e5 hRxc_0 hRxc_1 hRxc_2 hRxc_3 hRxc_4 hG0) rfl fun g22 _ _ hx22 hV22 => ?_)
           obtain ⟨rfl, rfl⟩ := hV22
           replace hRxc_4 := hRxc_4.mono hx22.1
           replace hRxc_0 := hRxc_0.mono hx22.1
           replace hRxc_1 := hRxc_1.mono hx22.1
           replace hRxc_2 := hRxc_2.mono hx22.1
           replace hRxc_3 := hRxc_3.mono hx22.1
           replace hG0 := hG0.mono hx22.1
           refine OkM.leaf (i := 18) (show _ = [.blk bs5 (.cells #[.int .i64 e5.1, .int .i64 e5.2] 46), .blk bs3 (.cells #[.int .i64 xc.2.1.1, .int .i64 xc.2.1.2.1, .slice axc_3 xc.2.1.2.2.1.length cxc_3, .slice axc_4 xc.2.1.2.2.2.length cxc_4] 33)] from rfl) hx22.1 (.cons _ (.cons_cons _ (.cons_cons _ .slnil))) ?_
           refine OkM.batch 2 [(0, .pointer (some ⟨bxc, 0, none⟩)), (3, .pointer (some ⟨bs3, 0, none⟩)), (5, .pointer (some ⟨bs5, 0, none⟩)), (32, .slice axc_4 xc.2.1.2.2.2.length cxc_4), (33, .int .i64 (xc.2.1.2.2.2.length : Int)), (34, .int .i64 x34l17), (58, .bool (decide (e5.2 ≥ (bndN xc e5))))] (by kernel_rfl) ?_
           refine OkM.nil ?_
           refine Ok.thenN ?_
           refine Ok.reval 58 rfl (show (.bool (decide (e5.2 ≥ (bndN xc e5))) : Value) = .bool (frmV1 xc e5) from congrArg (Value.bool) ((Eq.trans ((Eq.trans (mor_f hc21) (mor_f hc20))) (mor_f hc19)))) ?_
           exact fun a W hA hW => ⟨g22, hx22, hA.sub (by kernel_rfl), hW, hF⟩
       ·
        clear hF
        rintro a W ⟨gj29, hxj29, hA, hW, hF⟩
        refine (?_ : Ok _ _ _ _ _ _) a W hA hW
        clear hA hW
        replace hRxc_4 := hRxc_4.mono hxj29.1
        replace hRxc_0 := hRxc_0.mono hxj29.1
        replace hRxc_1 := hRxc_1.mono hxj29.1
        replace hRxc_2 := hRxc_2.mono hxj29.1
        replace hRxc_3 := hRxc_3.mono hxj29.1
        replace hG0 := hG0.mono hxj29.1
        refine Ok.cond (b := (frmV1 xc e5)) rfl (fun hc7 => ?_) (fun hc7 => ?_)
        ·replace hF := hF.1 hc7
         refine Ok.seq ?_
         refine Ok.region ?_
         refine Ok.batch 1 [(2, .bool false)] (by kernel_rfl) ?_
         refine Ok.nil ?_
         refine Ok.thenN ?_
         refine Ok.ret ?_
         refine Ok.thenR ?_
         refine Ok.blockR ?_
         refine Ok.thenR ?_
         refine Ok.thenR ?_
         refine Ok.blockR ?_
         refine Ok.thenR ?_
         exact Ok.resP (vs := [.bool false]) [0] [.blk bxc (.cells #[.slice axc_0 xc.1.1.length cxc_0, .slice axc_1 xc.1.2.1.length cxc_1, .slice axc_2 xc.1.2.2.length cxc_2, .int .i64 xc.2.1.1, .int .i64 xc.2.1.2.1, .slice axc_3 xc.2.1.2.2.1.length cxc_3, .slice axc_4 xc.2.1.2.2.2.length cxc_4, .int .i64 xc.2.2.1, mvxc, mvxc_9, .bool xc.2.2.2.2.2] 37)] (by decide) rfl (.inl rfl) rfl (.cons (.tmp rfl) .nil) ((hxj6.trans hxl17).trans hxj29) ⟨false, rfl, rfl, hF⟩
        ·replace hF := hF.2 hc7
         refine Ok.skip ?_
         refine Ok.thenN ?_
         refine Ok.seq ?_
         refine Ok.region ?_
         refine Ok.batch 1 [(0, .pointer (some ⟨bxc, 0, none⟩)), (3, .pointer (some ⟨bs3, 0, none⟩)), (5, .pointer (some ⟨bs5, 0, none⟩)), (32, .slice axc_4 xc.2.1.2.2.2.length cxc_4), (33, .int .i64 (xc.2.1.2.2.2.length : Int)), (34, .int .i64 x34l17), (59, .pointer (some ⟨bs5, 0, none⟩))] (by kernel_rfl) ?_
         refine Ok.op rfl (OpOk.step (v := .int .i64 e5.1) (Yields.load 1 rfl rfl Tryd.underlying3 rfl (by kernel_rfl)) rfl rfl ?_)
         refine Ok.batch 1 [(0, .pointer (some ⟨bxc, 0, none⟩)), (3, .pointer (some ⟨bs3, 0, none⟩)), (5, .pointer (some ⟨bs5, 0, none⟩)), (32, .slice axc_4 xc.2.1.2.2.2.length cxc_4), (33, .int .i64 (xc.2.1.2.2.2.length : Int)), (34, .int .i64 x34l17), (61, .bool (e5.1 == 16))] (by kernel_rfl) ?_
         refine Ok.nil ?_
         refine Ok.thenN ?_
         refine Ok.cond (b := (e5.1 == 16)) rfl (fun hc8 => ?_) (fun hc8 => ?_)
         ·replace hF := hF.1 hc8
          refine Ok.seq ?_
          refine Ok.seq ?_
          refine Ok.quiet' (by kernel_rfl) (by kernel_rfl) ?_
          refine OkQ.batch 4 [(0, .pointer (some ⟨bxc, 0, none⟩)), (3, .pointer (some ⟨bs3, 0, none⟩)), (5, .pointer (some ⟨bs5, 0, none⟩)), (32, .slice axc_4 xc.2.1.2.2.2.length cxc_4), (33, .int .i64 (xc.2.1.2.2.2.length : Int)), (34, .int .i64 x34l17), (65, .pointer (some ⟨bxc, 0, none⟩))] (by kernel_rfl) ?_
          refine OkQ.op rfl (OpQ.step (v := .slice axc_0 xc.1.1.length cxc_0) (Yields.load 0 rfl rfl Tryd.underlying22 rfl (by kernel_rfl)) rfl rfl ?_)
          refine OkQ.batch 1 [(0, .pointer (some ⟨bxc, 0, none⟩)), (3, .pointer (some ⟨bs3, 0, none⟩)), (5, .pointer (some ⟨bs5, 0, none⟩)), (32, .slice axc_4 xc.2.1.2.2.2.length cxc_4), (33, .int .i64 (xc.2.1.2.2.2.length : Int)), (34, .int .i64 x34l17), (66, .slice axc_0 xc.1.1.length cxc_0), (67, .pointer (some ⟨bs5, 1, none⟩))] (by kernel_rfl) ?_
          refine OkQ.op rfl (OpQ.step (v := .int .i64 e5.2) (Yields.load 1 rfl rfl Tryd.underlying3 rfl (by kernel_rfl)) rfl rfl ?_)
          obtain ⟨h010, h110, hF⟩ := hF
          have he10 := get_of (l := xc.1.1) (default : Int × Int × List (Int) × List (Int × Int)) h110
          generalize hg10 : (xc.1.1.getD (Int.toNat e5.2) default) = e10 at he10 hF ⊢
          refine OkQ.op rfl (OpQ.indexRo (e := .pair (.int .i64) (.pair (.int .i64) (.pair (.slice (.int .i64)) (.slice (.pair (.int .i64) (.int .i64)))))) (i := e5.2) (el := e10) rfl rfl Tryd.underlying22 (by kernel_rfl) hRxc_0 h010 he10 rfl fun q9 o9 cs9 _ hat9 hr9 => ?_)
          obtain ⟨_, _, rfl, rfl, ⟨_, _, rfl, rfl, ⟨_, _, rfl, ⟨a9_2, c9_2, rfl, hm9_2, hr9_2⟩, ⟨a9_3, c9_3, rfl, hm9_3, hr9_3⟩⟩⟩⟩ := hr9
          have hR9_2 : Rep gj29 (.slice (.int .i64)) [.slice a9_2 e10.2.2.1.length c9_2] e10.2.2.1 := ⟨a9_2, c9_2, rfl, hm9_2, hr9_2⟩
          have hR9_3 : Rep gj29 (.slice (.pair (.int .i64) (.int .i64))) [.slice a9_3 e10.2.2.2.length c9_3] e10.2.2.2 := ⟨a9_3, c9_3, rfl, hm9_3, hr9_3⟩
          replace hat9 : At gj29 q9 o9 [.int .i64 e10.1, .int .i64 e10.2.1, .slice a9_2 e10.2.2.1.length c9_2, .slice a9_3 e10.2.2.2.length c9_3] := hat9
          refine OkQ.batch 1 [(0, .pointer (some ⟨bxc, 0, none⟩)), (3, .pointer (some ⟨bs3, 0, none⟩)), (5, .pointer (some ⟨bs5, 0, none⟩)), (32, .slice axc_4 xc.2.1.2.2.2.length cxc_4), (33, .int .i64 (xc.2.1.2.2.2.length : Int)), (34, .int .i64 x34l17), (70, .pointer (some ⟨q9, o9 + 2, none⟩))] (by kernel_rfl) ?_
          refine OkQ.op rfl (OpQ.step (v := .slice a9_2 e10.2.2.1.length c9_2) (Yields.loadRo 2 hat9 (by kernel_rfl) Tryd.underlying30 rfl (by kernel_rfl)) rfl rfl ?_)
          refine OkQ.batch 2 [(0, .pointer (some ⟨bxc, 0, none⟩)), (3, .pointer (some ⟨bs3, 0, none⟩)), (5, .pointer (some ⟨bs5, 0, none⟩)), (32, .slice axc_4 xc.2.1.2.2.2.length cxc_4), (33, .int .i64 (xc.2.1.2.2.2.length : Int)), (34, .int .i64 x34l17), (71, .slice a9_2 e10.2.2.1.length c9_2), (72, .int .i64 (e10.2.2.1.length : Int)), (73, .int .i64 0)] (by kernel_rfl) ?_
          refine OkQ.nil ?_
          refine Ok.thenN ?_
          refine Ok.block ?_
          obtain ⟨k, hF⟩ := hF
          refine Ok.loop (fun k a W => ∃ gl43 : Ghost, Gext w0 gj29 gl43 ∧ ∃ (x73l43 : Int), StA 95 [(0, .pointer (some ⟨bxc, 0, none⟩)), (3, .pointer (some ⟨bs3, 0, none⟩)), (5, .pointer (some ⟨bs5, 0, none⟩)), (32, .slice axc_4 xc.2.1.2.2.2.length cxc_4), (33, .int .i64 (xc.2.1.2.2.2.length : Int)), (34, .int .i64 x34l17), (71, .slice a9_2 e10.2.2.1.length c9_2), (72, .int .i64 (e10.2.2.1.length : Int)), (73, .int .i64 x73l43)] a ∧ StW w0 [.blk bxc (.cells #[.slice axc_0 xc.1.1.length cxc_0, .slice axc_1 xc.1.2.1.length cxc_1, .slice axc_2 xc.1.2.2.length cxc_2, .int .i64 xc.2.1.1, .int .i64 xc.2.1.2.1, .slice axc_3 xc.2.1.2.2.1.length cxc_3, .slice axc_4 xc.2.1.2.2.2.length cxc_4, .int .i64 xc.2.2.1, mvxc, mvxc_9, .bool xc.2.2.2.2.2] 37), .blk bs5 (.cells #[.int .i64 e5.1, .int .i64 e5.2] 46), .blk bs3 (.cells #[.int .i64 xc.2.1.1, .int .i64 xc.2.1.2.1, .slice axc_3 xc.2.1.2.2.1.length cxc_3, .slice axc_4 xc.2.1.2.2.2.length cxc_4] 33)] gl43 W ∧ frml43 xc K e5 x34l17 (frml17 xc K k17) e10 k x73l43) k ?_ ?_
          ·
           exact fun a W hA hW => ⟨gj29, (Gext.refl w0 gj29), 0, hA.sub (by kernel_rfl), hW, hF⟩
          ·
           clear hF
           rintro k43 a W ⟨gl43, hxl43, x73l43, hA, hW, hF⟩
           cases k43 with
           | zero => exact (hF : False).elim
           | succ k43 =>
            refine (?_ : Ok _ _ _ _ _ _) a W hA hW
            clear hA hW
            replace hRxc_4 := hRxc_4.mono hxl43.1
            replace hR9_2 := hR9_2.mono hxl43.1
            replace hRxc_0 := hRxc_0.mono hxl43.1
            replace hRxc_1 := hRxc_1.mono hxl43.1
            replace hRxc_2 := hRxc_2.mono hxl43.1
            replace hRxc_3 := hRxc_3.mono hxl43.1
            replace hG0 := hG0.mono hxl43.1
            refine Ok.seq ?_
            refine Ok.region ?_
            refine Ok.batch 1 [(0, .pointer (some ⟨bxc, 0, none⟩)), (3, .pointer (some ⟨bs3, 0, none⟩)), (5, .pointer (some ⟨bs5, 0, none⟩)), (32, .slice axc_4 xc.2.1.2.2.2.length cxc_4), (33, .int .i64 (xc.2.1.2.2.2.length : Int)), (34, .int .i64 x34l17), (71, .slice a9_2 e10.2.2.1.length c9_2), (72, .int .i64 (e10.2.2.1.length : Int)), (73, .int .i64 x73l43), (74, .bool (decide (x73l43 < (e10.2.2.1.length : Int))))] (by kernel_rfl) ?_
            refine Ok.nil ?_
            refine Ok.thenN ?_
            refine Ok.seq ?_
            refine Ok.cond (b := decide (x73l43 < (e10.2.2.1.length : Int))) rfl (fun hc11 => ?_) (fun hc11 => ?_)
            ·replace hF := hF.1 hc11
             refine Ok.skip ?_
             refine Ok.thenN ?_
             refine Ok.seq ?_
             refine Ok.block ?_
             refine Ok.seq ?_
             refine Ok.region ?_
             obtain ⟨h013, h113, hF⟩ := hF
             have he13 := get_of (l := e10.2.2.1) (default : Int) h113
             generalize hg13 : (e10.2.2.1.getD (Int.toNat x73l43) default) = e13 at he13 hF ⊢
             refine Ok.op rfl (OpOk.indexRo (e := .int .i64) (i := x73l43) (el := e13) rfl rfl Tryd.underlying30 (by kernel_rfl) hR9_2 h013 he13 rfl fun q12 o12 cs12 _ hat12 hr12 => ?_)
             obtain rfl := hr12
             replace hat12 : At gl43 q12 o12 [.int .i64 e13] := hat12
             refine Ok.op rfl (OpOk.step (v := .int .i64 e13) (Yields.loadRo 0 hat12 (by kernel_rfl) Tryd.underlying3 rfl (by kernel_rfl)) rfl rfl ?_)
             refine Ok.batch 1 [(0, .pointer (some ⟨bxc, 0, none⟩)), (3, .pointer (some ⟨bs3, 0, none⟩)), (5, .pointer (some ⟨bs5, 0, none⟩)), (7, .int .i64 e13), (32, .slice axc_4 xc.2.1.2.2.2.length cxc_4), (33, .int .i64 (xc.2.1.2.2.2.length : Int)), (34, .int .i64 x34l17), (71, .slice a9_2 e10.2.2.1.length c9_2), (72, .int .i64 (e10.2.2.1.length : Int)), (73, .int .i64 x73l43)] (by kernel_rfl) ?_
             refine Ok.nil ?_
             refine Ok.thenN ?_
             refine Ok.cut (fun a W => ∃ gj54 : Ghost, Gext w0 gl43 gj54 ∧ StA 95 [(0, .pointer (some ⟨bxc, 0, none⟩)), (3, .pointer (some ⟨bs3, 0, none⟩)), (5, .pointer (some ⟨bs5, 0, none⟩)), (32, .slice axc_4 xc.2.1.2.2.2.length cxc_4), (33, .int .i64 (xc.2.1.2.2.2.length : Int)), (34, .int .i64 x34l17), (71, .slice a9_2 e10.2.2.1.length c9_2), (72, .int .i64 (e10.2.2.1.length : Int)), (73, .int .i64 x73l43), (89, .bool (frmV3 xc e5 e13))] a ∧ StW w0 [.blk bxc (.cells #[.slice axc_0 xc.1.1.length cxc_0, .slice axc_1 xc.1.2.1.length cxc_1, .slice axc_2 xc.1.2.2.length cxc_2, .int .i64 xc.2.1.1, .int .i64 xc.2.1.2.1, .slice axc_3 xc.2.1.2.2.1.length cxc_3, .slice axc_4 xc.2.1.2.2.2.length cxc_4, .int .i64 xc.2.2.1, mvxc, mvxc_9, .bool xc.2.2.2.2.2] 37), .blk bs5 (.cells #[.int .i64 e5.1, .int .i64 e5.2] 46), .blk bs3 (.cells #[.int .i64 xc.2.1.1, .int .i64 xc.2.1.2.1, .slice axc_3 xc.2.1.2.2.1.length cxc_3, .slice axc_4 xc.2.1.2.2.2.length cxc_4] 33)] gj54 W ∧ frmj54 xc K e5 x73l43 e13 (frml43 xc K e5 x34l17 (frml17 xc K k17) e10 k43)) ?_ ?_
             ·
              refine Ok.region ?_
              refine Ok.batch 1 [(0, .pointer (some ⟨bxc, 0, none⟩)), (3, .pointer (some ⟨bs3, 0, none⟩)), (5, .pointer (some ⟨bs5, 0, none⟩)), (7, .int .i64 e13), (32, .slice axc_4 xc.2.1.2.2.2.length cxc_4), (33, .int .i64 (xc.2.1.2.2.2.length : Int)), (34, .int .i64 x34l17), (71, .slice a9_2 e10.2.2.1.length c9_2), (72, .int .i64 (e10.2.2.1.length : Int)), (73, .int .i64 x73l43), (77, .pointer (some ⟨bs5, 1, none⟩))] (by kernel_rfl) ?_
              refine Ok.op rfl (OpOk.step (v := .int .i64 e5.2) (Yields.load 1 rfl rfl Tryd.underlying3 rfl (by kernel_rfl)) rfl rfl ?_)
              refine Ok.batch 2 [(0, .pointer (some ⟨bxc, 0, none⟩)), (3, .pointer (some ⟨bs3, 0, none⟩)), (5, .pointer (some ⟨bs5, 0, none⟩)), (7, .int .i64 e13), (32, .slice axc_4 xc.2.1.2.2.2.length cxc_4), (33, .int .i64 (xc.2.1.2.2.2.length : Int)), (34, .int .i64 x34l17), (71, .slice a9_2 e10.2.2.1.length c9_2), (72, .int .i64 (e10.2.2.1.length : Int)), (73, .int .i64 x73l43), (80, .bool (e5.2 == 0))] (by kernel_rfl) ?_
              refine Ok.midway 3 [(0, .pointer (some ⟨bxc, 0, none⟩)), (3, .pointer (some ⟨bs3, 0, none⟩)), (5, .pointer (some ⟨bs5, 0, none⟩)), (7, .int .i64 e13), (32, .slice axc_4 xc.2.1.2.2.2.length cxc_4), (33, .int .i64 (xc.2.1.2.2.2.length : Int)), (34, .int .i64 x34l17), (71, .slice a9_2 e10.2.2.1.length c9_2), (72, .int .i64 (e10.2.2.1.length : Int)), (73, .int .i64 x73l43), (83, .bool ((e5.2 == 0) || (decide (e13 < 0))))] (fun hR15 => ?_) ?_
              ·refine Ok.boolAt 80 ((e5.2 == 0)) rfl (fun hc16 => ?_) (fun hc16 => ?_)
               ·skip
                refine Ok.batch 3 [(0, .pointer (some ⟨bxc, 0, none⟩)), (3, .pointer (some ⟨bs3, 0, none⟩)), (5, .pointer (some ⟨bs5, 0, none⟩)), (7, .int .i64 e13), (32, .slice axc_4 xc.2.1.2.2.2.length cxc_4), (33, .int .i64 (xc.2.1.2.2.2.length : Int)), (34, .int .i64 x34l17), (71, .slice a9_2 e10.2.2.1.length c9_2), (72, .int .i64 (e10.2.2.1.length : Int)), (73, .int .i64 x73l43), (83, .bool true)] (by kernel_rfl) ?_
                refine Ok.reval 83 rfl (show (.bool true : Value) = .bool ((e5.2 == 0) || (decide (e13 < 0))) from congrArg Value.bool (mor_t hc16)) ?_
                refine Ok.batch 0 [(0, .pointer (some ⟨bxc, 0, none⟩)), (3, .pointer (some ⟨bs3, 0, none⟩)), (5, .pointer (some ⟨bs5, 0, none⟩)), (7, .int .i64 e13), (32, .slice axc_4 xc.2.1.2.2.2.length cxc_4), (33, .int .i64 (xc.2.1.2.2.2.length : Int)), (34, .int .i64 x34l17), (71, .slice a9_2 e10.2.2.1.length c9_2), (72, .int .i64 (e10.2.2.1.length : Int)), (73, .int .i64 x73l43), (83, .bool ((e5.2 == 0) || (decide (e13 < 0))))] (by kernel_rfl) ?_
                exact hR15
               ·skip
                refine Ok.batch 3 [(0, .pointer (some ⟨bxc, 0, none⟩)), (3, .pointer (some ⟨bs3, 0, none⟩)), (5, .pointer (some ⟨bs5, 0, none⟩)), (7, .int .i64 e13), (32, .slice axc_4 xc.2.1.2.2.2.length cxc_4), (33, .int .i64 (xc.2.1.2.2.2.length : Int)), (34, .int .i64 x34l17), (71, .slice a9_2 e10.2.2.1.length c9_2), (72, .int .i64 (e10.2.2.1.length : Int)), (73, .int .i64 x73l43), (83, .bool (decide (e13 < 0)))] (by kernel_rfl) ?_
                refine Ok.reval 83 rfl (show (.bool (decide (e13 < 0)) : Value) = .bool ((e5.2 == 0) || (decide (e13 < 0))) from congrArg Value.bool (mor_f hc16)) ?_
                refine Ok.batch 0 [(0, .pointer (some ⟨bxc, 0, none⟩)), (3, .pointer (some ⟨bs3, 0, none⟩)), (5, .pointer (some ⟨bs5, 0, none⟩)), (7, .int .i64 e13), (32, .slice axc_4 xc.2.1.2.2.2.length cxc_4), (33, .int .i64 (xc.2.1.2.2.2.length : Int)), (34, .int .i64 x34l17), (71, .slice a9_2 e10.2.2.1.length c9_2), (72, .int .i64 (e10.2.2.1.length : Int)), (73, .int .i64 x73l43), (83, .bool ((e5.2 == 0) || (decide (e13 < 0))))] (by kernel_rfl) ?_
                exact hR15
              refine Ok.batch 1 [(0, .pointer (some ⟨bxc, 0, none⟩)), (3, .pointer (some ⟨bs3, 0, none⟩)), (5, .pointer (some ⟨bs5, 0, none⟩)), (7, .int .i64 e13), (32, .slice axc_4 xc.2.1.2.2.2.length cxc_4), (33, .int .i64 (xc.2.1.2.2.2.length : Int)), (34, .int .i64 x34l17), (71, .slice a9_2 e10.2.2.1.length c9_2), (72, .int .i64 (e10.2.2.1.length : Int)), (73, .int .i64 x73l43), (84, .bool ((e5.2 == 0) || (decide (e13 < 0))))] (by kernel_rfl) ?_
              refine Ok.boolAt 84 (((e5.2 == 0) || (decide (e13 < 0)))) rfl (fun hc17 => ?_) (fun hc17 => ?_)
              ·replace hF := hF.1 hc17
               refine Ok.batch 5 [(0, .pointer (some ⟨bxc, 0, none⟩)), (3, .pointer (some ⟨bs3, 0, none⟩)), (5, .pointer (some ⟨bs5, 0, none⟩)), (32, .slice axc_4 xc.2.1.2.2.2.length cxc_4), (33, .int .i64 (xc.2.1.2.2.2.length : Int)), (34, .int .i64 x34l17), (71, .slice a9_2 e10.2.2.1.length c9_2), (72, .int .i64 (e10.2.2.1.length : Int)), (73, .int .i64 x73l43), (89, .bool true)] (by kernel_rfl) ?_
               refine Ok.nil ?_
               refine Ok.thenN ?_
               refine Ok.reval 89 rfl (show (.bool true : Value) = .bool (frmV3 xc e5 e13) from congrArg (Value.bool) (mor_t hc17)) ?_
               exact fun a W hA hW => ⟨gl43, (Gext.refl w0 gl43), hA.sub (by kernel_rfl), hW, hF⟩
              ·replace hF := hF.2 hc17
               refine Ok.batch 2 [(0, .pointer (some ⟨bxc, 0, none⟩)), (3, .pointer (some ⟨bs3, 0, none⟩)), (5, .pointer (some ⟨bs5, 0, none⟩)), (32, .slice axc_4 xc.2.1.2.2.2.length cxc_4), (33, .int .i64 (xc.2.1.2.2.2.length : Int)), (34, .int .i64 x34l17), (71, .slice a9_2 e10.2.2.1.length c9_2), (72, .int .i64 (e10.2.2.1.length : Int)), (73, .int .i64 x73l43), (84, .bool false), (85, .int .i64 e13), (86, .pointer (some ⟨bs3, 1, none⟩))] (by kernel_rfl) ?_
               refine Ok.opYes (j := 7) (d := 84) (want := false) (b := false) rfl (by kernel_rfl) (by kernel_rfl) rfl (OpOk.step (v := .int .i64 xc.2.1.2.1) (Yields.load 2 rfl rfl Tryd.underlying3 rfl (by kernel_rfl)) rfl rfl ?_)
               refine Ok.batch 2 [(0, .pointer (some ⟨bxc, 0, none⟩)), (3, .pointer (some ⟨bs3, 0, none⟩)), (5, .pointer (some ⟨bs5, 0, none⟩)), (32, .slice axc_4 xc.2.1.2.2.2.length cxc_4), (33, .int .i64 (xc.2.1.2.2.2.length : Int)), (34, .int .i64 x34l17), (71, .slice a9_2 e10.2.2.1.length c9_2), (72, .int .i64 (e10.2.2.1.length : Int)), (73, .int .i64 x73l43), (89, .bool (decide (e13 ≥ xc.2.1.2.1)))] (by kernel_rfl) ?_
               refine Ok.nil ?_
               refine Ok.thenN ?_
               refine Ok.reval 89 rfl (show (.bool (decide (e13 ≥ xc.2.1.2.1)) : Value) = .bool (frmV3 xc e5 e13) from congrArg (Value.bool) (mor_f hc17)) ?_
               exact fun a W hA hW => ⟨gl43, (Gext.refl w0 gl43), hA.sub (by kernel_rfl), hW, hF⟩
             ·
              clear hF
              rintro a W ⟨gj54, hxj54, hA, hW, hF⟩
              refine (?_ : Ok _ _ _ _ _ _) a W hA hW
              clear hA hW
              replace hRxc_4 := hRxc_4.mono hxj54.1
              replace hR9_2 := hR9_2.mono hxj54.1
              replace hRxc_0 := hRxc_0.mono hxj54.1
              replace hRxc_1 := hRxc_1.mono hxj54.1
              replace hRxc_2 := hRxc_2.mono hxj54.1
              replace hRxc_3 := hRxc_3.mono hxj54.1
              replace hG0 := hG0.mono hxj54.1
              refine Ok.cond (b := (frmV3 xc e5 e13)) rfl (fun hc14 => ?_) (fun hc14 => ?_)
              ·replace hF := hF.1 hc14
               refine Ok.seq ?_
               refine Ok.region ?_
               refine Ok.batch 1 [(2, .bool false)] (by kernel_rfl) ?_
               refine Ok.nil ?_
               refine Ok.thenN ?_
               refine Ok.ret ?_
               refine Ok.blockR ?_
               refine Ok.thenR ?_
               refine Ok.thenR ?_
               refine Ok.blockR ?_
               refine Ok.thenR ?_
               refine Ok.blockR ?_
               refine Ok.thenR ?_
               refine Ok.thenR ?_
               refine Ok.blockR ?_
               refine Ok.thenR ?_
               exact Ok.resP (vs := [.bool false]) [0] [.blk bxc (.cells #[.slice axc_0 xc.1.1.length cxc_0, .slice axc_1 xc.1.2.1.length cxc_1, .slice axc_2 xc.1.2.2.length cxc_2, .int .i64 xc.2.1.1, .int .i64 xc.2.1.2.1, .slice axc_3 xc.2.1.2.2.1.length cxc_3, .slice axc_4 xc.2.1.2.2.2.length cxc_4, .int .i64 xc.2.2.1, mvxc, mvxc_9, .bool xc.2.2.2.2.2] 37)] (by decide) rfl (.inl rfl) rfl (.cons (.tmp rfl) .nil) ((((hxj6.trans hxl17).trans hxj29).trans hxl43).trans hxj54) ⟨false, rfl, rfl, hF⟩
              ·replace hF := hF.2 hc14
               refine Ok.skip ?_
               refine Ok.blockN ?_
               refine Ok.thenN ?_
               refine Ok.region ?_
               refine Ok.batch 2 [(0, .pointer (some ⟨bxc, 0, none⟩)), (3, .pointer (some ⟨bs3, 0, none⟩)), (5, .pointer (some ⟨bs5, 0, none⟩)), (32, .slice axc_4 xc.2.1.2.2.2.length cxc_4), (33, .int .i64 (xc.2.1.2.2.2.length : Int)), (34, .int .i64 x34l17), (71, .slice a9_2 e10.2.2.1.length c9_2), (72, .int .i64 (e10.2.2.1.length : Int)), (73, .int .i64 (w6 (x73l43 + 1)))] (by kernel_rfl) ?_
               refine Ok.nil ?_
               refine Ok.thenN ?_
               subst hg13
               exact fun a W hA hW => ⟨k43, Nat.lt_succ_self _, gj54, (hxl43.trans hxj54), w6 (x73l43 + 1), hA.sub (by kernel_rfl), hW, hF⟩
            ·replace hF := hF.2 hc11
             refine Ok.exit ?_
             refine Ok.thenE ?_
             refine Ok.thenE ?_
             refine Ok.blockHit ?_
             refine Ok.thenN ?_
             refine Ok.seq ?_
             refine Ok.region ?_
             refine Ok.batch 1 [(0, .pointer (some ⟨bxc, 0, none⟩)), (3, .pointer (some ⟨bs3, 0, none⟩)), (32, .slice axc_4 xc.2.1.2.2.2.length cxc_4), (33, .int .i64 (xc.2.1.2.2.2.length : Int)), (34, .int .i64 x34l17), (91, .pointer (some ⟨bs5, 1, none⟩))] (by kernel_rfl) ?_
             refine Ok.op rfl (OpOk.step (v := .int .i64 e5.2) (Yields.load 1 rfl rfl Tryd.underlying3 rfl (by kernel_rfl)) rfl rfl ?_)
             refine Ok.batch 1 [(0, .pointer (some ⟨bxc, 0, none⟩)), (3, .pointer (some ⟨bs3, 0, none⟩)), (32, .slice axc_4 xc.2.1.2.2.2.length cxc_4), (33, .int .i64 (xc.2.1.2.2.2.length : Int)), (34, .int .i64 x34l17), (93, .bool (e5.2 == 0))] (by kernel_rfl) ?_
             refine Ok.nil ?_
             refine Ok.thenN ?_
             refine Ok.cond (b := (e5.2 == 0)) rfl (fun hc18 => ?_) (fun hc18 => ?_)
             ·replace hF := hF.1 hc18
              refine Ok.seq ?_
              refine Ok.region ?_
              refine Ok.batch 1 [(2, .bool false)] (by kernel_rfl) ?_
              refine Ok.nil ?_
              refine Ok.thenN ?_
              refine Ok.ret ?_
              refine Ok.blockR ?_
              refine Ok.thenR ?_
              refine Ok.thenR ?_
              refine Ok.blockR ?_
              refine Ok.thenR ?_
              exact Ok.resP (vs := [.bool false]) [0] [.blk bxc (.cells #[.slice axc_0 xc.1.1.length cxc_0, .slice axc_1 xc.1.2.1.length cxc_1, .slice axc_2 xc.1.2.2.length cxc_2, .int .i64 xc.2.1.1, .int .i64 xc.2.1.2.1, .slice axc_3 xc.2.1.2.2.1.length cxc_3, .slice axc_4 xc.2.1.2.2.2.length cxc_4, .int .i64 xc.2.2.1, mvxc, mvxc_9, .bool xc.2.2.2.2.2] 37)] (by decide) rfl (.inl rfl) rfl (.cons (.tmp rfl) .nil) (((hxj6.trans hxl17).trans hxj29).trans hxl43) ⟨false, rfl, rfl, hF⟩
             ·replace hF := hF.2 hc18
              refine Ok.skip ?_
              refine Ok.blockN ?_
              refine Ok.thenN ?_
              subst hg10
              subst hg5
              exact fun a W hA hW => ⟨gl43, (hxj29.trans hxl43), hA.sub (by kernel_rfl), hW.sub (.cons_cons _ (.cons _ (.cons_cons _ .slnil))), hF⟩
         ·replace hF := hF.2 hc8
          refine Ok.skip ?_
          refine Ok.blockN ?_
          refine Ok.thenN ?_
          subst hg5
          exact fun a W hA hW => ⟨gj29, hxj29, hA.sub (by kernel_rfl), hW.sub (.cons_cons _ (.cons _ (.cons_cons _ .slnil))), hF⟩
      ·
       clear hF
       rintro a W ⟨gj24, hxj24, hA, hW, hF⟩
       refine (?_ : Ok _ _ _ _ _ _) a W hA hW
       clear hA hW
       replace hRxc_4 := hRxc_4.mono hxj24.1
       replace hRxc_0 := hRxc_0.mono hxj24.1
       replace hRxc_1 := hRxc_1.mono hxj24.1
       replace hRxc_2 := hRxc_2.mono hxj24.1
       replace hRxc_3 := hRxc_3.mono hxj24.1
       replace hG0 := hG0.mono hxj24.1
       refine Ok.region ?_
       refine Ok.batch 2 [(0, .pointer (some ⟨bxc, 0, none⟩)), (3, .pointer (some ⟨bs3, 0, none⟩)), (32, .slice axc_4 xc.2.1.2.2.2.length cxc_4), (33, .int .i64 (xc.2.1.2.2.2.length : Int)), (34, .int .i64 (w6 (x34l17 + 1)))] (by kernel_rfl) ?_
       refine Ok.nil ?_
       refine Ok.thenN ?_
       exact fun a W hA hW => ⟨k17, Nat.lt_succ_self _, gj24, (hxl17.trans hxj24), w6 (x34l17 + 1), hA.sub (by kernel_rfl), hW.pick [1, 0] _ (by decide) rfl, hF⟩
     ·replace hF := hF.2 hc3
      refine Ok.exit ?_
      refine Ok.thenE ?_
      refine Ok.thenE ?_
      refine Ok.blockHit ?_
      refine Ok.thenN ?_
      refine Ok.seq ?_
      refine Ok.region ?_
      refine Ok.batch 1 [(2, .bool true)] (by kernel_rfl) ?_
      refine Ok.nil ?_
      refine Ok.thenN ?_
      refine Ok.ret ?_
      exact Ok.resP (vs := [.bool true]) [1] [.blk bxc (.cells #[.slice axc_0 xc.1.1.length cxc_0, .slice axc_1 xc.1.2.1.length cxc_1, .slice axc_2 xc.1.2.2.length cxc_2, .int .i64 xc.2.1.1, .int .i64 xc.2.1.2.1, .slice axc_3 xc.2.1.2.2.1.length cxc_3, .slice axc_4 xc.2.1.2.2.2.length cxc_4, .int .i64 xc.2.2.1, mvxc, mvxc_9, .bool xc.2.2.2.2.2] 37)] (by decide) rfl (.inl rfl) rfl (.cons (.tmp rfl) .nil) (hxj6.trans hxl17) ⟨true, rfl, rfl, hF⟩
/-- is an instruction formed? -/
def capC (c : CK) (s : Int) : Bool := !(decide (s < 0)) && !(decide (s ≥ c.2.1.2.1))
def insC (c : CK) (i : Int × Int) : Bool := !(frmV1 c i) && (if (i.1 == 16) = true then (i.2 != 0) && ((c.1.1.getD (Int.toNat i.2) default).2.2.1.all (capC c)) else true)
def frmS (c : CK) : Bool := !(frmV0 c) && c.2.1.2.2.2.all (insC c)
def frmP (c : CK) : Prop := c.2.1.2.2.2.length ≤ 1000000 ∧ ∀ f ∈ c.1.1, f.2.2.1.length ≤ 4611686018427387904
theorem frm_in (c : CK) (i : Int × Int) (x : Int) (K : Bool → Prop) (C : Int → Prop) (f : JF) (hf : f = c.1.1.getD (Int.toNat i.2) default) (hl : f.2.2.1.length ≤ 4611686018427387904) (h16 : (i.1 == 16) = true) (hV : frmV1 c i = false)
  (hb : insC c i = false → K false) (hg : insC c i = true → frmj24 x C) : ∀ (k q : Nat), q + k = f.2.2.1.length → f.2.2.1.all (capC c) = (f.2.2.1.drop q).all (capC c) → frml43 c K i x C f (k + 1) (q : Int) := by
 have hi : insC c i = ((i.2 != 0) && f.2.2.1.all (capC c)) := by unfold insC; rw [hV, h16, hf]; rfl
 intro k
 induction k with
 | zero =>
  intro q h1 he
  refine ⟨fun h => by have := of_decide_eq_true h; omega, fun _ => ⟨fun h0 => hb (by rw [hi]; simp only [bne, h0]; rfl), fun h0 => hg ?_⟩⟩
  rw [hi, he, List.drop_of_length_le (by omega)]
  simp only [bne, h0]; rfl
 | succ k ih =>
  intro q h1 he
  have hq : q < f.2.2.1.length := by omega
  rw [drop_get (l := f.2.2.1) default hq] at he
  refine ⟨fun _ => ⟨by omega, by omega, ?_⟩, fun h => by have := of_decide_eq_false h; omega⟩
  rw [Int.toNat_natCast]
  have hj : frmj54 c K i (q : Int) (f.2.2.1.getD q default) (frml43 c K i x C f (k + 1)) := by
   refine ⟨fun h => hb ?_, fun h => ?_⟩
   ·rw [hi, he, List.all_cons]
    unfold frmV3 at h
    unfold capC
    cases h0 : (i.2 == 0)
    ·rw [h0] at h
     cases h2 : decide (f.2.2.1.getD q default < 0)
     ·rw [h2] at h
      have h : decide (f.2.2.1.getD q default ≥ c.2.1.2.1) = true := h
      rw [h]; simp [bne]
     ·simp [bne]
    ·simp [bne, h0]
   ·rw [w64 (by omega)]
    refine ih (q + 1) (by omega) ?_
    rw [he, List.all_cons]
    have : capC c (f.2.2.1.getD q default) = true := by
     unfold frmV3 at h
     unfold capC
     rw [Bool.or_eq_false_iff, Bool.or_eq_false_iff] at h
     rw [h.1.2, h.2]; rfl
    rw [this]; rfl
  exact ⟨fun _ => hj, fun _ => hj⟩
theorem frm_F (c : CK) (hp : frmP c) : frmF c (fun r => r = frmS c) := by
 obtain ⟨h1, h2⟩ := hp
 have hl : ∀ n, (c.1.1.getD n default).2.2.1.length ≤ 4611686018427387904 := fun n => by
  rw [List.getD_eq_getElem?_getD]
  cases hn : c.1.1[n]? with
  | none => simp; exact Nat.zero_le _
  | some f => exact h2 f (List.mem_of_getElem? hn)
 have loop : frmV0 c = false → ∀ (k q : Nat), q + k = c.2.1.2.2.2.length → c.2.1.2.2.2.all (insC c) = (c.2.1.2.2.2.drop q).all (insC c) → frml17 c (fun r => r = frmS c) (k + 1) (q : Int) := fun h0 => by
  intro k
  induction k with
  | zero =>
   intro q h3 he
   refine ⟨fun h => by have := of_decide_eq_true h; omega, fun _ => ?_⟩
   unfold frmS; rw [h0, he, List.drop_of_length_le (by omega)]; rfl
  | succ k ih =>
   intro q h3 he
   have hq : q < c.2.1.2.2.2.length := by omega
   rw [drop_get (l := c.2.1.2.2.2) default hq] at he
   refine ⟨fun _ => ⟨by omega, by omega, ?_⟩, fun h => by have := of_decide_eq_false h; omega⟩
   rw [Int.toNat_natCast]
   obtain ⟨i, hi⟩ : ∃ i, i = c.2.1.2.2.2.getD q default := ⟨_, rfl⟩
   rw [← hi] at he ⊢
   have hb : insC c i = false → false = frmS c := fun h => by unfold frmS; rw [he, List.all_cons, h]; simp
   have hg : insC c i = true → frmj24 (q : Int) (frml17 c (fun r => r = frmS c) (k + 1)) := fun h => by
    unfold frmj24
    rw [w64 (by omega)]
    exact ih (q + 1) (by omega) (by rw [he, List.all_cons, h]; rfl)
   have hj : frmj29 c (fun r => r = frmS c) i (q : Int) (frml17 c (fun r => r = frmS c) (k + 1)) := by
    refine ⟨fun h => hb (by unfold insC; rw [h]; rfl), fun h => ⟨fun h16 => ?_, fun h16 => hg (by unfold insC; rw [h, h16]; rfl)⟩⟩
    have hV := h
    unfold frmV1 at h
    simp only [Bool.or_eq_false_iff, decide_eq_false_iff_not] at h
    obtain ⟨_, _, h5, h6⟩ := h
    have h7 : bndN c i = (c.1.1.length : Int) := by
     have : i.1 = 16 := by simpa using h16
     unfold bndN bndV0 bndV1; rw [this]; rfl
    rw [h7] at h6
    refine ⟨by omega, by omega, _, frm_in c i _ _ _ _ rfl (hl _) h16 hV hb hg (c.1.1.getD (Int.toNat i.2) default).2.2.1.length 0 (by omega) rfl⟩
   repeat' (first | exact hj | refine ⟨fun _ => ?_, fun _ => ?_⟩)
 have h6 : frmj6 c (fun r => r = frmS c) := ⟨fun h => by unfold frmS; rw [h]; rfl, fun h => ⟨_, loop h c.2.1.2.2.2.length 0 (by omega) rfl⟩⟩
 unfold frmF
 repeat' (first | exact h6 | refine ⟨fun _ => ?_, fun _ => ?_⟩)
set_option linter.unusedVariables false in
theorem frm_c {g : Ghost} {bxc : Nat} {axc_0 : Option Addr} {cxc_0 : Nat} {axc_1 : Option Addr} {cxc_1 : Nat} {axc_2 : Option Addr} {cxc_2 : Nat} {axc_3 : Option Addr} {cxc_3 : Nat} {axc_4 : Option Addr} {cxc_4 : Nat} {mvxc : Value} {mvxc_9 : Value} (xc : ((List (Int × Int × List (Int) × List (Int × Int))) × (List (Int × Int × List UInt8)) × List (List (List UInt8))) × (Int × Int × List (Int) × List (Int × Int)) × Int × (List ((Int) × (Int × List (Int)))) × List (Int) × Bool) (hRxc_0 : Rep g (.slice (.pair (.int .i64) (.pair (.int .i64) (.pair (.slice (.int .i64)) (.slice (.pair (.int .i64) (.int .i64))))))) [.slice axc_0 xc.1.1.length cxc_0] xc.1.1) (hRxc_1 : Rep g (.slice (.pair (.int .i64) (.pair (.int .i64) (.str)))) [.slice axc_1 xc.1.2.1.length cxc_1] xc.1.2.1) (hRxc_2 : Rep g (.slice (.slice (.str))) [.slice axc_2 xc.1.2.2.length cxc_2] xc.1.2.2) (hRxc_3 : Rep g (.slice (.int .i64)) [.slice axc_3 xc.2.1.2.2.1.length cxc_3] xc.2.1.2.2.1) (hRxc_4 : Rep g (.slice (.pair (.int .i64) (.int .i64))) [.slice axc_4 xc.2.1.2.2.2.length cxc_4] xc.2.1.2.2.2) (hG0 : GlobL g 0 (.int .u8) DSpace)  (hp : frmP xc) : CallsH Tryd.prog 8 #[.pointer (some ⟨bxc, 0, none⟩)] g [.blk bxc (.cells #[.slice axc_0 xc.1.1.length cxc_0, .slice axc_1 xc.1.2.1.length cxc_1, .slice axc_2 xc.1.2.2.length cxc_2, .int .i64 xc.2.1.1, .int .i64 xc.2.1.2.1, .slice axc_3 xc.2.1.2.2.1.length cxc_3, .slice axc_4 xc.2.1.2.2.2.length cxc_4, .int .i64 xc.2.2.1, mvxc, mvxc_9, .bool xc.2.2.2.2.2] 37)] (fun g' H' v => v = .bool (frmS xc) ∧ H' = [.blk bxc (.cells #[.slice axc_0 xc.1.1.length cxc_0, .slice axc_1 xc.1.2.1.length cxc_1, .slice axc_2 xc.1.2.2.length cxc_2, .int .i64 xc.2.1.1, .int .i64 xc.2.1.2.1, .slice axc_3 xc.2.1.2.2.1.length cxc_3, .slice axc_4 xc.2.1.2.2.2.length cxc_4, .int .i64 xc.2.2.1, mvxc, mvxc_9, .bool xc.2.2.2.2.2] 37)]) :=
 (frm_ok xc hRxc_0 hRxc_1 hRxc_2 hRxc_3 hRxc_4 hG0 _ (frm_F xc hp)).mono (by rintro g' H' v _ ⟨r0, rfl, rfl, hK⟩; subst hK; exact ⟨rfl, rfl⟩)
end
end Go.Proofs.YtanhbfhpnjjgcaaDoor.Cc
