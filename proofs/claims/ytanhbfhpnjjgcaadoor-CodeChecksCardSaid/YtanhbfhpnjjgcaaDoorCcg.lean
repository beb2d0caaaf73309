/- Code: the checker of a function, whole. -/
import Derived.Test.YtanhbfhpnjjgcaaDoorCcf
namespace Go.Proofs.YtanhbfhpnjjgcaaDoor.Cc
open Go Go.Eng Go.RowKit Fl
set_option linter.unusedVariables false
noncomputable section
def rgtV1 (ybxc_10l15 : Bool) (yown_xc_9_0l15 : List (Int)) : Bool :=
 ((decide ((yown_xc_9_0l15.length : Int) > 0)) && (!ybxc_10l15))
def rgtj17 (K : Bool → (((List (Int × Int × List (Int) × List (Int × Int))) × (List (Int × Int × List UInt8)) × List (List (List UInt8))) × (Int × Int × List (Int) × List (Int × Int)) × Int × (List ((Int) × (Int × List (Int)))) × List (Int) × Bool) → Prop) (ybxc_0l15 : List (Int × Int × List (Int) × List (Int × Int))) (ybxc_1l15 : List (Int × Int × List UInt8)) (ybxc_2l15 : List (List (List UInt8))) (ybxc_3l15 : Int) (ybxc_4l15 : Int) (ybxc_5l15 : List (Int)) (ybxc_6l15 : List (Int × Int)) (ybxc_7l15 : Int) (ybxc_10l15 : Bool) (ybmxc_8_0l15 : List ((Int) × (Int × List (Int)))) (yown_xc_9_0l15 : List (Int)) (C15 : (List (Int × Int × List (Int) × List (Int × Int))) → (List (Int × Int × List UInt8)) → (List (List (List UInt8))) → Int → Int → (List (Int)) → (List (Int × Int)) → Int → Bool → (List ((Int) × (Int × List (Int)))) → (List (Int)) → Prop) : Prop :=
 (((rgtV1 ybxc_10l15 yown_xc_9_0l15)) = true → (0 : Int) ≤ (w6 ((yown_xc_9_0l15.length : Int) - 1)) ∧ Int.toNat (w6 ((yown_xc_9_0l15.length : Int) - 1)) < yown_xc_9_0l15.length ∧ (0 : Int) ≤ (w6 ((yown_xc_9_0l15.length : Int) - 1)) ∧ (w6 ((yown_xc_9_0l15.length : Int) - 1)) ≤ (yown_xc_9_0l15.length : Int) ∧ stpP ((ybxc_0l15, ybxc_1l15, ybxc_2l15), (ybxc_3l15, ybxc_4l15, ybxc_5l15, ybxc_6l15), ybxc_7l15, ybmxc_8_0l15, (yown_xc_9_0l15.take (Int.toNat (w6 ((yown_xc_9_0l15.length : Int) - 1)))), ybxc_10l15) (yown_xc_9_0l15.getD (Int.toNat (w6 ((yown_xc_9_0l15.length : Int) - 1))) default) ∧ C15 (stpS ((ybxc_0l15, ybxc_1l15, ybxc_2l15), (ybxc_3l15, ybxc_4l15, ybxc_5l15, ybxc_6l15), ybxc_7l15, ybmxc_8_0l15, (yown_xc_9_0l15.take (Int.toNat (w6 ((yown_xc_9_0l15.length : Int) - 1)))), ybxc_10l15) (yown_xc_9_0l15.getD (Int.toNat (w6 ((yown_xc_9_0l15.length : Int) - 1))) default)).1.1 (stpS ((ybxc_0l15, ybxc_1l15, ybxc_2l15), (ybxc_3l15, ybxc_4l15, ybxc_5l15, ybxc_6l15), ybxc_7l15, ybmxc_8_0l15, (yown_xc_9_0l15.take (Int.toNat (w6 ((yown_xc_9_0l15.length : Int) - 1)))), ybxc_10l15) (yown_xc_9_0l15.getD (Int.toNat (w6 ((yown_xc_9_0l15.length : Int) - 1))) default)).1.2.1 (stpS ((ybxc_0l15, ybxc_1l15, ybxc_2l15), (ybxc_3l15, ybxc_4l15, ybxc_5l15, ybxc_6l15), ybxc_7l15, ybmxc_8_0l15, (yown_xc_9_0l15.take (Int.toNat (w6 ((yown_xc_9_0l15.length : Int) - 1)))), ybxc_10l15) (yown_xc_9_0l15.getD (Int.toNat (w6 ((yown_xc_9_0l15.length : Int) - 1))) default)).1.2.2 (stpS ((ybxc_0l15, ybxc_1l15, ybxc_2l15), (ybxc_3l15, ybxc_4l15, ybxc_5l15, ybxc_6l15), ybxc_7l15, ybmxc_8_0l15, (yown_xc_9_0l15.take (Int.toNat (w6 ((yown_xc_9_0l15.length : Int) - 1)))), ybxc_10l15) (yown_xc_9_0l15.getD (Int.toNat (w6 ((yown_xc_9_0l15.length : Int) - 1))) default)).2.1.1 (stpS ((ybxc_0l15, ybxc_1l15, ybxc_2l15), (ybxc_3l15, ybxc_4l15, ybxc_5l15, ybxc_6l15), ybxc_7l15, ybmxc_8_0l15, (yown_xc_9_0l15.take (Int.toNat (w6 ((yown_xc_9_0l15.length : Int) - 1)))), ybxc_10l15) (yown_xc_9_0l15.getD (Int.toNat (w6 ((yown_xc_9_0l15.length : Int) - 1))) default)).2.1.2.1 (stpS ((ybxc_0l15, ybxc_1l15, ybxc_2l15), (ybxc_3l15, ybxc_4l15, ybxc_5l15, ybxc_6l15), ybxc_7l15, ybmxc_8_0l15, (yown_xc_9_0l15.take (Int.toNat (w6 ((yown_xc_9_0l15.length : Int) - 1)))), ybxc_10l15) (yown_xc_9_0l15.getD (Int.toNat (w6 ((yown_xc_9_0l15.length : Int) - 1))) default)).2.1.2.2.1 (stpS ((ybxc_0l15, ybxc_1l15, ybxc_2l15), (ybxc_3l15, ybxc_4l15, ybxc_5l15, ybxc_6l15), ybxc_7l15, ybmxc_8_0l15, (yown_xc_9_0l15.take (Int.toNat (w6 ((yown_xc_9_0l15.length : Int) - 1)))), ybxc_10l15) (yown_xc_9_0l15.getD (Int.toNat (w6 ((yown_xc_9_0l15.length : Int) - 1))) default)).2.1.2.2.2 (stpS ((ybxc_0l15, ybxc_1l15, ybxc_2l15), (ybxc_3l15, ybxc_4l15, ybxc_5l15, ybxc_6l15), ybxc_7l15, ybmxc_8_0l15, (yown_xc_9_0l15.take (Int.toNat (w6 ((yown_xc_9_0l15.length : Int) - 1)))), ybxc_10l15) (yown_xc_9_0l15.getD (Int.toNat (w6 ((yown_xc_9_0l15.length : Int) - 1))) default)).2.2.1 (stpS ((ybxc_0l15, ybxc_1l15, ybxc_2l15), (ybxc_3l15, ybxc_4l15, ybxc_5l15, ybxc_6l15), ybxc_7l15, ybmxc_8_0l15, (yown_xc_9_0l15.take (Int.toNat (w6 ((yown_xc_9_0l15.length : Int) - 1)))), ybxc_10l15) (yown_xc_9_0l15.getD (Int.toNat (w6 ((yown_xc_9_0l15.length : Int) - 1))) default)).2.2.2.2.2 (stpS ((ybxc_0l15, ybxc_1l15, ybxc_2l15), (ybxc_3l15, ybxc_4l15, ybxc_5l15, ybxc_6l15), ybxc_7l15, ybmxc_8_0l15, (yown_xc_9_0l15.take (Int.toNat (w6 ((yown_xc_9_0l15.length : Int) - 1)))), ybxc_10l15) (yown_xc_9_0l15.getD (Int.toNat (w6 ((yown_xc_9_0l15.length : Int) - 1))) default)).2.2.2.1 (stpS ((ybxc_0l15, ybxc_1l15, ybxc_2l15), (ybxc_3l15, ybxc_4l15, ybxc_5l15, ybxc_6l15), ybxc_7l15, ybmxc_8_0l15, (yown_xc_9_0l15.take (Int.toNat (w6 ((yown_xc_9_0l15.length : Int) - 1)))), ybxc_10l15) (yown_xc_9_0l15.getD (Int.toNat (w6 ((yown_xc_9_0l15.length : Int) - 1))) default)).2.2.2.2.1) ∧ (((rgtV1 ybxc_10l15 yown_xc_9_0l15)) = false → K (!ybxc_10l15) ((ybxc_0l15, ybxc_1l15, ybxc_2l15), (ybxc_3l15, ybxc_4l15, ybxc_5l15, ybxc_6l15), ybxc_7l15, ybmxc_8_0l15, yown_xc_9_0l15, ybxc_10l15))
def rgtl15b (K : Bool → (((List (Int × Int × List (Int) × List (Int × Int))) × (List (Int × Int × List UInt8)) × List (List (List UInt8))) × (Int × Int × List (Int) × List (Int × Int)) × Int × (List ((Int) × (Int × List (Int)))) × List (Int) × Bool) → Prop) (ybxc_0l15 : List (Int × Int × List (Int) × List (Int × Int))) (ybxc_1l15 : List (Int × Int × List UInt8)) (ybxc_2l15 : List (List (List UInt8))) (ybxc_3l15 : Int) (ybxc_4l15 : Int) (ybxc_5l15 : List (Int)) (ybxc_6l15 : List (Int × Int)) (ybxc_7l15 : Int) (ybxc_10l15 : Bool) (ybmxc_8_0l15 : List ((Int) × (Int × List (Int)))) (yown_xc_9_0l15 : List (Int)) (C15 : (List (Int × Int × List (Int) × List (Int × Int))) → (List (Int × Int × List UInt8)) → (List (List (List UInt8))) → Int → Int → (List (Int)) → (List (Int × Int)) → Int → Bool → (List ((Int) × (Int × List (Int)))) → (List (Int)) → Prop) : Prop :=
 ((decide ((yown_xc_9_0l15.length : Int) > 0)) = true → rgtj17 K ybxc_0l15 ybxc_1l15 ybxc_2l15 ybxc_3l15 ybxc_4l15 ybxc_5l15 ybxc_6l15 ybxc_7l15 ybxc_10l15 ybmxc_8_0l15 yown_xc_9_0l15 C15) ∧ ((decide ((yown_xc_9_0l15.length : Int) > 0)) = false → rgtj17 K ybxc_0l15 ybxc_1l15 ybxc_2l15 ybxc_3l15 ybxc_4l15 ybxc_5l15 ybxc_6l15 ybxc_7l15 ybxc_10l15 ybmxc_8_0l15 yown_xc_9_0l15 C15)
def rgtl15 (K : Bool → (((List (Int × Int × List (Int) × List (Int × Int))) × (List (Int × Int × List UInt8)) × List (List (List UInt8))) × (Int × Int × List (Int) × List (Int × Int)) × Int × (List ((Int) × (Int × List (Int)))) × List (Int) × Bool) → Prop) : Nat → (List (Int × Int × List (Int) × List (Int × Int))) → (List (Int × Int × List UInt8)) → (List (List (List UInt8))) → Int → Int → (List (Int)) → (List (Int × Int)) → Int → Bool → (List ((Int) × (Int × List (Int)))) → (List (Int)) → Prop
 | 0, _, _, _, _, _, _, _, _, _, _, _ => False
 | k + 1, ybxc_0l15, ybxc_1l15, ybxc_2l15, ybxc_3l15, ybxc_4l15, ybxc_5l15, ybxc_6l15, ybxc_7l15, ybxc_10l15, ybmxc_8_0l15, yown_xc_9_0l15 => rgtl15b K ybxc_0l15 ybxc_1l15 ybxc_2l15 ybxc_3l15 ybxc_4l15 ybxc_5l15 ybxc_6l15 ybxc_7l15 ybxc_10l15 ybmxc_8_0l15 yown_xc_9_0l15 (rgtl15 K k)
def rgtF (xc : ((List (Int × Int × List (Int) × List (Int × Int))) × (List (Int × Int × List UInt8)) × List (List (List UInt8))) × (Int × Int × List (Int) × List (Int × Int)) × Int × (List ((Int) × (Int × List (Int)))) × List (Int) × Bool) (K : Bool → (((List (Int × Int × List (Int) × List (Int × Int))) × (List (Int × Int × List UInt8)) × List (List (List UInt8))) × (Int × Int × List (Int) × List (Int × Int)) × Int × (List ((Int) × (Int × List (Int)))) × List (Int) × Bool) → Prop) : Prop :=
 frmP xc ∧ ((!(frmS xc)) = true → K false xc) ∧ ((!(frmS xc)) = false → rchP xc 0 (0, []) ∧ ∃ k, rgtl15 K k (rchS xc 0 (0, [])).1.1 (rchS xc 0 (0, [])).1.2.1 (rchS xc 0 (0, [])).1.2.2 (rchS xc 0 (0, [])).2.1.1 (rchS xc 0 (0, [])).2.1.2.1 (rchS xc 0 (0, [])).2.1.2.2.1 (rchS xc 0 (0, [])).2.1.2.2.2 (rchS xc 0 (0, [])).2.2.1 (rchS xc 0 (0, [])).2.2.2.2.2 (rchS xc 0 (0, [])).2.2.2.1 (rchS xc 0 (0, [])).2.2.2.2.1)
set_option maxHeartbeats 4000000 in
set_option maxRecDepth 100000 in
set_option linter.unusedVariables false in
theorem rgt_ok {g : Ghost} {bxc : Nat} {axc_0 : Option Addr} {cxc_0 : Nat} {axc_1 : Option Addr} {cxc_1 : Nat} {axc_2 : Option Addr} {cxc_2 : Nat} {axc_3 : Option Addr} {cxc_3 : Nat} {axc_4 : Option Addr} {cxc_4 : Nat} {bmxc_8 : Nat} {esxc_8 : Array MapEntry} {ckxc_8 : Nat} {axc_5 : Option Addr} {cxc_5 : Nat} {xsxc_5 : List Value} (xc : ((List (Int × Int × List (Int) × List (Int × Int))) × (List (Int × Int × List UInt8)) × List (List (List UInt8))) × (Int × Int × List (Int) × List (Int × Int)) × Int × (List ((Int) × (Int × List (Int)))) × List (Int) × Bool) (hRxc_0 : Rep g (.slice (.pair (.int .i64) (.pair (.int .i64) (.pair (.slice (.int .i64)) (.slice (.pair (.int .i64) (.int .i64))))))) [.slice axc_0 xc.1.1.length cxc_0] xc.1.1) (hRxc_1 : Rep g (.slice (.pair (.int .i64) (.pair (.int .i64) (.str)))) [.slice axc_1 xc.1.2.1.length cxc_1] xc.1.2.1) (hRxc_2 : Rep g (.slice (.slice (.str))) [.slice axc_2 xc.1.2.2.length cxc_2] xc.1.2.2) (hRxc_3 : Rep g (.slice (.int .i64)) [.slice axc_3 xc.2.1.2.2.1.length cxc_3] xc.2.1.2.2.1) (hRxc_4 : Rep g (.slice (.pair (.int .i64) (.int .i64))) [.slice axc_4 xc.2.1.2.2.2.length cxc_4] xc.2.1.2.2.2) (hMxc_8 : RepMapA g (.pair (.int .i64) (.slice (.int .i64))) true (Value.int .i64) esxc_8 ckxc_8 xc.2.2.2.1) (hLxc_5 : RepL g (.int .i64) xsxc_5 xc.2.2.2.2.1) (hG0 : GlobL g 0 (.int .u8) DSpace) (K : Bool → (((List (Int × Int × List (Int) × List (Int × Int))) × (List (Int × Int × List UInt8)) × List (List (List UInt8))) × (Int × Int × List (Int) × List (Int × Int)) × Int × (List ((Int) × (Int × List (Int)))) × List (Int) × Bool) → Prop)
  (hF : rgtF xc K) : CallsH Tryd.prog 6 #[.pointer (some ⟨bxc, 0, none⟩)] g [.blk bxc (.cells #[.slice axc_0 xc.1.1.length cxc_0, .slice axc_1 xc.1.2.1.length cxc_1, .slice axc_2 xc.1.2.2.length cxc_2, .int .i64 xc.2.1.1, .int .i64 xc.2.1.2.1, .slice axc_3 xc.2.1.2.2.1.length cxc_3, .slice axc_4 xc.2.1.2.2.2.length cxc_4, .int .i64 xc.2.2.1, .map (some bmxc_8), .slice axc_5 xc.2.2.2.2.1.length cxc_5, .bool xc.2.2.2.2.2] 37), .blk bmxc_8 (.map esxc_8 ckxc_8), .own (.slice axc_5 xc.2.2.2.2.1.length cxc_5) 3 1 xc.2.2.2.2.1.length xsxc_5] (fun g' H' v => ∃ (r0 : Bool), ∃ (fxc : ((List (Int × Int × List (Int) × List (Int × Int))) × (List (Int × Int × List UInt8)) × List (List (List UInt8))) × (Int × Int × List (Int) × List (Int × Int)) × Int × (List ((Int) × (Int × List (Int)))) × List (Int) × Bool), ∃ (afxc_0 : Option Addr) (cfxc_0 : Nat), ∃ (afxc_1 : Option Addr) (cfxc_1 : Nat), ∃ (afxc_2 : Option Addr) (cfxc_2 : Nat), ∃ (afxc_3 : Option Addr) (cfxc_3 : Nat), ∃ (afxc_4 : Option Addr) (cfxc_4 : Nat), ∃ (esfxc_8 : Array MapEntry) (ckfxc_8 : Nat), ∃ (afxc_5 : Option Addr) (cfxc_5 : Nat) (xsfxc_5 : List Value), v = .bool r0 ∧ Rep g' (.slice (.pair (.int .i64) (.pair (.int .i64) (.pair (.slice (.int .i64)) (.slice (.pair (.int .i64) (.int .i64))))))) [.slice afxc_0 fxc.1.1.length cfxc_0] fxc.1.1 ∧ Rep g' (.slice (.pair (.int .i64) (.pair (.int .i64) (.str)))) [.slice afxc_1 fxc.1.2.1.length cfxc_1] fxc.1.2.1 ∧ Rep g' (.slice (.slice (.str))) [.slice afxc_2 fxc.1.2.2.length cfxc_2] fxc.1.2.2 ∧ Rep g' (.slice (.int .i64)) [.slice afxc_3 fxc.2.1.2.2.1.length cfxc_3] fxc.2.1.2.2.1 ∧ Rep g' (.slice (.pair (.int .i64) (.int .i64))) [.slice afxc_4 fxc.2.1.2.2.2.length cfxc_4] fxc.2.1.2.2.2 ∧ RepMapA g' (.pair (.int .i64) (.slice (.int .i64))) true (Value.int .i64) esfxc_8 ckfxc_8 fxc.2.2.2.1 ∧ RepL g' (.int .i64) xsfxc_5 fxc.2.2.2.2.1 ∧ H' = [.blk bxc (.cells #[.slice afxc_0 fxc.1.1.length cfxc_0, .slice afxc_1 fxc.1.2.1.length cfxc_1, .slice afxc_2 fxc.1.2.2.length cfxc_2, .int .i64 fxc.2.1.1, .int .i64 fxc.2.1.2.1, .slice afxc_3 fxc.2.1.2.2.1.length cfxc_3, .slice afxc_4 fxc.2.1.2.2.2.length cfxc_4, .int .i64 fxc.2.2.1, .map (some bmxc_8), .slice afxc_5 fxc.2.2.2.2.1.length cfxc_5, .bool fxc.2.2.2.2.2] 37), .blk bmxc_8 (.map esfxc_8 ckfxc_8), .own (.slice afxc_5 fxc.2.2.2.2.1.length cfxc_5) 3 1 fxc.2.2.2.2.1.length xsfxc_5] ∧ K r0 fxc) := by
 refine CallsH.enter 57 [(0, .pointer (some ⟨bxc, 0, none⟩))] Tryd.func6 rfl (by kernel_rfl) (by kernel_rfl) (by kernel_rfl) fun w0 => ?_
 refine Ok.seq ?_
 refine Ok.region ?_
 refine Ok.batch 1 [(0, .pointer (some ⟨bxc, 0, none⟩))] (by kernel_rfl) ?_
 refine Ok.nil ?_
 refine Ok.thenN ?_
 refine Ok.seq ?_
 refine Ok.seq ?_
 refine Ok.region ?_
 refine Ok.batch 1 [(0, .pointer (some ⟨bxc, 0, none⟩)), (4, .pointer (some ⟨bxc, 0, none⟩))] (by kernel_rfl) ?_
 obtain ⟨hp1, hF⟩ := hF
 refine Ok.op rfl (OpOk.callH [.blk bxc (.cells #[.slice axc_0 xc.1.1.length cxc_0, .slice axc_1 xc.1.2.1.length cxc_1, .slice axc_2 xc.1.2.2.length cxc_2, .int .i64 xc.2.1.1, .int .i64 xc.2.1.2.1, .slice axc_3 xc.2.1.2.2.1.length cxc_3, .slice axc_4 xc.2.1.2.2.2.length cxc_4, .int .i64 xc.2.2.1, .map (some bmxc_8), .slice axc_5 xc.2.2.2.2.1.length cxc_5, .bool xc.2.2.2.2.2] 37)] [.blk bmxc_8 (.map esxc_8 ckxc_8), .own (.slice axc_5 xc.2.2.2.2.1.length cxc_5) 3 1 xc.2.2.2.2.1.length xsxc_5] (enters (by kernel_rfl) (fun _ => by kernel_rfl)) rfl (frm_c xc hRxc_0 hRxc_1 hRxc_2 hRxc_3 hRxc_4 hG0 hp1) rfl fun g2 _ _ hx2 hV2 => ?_)
 obtain ⟨rfl, rfl⟩ := hV2
 replace hRxc_0 := hRxc_0.mono hx2.1
 replace hRxc_1 := hRxc_1.mono hx2.1
 replace hRxc_2 := hRxc_2.mono hx2.1
 replace hRxc_3 := hRxc_3.mono hx2.1
 replace hRxc_4 := hRxc_4.mono hx2.1
 replace hLxc_5 := hLxc_5.mono hx2.1
 replace hMxc_8 := hMxc_8.mono hx2.1
 replace hG0 := hG0.mono hx2.1
 refine Ok.batch 1 [(0, .pointer (some ⟨bxc, 0, none⟩)), (6, .bool (!(frmS xc)))] (by kernel_rfl) ?_
 refine Ok.nil ?_
 refine Ok.thenN ?_
 refine Ok.cond (b := !(frmS xc)) rfl (fun hc3 => ?_) (fun hc3 => ?_)
 ·replace hF := hF.1 hc3
  refine Ok.seq ?_
  refine Ok.region ?_
  refine Ok.batch 1 [(2, .bool false)] (by kernel_rfl) ?_
  refine Ok.nil ?_
  refine Ok.thenN ?_
  refine Ok.ret ?_
  refine Ok.thenR ?_
  exact Ok.resH (vs := [.bool false]) (.inl rfl) rfl (.cons (.tmp rfl) .nil) hx2 ⟨false, xc, axc_0, cxc_0, axc_1, cxc_1, axc_2, cxc_2, axc_3, cxc_3, axc_4, cxc_4, esxc_8, ckxc_8, axc_5, cxc_5, xsxc_5, rfl, hRxc_0, hRxc_1, hRxc_2, hRxc_3, hRxc_4, hMxc_8, hLxc_5, rfl, hF⟩
 ·replace hF := hF.2 hc3
  refine Ok.skip ?_
  refine Ok.thenN ?_
  refine Ok.seq ?_
  refine Ok.region ?_
  refine Ok.batch 2 [(0, .pointer (some ⟨bxc, 0, none⟩)), (7, .pointer (some ⟨bxc, 0, none⟩)), (8, .agg #[.int .i64 0, .slice none 0 0])] (by kernel_rfl) ?_
  obtain ⟨hp4, hF⟩ := hF
  refine Ok.op rfl (OpOk.callH [.blk bxc (.cells #[.slice axc_0 xc.1.1.length cxc_0, .slice axc_1 xc.1.2.1.length cxc_1, .slice axc_2 xc.1.2.2.length cxc_2, .int .i64 xc.2.1.1, .int .i64 xc.2.1.2.1, .slice axc_3 xc.2.1.2.2.1.length cxc_3, .slice axc_4 xc.2.1.2.2.2.length cxc_4, .int .i64 xc.2.2.1, .map (some bmxc_8), .slice axc_5 xc.2.2.2.2.1.length cxc_5, .bool xc.2.2.2.2.2] 37), .blk bmxc_8 (.map esxc_8 ckxc_8), .own (.slice axc_5 xc.2.2.2.2.1.length cxc_5) 3 1 xc.2.2.2.2.1.length xsxc_5] [] (enters (by kernel_rfl) (fun _ => by kernel_rfl)) rfl (rch_c xc 0 (0, []) hRxc_0 hRxc_1 hRxc_2 hRxc_3 hRxc_4 hMxc_8 hLxc_5 Rep.nil hp4) rfl fun g5 _ _ hx5 hV5 => ?_)
  obtain ⟨a5_0, c5_0, a5_2, c5_2, a5_4, c5_4, a5_6, c5_6, a5_8, c5_8, es5_10, ck5_10, a5_12, c5_12, xs5_12, rfl, hR5_0, hR5_2, hR5_4, hR5_6, hR5_8, hM5_10, hL5_12, rfl⟩ := hV5
  replace hG0 := hG0.mono hx5.1
  refine Ok.nil ?_
  refine Ok.thenN ?_
  refine Ok.seq ?_
  refine Ok.block ?_
  obtain ⟨k, hF⟩ := hF
  refine Ok.loop (fun k a W => ∃ gl15 : Ghost, Gext w0 g5 gl15 ∧ ∃ (aybxc_0l15 : Option Addr) (cybxc_0l15 : Nat) (ybxc_0l15 : List (Int × Int × List (Int) × List (Int × Int))) (aybxc_1l15 : Option Addr) (cybxc_1l15 : Nat) (ybxc_1l15 : List (Int × Int × List UInt8)) (aybxc_2l15 : Option Addr) (cybxc_2l15 : Nat) (ybxc_2l15 : List (List (List UInt8))) (ybxc_3l15 : Int) (ybxc_4l15 : Int) (aybxc_5l15 : Option Addr) (cybxc_5l15 : Nat) (ybxc_5l15 : List (Int)) (aybxc_6l15 : Option Addr) (cybxc_6l15 : Nat) (ybxc_6l15 : List (Int × Int)) (ybxc_7l15 : Int) (ybxc_10l15 : Bool) (esybmxc_8_0l15 : Array MapEntry) (ckybmxc_8_0l15 : Nat) (ybmxc_8_0l15 : List ((Int) × (Int × List (Int)))) (ayown_xc_9_0l15 : Option Addr) (cyown_xc_9_0l15 : Nat) (yown_xc_9_0l15 : List (Int)) (xsyown_xc_9_0l15 : List Value), Rep gl15 (.slice (.pair (.int .i64) (.pair (.int .i64) (.pair (.slice (.int .i64)) (.slice (.pair (.int .i64) (.int .i64))))))) [.slice aybxc_0l15 ybxc_0l15.length cybxc_0l15] ybxc_0l15 ∧ Rep gl15 (.slice (.pair (.int .i64) (.pair (.int .i64) (.str)))) [.slice aybxc_1l15 ybxc_1l15.length cybxc_1l15] ybxc_1l15 ∧ Rep gl15 (.slice (.slice (.str))) [.slice aybxc_2l15 ybxc_2l15.length cybxc_2l15] ybxc_2l15 ∧ Rep gl15 (.slice (.int .i64)) [.slice aybxc_5l15 ybxc_5l15.length cybxc_5l15] ybxc_5l15 ∧ Rep gl15 (.slice (.pair (.int .i64) (.int .i64))) [.slice aybxc_6l15 ybxc_6l15.length cybxc_6l15] ybxc_6l15 ∧ RepMapA gl15 (.pair (.int .i64) (.slice (.int .i64))) true (Value.int .i64) esybmxc_8_0l15 ckybmxc_8_0l15 ybmxc_8_0l15 ∧ RepL gl15 (.int .i64) xsyown_xc_9_0l15 yown_xc_9_0l15 ∧ StA 57 [(0, .pointer (some ⟨bxc, 0, none⟩))] a ∧ StW w0 [.blk bxc (.cells #[.slice aybxc_0l15 ybxc_0l15.length cybxc_0l15, .slice aybxc_1l15 ybxc_1l15.length cybxc_1l15, .slice aybxc_2l15 ybxc_2l15.length cybxc_2l15, .int .i64 ybxc_3l15, .int .i64 ybxc_4l15, .slice aybxc_5l15 ybxc_5l15.length cybxc_5l15, .slice aybxc_6l15 ybxc_6l15.length cybxc_6l15, .int .i64 ybxc_7l15, .map (some bmxc_8), .slice ayown_xc_9_0l15 yown_xc_9_0l15.length cyown_xc_9_0l15, .bool ybxc_10l15] 37), .blk bmxc_8 (.map esybmxc_8_0l15 ckybmxc_8_0l15), .own (.slice ayown_xc_9_0l15 yown_xc_9_0l15.length cyown_xc_9_0l15) 3 1 yown_xc_9_0l15.length xsyown_xc_9_0l15] gl15 W ∧ rgtl15 K k ybxc_0l15 ybxc_1l15 ybxc_2l15 ybxc_3l15 ybxc_4l15 ybxc_5l15 ybxc_6l15 ybxc_7l15 ybxc_10l15 ybmxc_8_0l15 yown_xc_9_0l15) k ?_ ?_
  ·
   exact fun a W hA hW => ⟨g5, (Gext.refl w0 g5), a5_0, c5_0, (rchS xc 0 (0, [])).1.1, a5_2, c5_2, (rchS xc 0 (0, [])).1.2.1, a5_4, c5_4, (rchS xc 0 (0, [])).1.2.2, (rchS xc 0 (0, [])).2.1.1, (rchS xc 0 (0, [])).2.1.2.1, a5_6, c5_6, (rchS xc 0 (0, [])).2.1.2.2.1, a5_8, c5_8, (rchS xc 0 (0, [])).2.1.2.2.2, (rchS xc 0 (0, [])).2.2.1, (rchS xc 0 (0, [])).2.2.2.2.2, es5_10, ck5_10, (rchS xc 0 (0, [])).2.2.2.1, a5_12, c5_12, (rchS xc 0 (0, [])).2.2.2.2.1, xs5_12, hR5_0, hR5_2, hR5_4, hR5_6, hR5_8, hM5_10, hL5_12, hA.sub (by kernel_rfl), hW, hF⟩
  ·
   clear hF
   rintro k15 a W ⟨gl15, hxl15, aybxc_0l15, cybxc_0l15, ybxc_0l15, aybxc_1l15, cybxc_1l15, ybxc_1l15, aybxc_2l15, cybxc_2l15, ybxc_2l15, ybxc_3l15, ybxc_4l15, aybxc_5l15, cybxc_5l15, ybxc_5l15, aybxc_6l15, cybxc_6l15, ybxc_6l15, ybxc_7l15, ybxc_10l15, esybmxc_8_0l15, ckybmxc_8_0l15, ybmxc_8_0l15, ayown_xc_9_0l15, cyown_xc_9_0l15, yown_xc_9_0l15, xsyown_xc_9_0l15, hRybxc_0l15, hRybxc_1l15, hRybxc_2l15, hRybxc_5l15, hRybxc_6l15, hMybmxc_8_0l15, hLyown_xc_9_0l15, hA, hW, hF⟩
   cases k15 with
   | zero => exact (hF : False).elim
   | succ k15 =>
    refine (?_ : Ok _ _ _ _ _ _) a W hA hW
    clear hA hW
    replace hG0 := hG0.mono hxl15.1
    refine Ok.seq ?_
    refine Ok.cut (fun a W => ∃ gj17 : Ghost, Gext w0 gl15 gj17 ∧ StA 57 [(0, .pointer (some ⟨bxc, 0, none⟩)), (22, .bool (rgtV1 ybxc_10l15 yown_xc_9_0l15))] a ∧ StW w0 [.blk bxc (.cells #[.slice aybxc_0l15 ybxc_0l15.length cybxc_0l15, .slice aybxc_1l15 ybxc_1l15.length cybxc_1l15, .slice aybxc_2l15 ybxc_2l15.length cybxc_2l15, .int .i64 ybxc_3l15, .int .i64 ybxc_4l15, .slice aybxc_5l15 ybxc_5l15.length cybxc_5l15, .slice aybxc_6l15 ybxc_6l15.length cybxc_6l15, .int .i64 ybxc_7l15, .map (some bmxc_8), .slice ayown_xc_9_0l15 yown_xc_9_0l15.length cyown_xc_9_0l15, .bool ybxc_10l15] 37), .blk bmxc_8 (.map esybmxc_8_0l15 ckybmxc_8_0l15), .own (.slice ayown_xc_9_0l15 yown_xc_9_0l15.length cyown_xc_9_0l15) 3 1 yown_xc_9_0l15.length xsyown_xc_9_0l15] gj17 W ∧ rgtj17 K ybxc_0l15 ybxc_1l15 ybxc_2l15 ybxc_3l15 ybxc_4l15 ybxc_5l15 ybxc_6l15 ybxc_7l15 ybxc_10l15 ybmxc_8_0l15 yown_xc_9_0l15 (rgtl15 K k15)) ?_ ?_
    ·
     refine Ok.region ?_
     refine Ok.batch 3 [(0, .pointer (some ⟨bxc, 0, none⟩)), (12, .pointer (some ⟨bxc, 9, none⟩))] (by kernel_rfl) ?_
     refine Ok.op rfl (OpOk.step (v := .slice ayown_xc_9_0l15 yown_xc_9_0l15.length cyown_xc_9_0l15) (Yields.load 0 rfl rfl Tryd.underlying30 rfl (by kernel_rfl)) rfl rfl ?_)
     refine Ok.batch 3 [(0, .pointer (some ⟨bxc, 0, none⟩)), (16, .bool (decide ((yown_xc_9_0l15.length : Int) > 0)))] (by kernel_rfl) ?_
     refine Ok.boolAt 16 (decide ((yown_xc_9_0l15.length : Int) > 0)) rfl (fun hc12 => ?_) (fun hc12 => ?_)
     ·replace hF := hF.1 hc12
      refine Ok.batch 3 [(0, .pointer (some ⟨bxc, 0, none⟩)), (16, .bool true), (19, .pointer (some ⟨bxc, 10, none⟩))] (by kernel_rfl) ?_
      refine Ok.opYes (j := 6) (d := 16) (want := true) (b := true) rfl (by kernel_rfl) (by kernel_rfl) rfl (OpOk.step (v := .bool ybxc_10l15) (Yields.load 0 rfl rfl Tryd.underlying4 rfl (by kernel_rfl)) rfl rfl ?_)
      refine Ok.batch 2 [(0, .pointer (some ⟨bxc, 0, none⟩)), (22, .bool (!ybxc_10l15))] (by kernel_rfl) ?_
      refine Ok.nil ?_
      refine Ok.thenN ?_
      refine Ok.reval 22 rfl (show (.bool (!ybxc_10l15) : Value) = .bool (rgtV1 ybxc_10l15 yown_xc_9_0l15) from congrArg (Value.bool) (mand_t hc12)) ?_
      exact fun a W hA hW => ⟨gl15, (Gext.refl w0 gl15), hA.sub (by kernel_rfl), hW, hF⟩
     ·replace hF := hF.2 hc12
      refine Ok.batch 6 [(0, .pointer (some ⟨bxc, 0, none⟩)), (22, .bool false)] (by kernel_rfl) ?_
      refine Ok.nil ?_
      refine Ok.thenN ?_
      refine Ok.reval 22 rfl (show (.bool false : Value) = .bool (rgtV1 ybxc_10l15 yown_xc_9_0l15) from congrArg (Value.bool) (mand_f hc12)) ?_
      exact fun a W hA hW => ⟨gl15, (Gext.refl w0 gl15), hA.sub (by kernel_rfl), hW, hF⟩
    ·
     clear hF
     rintro a W ⟨gj17, hxj17, hA, hW, hF⟩
     refine (?_ : Ok _ _ _ _ _ _) a W hA hW
     clear hA hW
     replace hRybxc_0l15 := hRybxc_0l15.mono hxj17.1
     replace hRybxc_1l15 := hRybxc_1l15.mono hxj17.1
     replace hRybxc_2l15 := hRybxc_2l15.mono hxj17.1
     replace hRybxc_5l15 := hRybxc_5l15.mono hxj17.1
     replace hRybxc_6l15 := hRybxc_6l15.mono hxj17.1
     replace hLyown_xc_9_0l15 := hLyown_xc_9_0l15.mono hxj17.1
     replace hMybmxc_8_0l15 := hMybmxc_8_0l15.mono hxj17.1
     replace hG0 := hG0.mono hxj17.1
     refine Ok.cond (b := (rgtV1 ybxc_10l15 yown_xc_9_0l15)) rfl (fun hc6 => ?_) (fun hc6 => ?_)
     ·replace hF := hF.1 hc6
      refine Ok.skip ?_
      refine Ok.thenN ?_
      refine Ok.block ?_
      refine Ok.seq ?_
      refine Ok.quiet' (by kernel_rfl) (by kernel_rfl) ?_
      refine OkQ.batch 3 [(0, .pointer (some ⟨bxc, 0, none⟩)), (25, .pointer (some ⟨bxc, 9, none⟩))] (by kernel_rfl) ?_
      refine OkQ.op rfl (OpQ.step (v := .slice ayown_xc_9_0l15 yown_xc_9_0l15.length cyown_xc_9_0l15) (Yields.load 0 rfl rfl Tryd.underlying30 rfl (by kernel_rfl)) rfl rfl ?_)
      refine OkQ.batch 3 [(0, .pointer (some ⟨bxc, 0, none⟩)), (26, .slice ayown_xc_9_0l15 yown_xc_9_0l15.length cyown_xc_9_0l15), (29, .pointer (some ⟨bxc, 9, none⟩))] (by kernel_rfl) ?_
      refine OkQ.op rfl (OpQ.step (v := .slice ayown_xc_9_0l15 yown_xc_9_0l15.length cyown_xc_9_0l15) (Yields.load 0 rfl rfl Tryd.underlying30 rfl (by kernel_rfl)) rfl rfl ?_)
      refine OkQ.batch 2 [(0, .pointer (some ⟨bxc, 0, none⟩)), (26, .slice ayown_xc_9_0l15 yown_xc_9_0l15.length cyown_xc_9_0l15), (32, .int .i64 (w6 ((yown_xc_9_0l15.length : Int) - 1)))] (by kernel_rfl) ?_
      obtain ⟨h08, h18, hF⟩ := hF
      have he8 := get_of (l := yown_xc_9_0l15) (default : Int) h18
      generalize hg8 : (yown_xc_9_0l15.getD (Int.toNat (w6 ((yown_xc_9_0l15.length : Int) - 1))) default) = e8 at he8 hF ⊢
      refine OkQ.op rfl (OpQ.indexOwn (e := .int .i64) (q := w6 ((yown_xc_9_0l15.length : Int) - 1)) (el := e8) 2 rfl hLyown_xc_9_0l15 rfl rfl Tryd.underlying30 (by kernel_rfl) (by kernel_rfl) h08 he8 rfl fun cs7 _ hr7 hc7 => ?_)
      obtain rfl := hr7
      replace hc7 : ∀ j v, ([.int .i64 e8] : List Value)[j]? = some v → xsyown_xc_9_0l15[Int.toNat (w6 ((yown_xc_9_0l15.length : Int) - 1)) * 1 + j]? = some v := hc7
      refine OkQ.op rfl (OpQ.step (v := .int .i64 e8) (Yields.loadOwn 2 0 rfl hc7 rfl Tryd.underlying3 rfl (by kernel_rfl)) rfl rfl ?_)
      refine OkQ.batch 1 [(0, .pointer (some ⟨bxc, 0, none⟩)), (3, .int .i64 e8)] (by kernel_rfl) ?_
      refine OkQ.nil ?_
      refine Ok.thenN ?_
      refine Ok.seq ?_
      refine Ok.mix [2, 3, 4, 8, 9, 10] [] [.blk bmxc_8 (.map esybmxc_8_0l15 ckybmxc_8_0l15)] [(0, true), (1, true), (2, true), (3, true), (4, true), (5, true), (6, true), (7, true), (8, true), (9, true), (10, true), (11, false), (12, true), (13, true), (14, false)] (by kernel_rfl) (by kernel_rfl) (.cons _ (.cons_cons _ (.cons _ .slnil))) ?_
      refine OkM.batch 4 [(0, .pointer (some ⟨bxc, 0, none⟩)), (3, .int .i64 e8), (35, .pointer (some ⟨bxc, 0, none⟩)), (38, .pointer (some ⟨bxc, 9, none⟩))] (by kernel_rfl) ?_
      refine OkM.head rfl rfl (show _ = [.blk bxc (.cells #[.slice aybxc_0l15 ybxc_0l15.length cybxc_0l15, .slice aybxc_1l15 ybxc_1l15.length cybxc_1l15, .slice aybxc_2l15 ybxc_2l15.length cybxc_2l15, .int .i64 ybxc_3l15, .int .i64 ybxc_4l15, .slice aybxc_5l15 ybxc_5l15.length cybxc_5l15, .slice aybxc_6l15 ybxc_6l15.length cybxc_6l15, .int .i64 ybxc_7l15, .map (some bmxc_8), .slice ayown_xc_9_0l15 yown_xc_9_0l15.length cyown_xc_9_0l15, .bool ybxc_10l15] 37), .blk bmxc_8 (.map esybmxc_8_0l15 ckybmxc_8_0l15), .own (.slice ayown_xc_9_0l15 yown_xc_9_0l15.length cyown_xc_9_0l15) 3 1 yown_xc_9_0l15.length xsyown_xc_9_0l15] from rfl) (OpQ.step (v := .slice ayown_xc_9_0l15 yown_xc_9_0l15.length cyown_xc_9_0l15) (Yields.load 0 rfl rfl Tryd.underlying30 rfl (by kernel_rfl)) rfl rfl ?_)
      refine OkM.batch 3 [(0, .pointer (some ⟨bxc, 0, none⟩)), (3, .int .i64 e8), (35, .pointer (some ⟨bxc, 0, none⟩)), (39, .slice ayown_xc_9_0l15 yown_xc_9_0l15.length cyown_xc_9_0l15), (42, .pointer (some ⟨bxc, 9, none⟩))] (by kernel_rfl) ?_
      refine OkM.head rfl rfl (show _ = [.blk bxc (.cells #[.slice aybxc_0l15 ybxc_0l15.length cybxc_0l15, .slice aybxc_1l15 ybxc_1l15.length cybxc_1l15, .slice aybxc_2l15 ybxc_2l15.length cybxc_2l15, .int .i64 ybxc_3l15, .int .i64 ybxc_4l15, .slice aybxc_5l15 ybxc_5l15.length cybxc_5l15, .slice aybxc_6l15 ybxc_6l15.length cybxc_6l15, .int .i64 ybxc_7l15, .map (some bmxc_8), .slice ayown_xc_9_0l15 yown_xc_9_0l15.length cyown_xc_9_0l15, .bool ybxc_10l15] 37), .blk bmxc_8 (.map esybmxc_8_0l15 ckybmxc_8_0l15), .own (.slice ayown_xc_9_0l15 yown_xc_9_0l15.length cyown_xc_9_0l15) 3 1 yown_xc_9_0l15.length xsyown_xc_9_0l15] from rfl) (OpQ.step (v := .slice ayown_xc_9_0l15 yown_xc_9_0l15.length cyown_xc_9_0l15) (Yields.load 0 rfl rfl Tryd.underlying30 rfl (by kernel_rfl)) rfl rfl ?_)
      refine OkM.batch 2 [(0, .pointer (some ⟨bxc, 0, none⟩)), (3, .int .i64 e8), (35, .pointer (some ⟨bxc, 0, none⟩)), (39, .slice ayown_xc_9_0l15 yown_xc_9_0l15.length cyown_xc_9_0l15), (45, .int .i64 (w6 ((yown_xc_9_0l15.length : Int) - 1)))] (by kernel_rfl) ?_
      obtain ⟨h09, h29, hF⟩ := hF
      refine OkM.tail rfl rfl (OpOk.cutOwn (e := .int .i64) (h := (w6 ((yown_xc_9_0l15.length : Int) - 1))) 2 rfl rfl rfl hLyown_xc_9_0l15 Tryd.underlying30 (by kernel_rfl) h09 h29 rfl fun xs9 hL9 => ?_)
      refine OkM.leaf (i := 11) (show _ = [.blk bmxc_8 (.map esybmxc_8_0l15 ckybmxc_8_0l15)] from rfl) (Gle.refl _) (.cons _ (.cons_cons _ (.cons _ .slnil))) ?_
      refine OkM.batch 2 [(0, .pointer (some ⟨bxc, 0, none⟩)), (3, .int .i64 e8), (46, .slice ayown_xc_9_0l15 (yown_xc_9_0l15.take (Int.toNat (w6 ((yown_xc_9_0l15.length : Int) - 1)))).length cyown_xc_9_0l15), (48, .pointer (some ⟨bxc, 9, none⟩))] (by kernel_rfl) ?_
      refine OkM.tail rfl rfl (OpOk.store (k := 1) (v := .slice ayown_xc_9_0l15 (yown_xc_9_0l15.take (Int.toNat (w6 ((yown_xc_9_0l15.length : Int) - 1)))).length cyown_xc_9_0l15) (H' := [.blk bxc (.cells #[.slice aybxc_0l15 ybxc_0l15.length cybxc_0l15, .slice aybxc_1l15 ybxc_1l15.length cybxc_1l15, .slice aybxc_2l15 ybxc_2l15.length cybxc_2l15, .int .i64 ybxc_3l15, .int .i64 ybxc_4l15, .slice aybxc_5l15 ybxc_5l15.length cybxc_5l15, .slice aybxc_6l15 ybxc_6l15.length cybxc_6l15, .int .i64 ybxc_7l15, .map (some bmxc_8), .slice ayown_xc_9_0l15 (yown_xc_9_0l15.take (Int.toNat (w6 ((yown_xc_9_0l15.length : Int) - 1)))).length cyown_xc_9_0l15, .bool ybxc_10l15] 37), .blk bmxc_8 (.map esybmxc_8_0l15 ckybmxc_8_0l15), .own (.slice ayown_xc_9_0l15 (yown_xc_9_0l15.take (Int.toNat (w6 ((yown_xc_9_0l15.length : Int) - 1)))).length cyown_xc_9_0l15) 3 1 (yown_xc_9_0l15.take (Int.toNat (w6 ((yown_xc_9_0l15.length : Int) - 1)))).length xs9]) 0 rfl rfl rfl (by kernel_rfl) (by kernel_rfl) (by kernel_rfl) (by kernel_rfl) (by kernel_rfl) ?_)
      refine OkM.leaf (i := 14) (show _ = [.blk bmxc_8 (.map esybmxc_8_0l15 ckybmxc_8_0l15)] from rfl) (Gle.refl _) (.cons _ (.cons_cons _ (.cons _ .slnil))) ?_
      refine OkM.nil ?_
      refine Ok.thenN ?_
      refine Ok.region ?_
      refine Ok.batch 2 [(0, .pointer (some ⟨bxc, 0, none⟩)), (49, .pointer (some ⟨bxc, 0, none⟩)), (50, .int .i64 e8)] (by kernel_rfl) ?_
      obtain ⟨hp10, hF⟩ := hF
      refine Ok.op rfl (OpOk.callH [.blk bxc (.cells #[.slice aybxc_0l15 ybxc_0l15.length cybxc_0l15, .slice aybxc_1l15 ybxc_1l15.length cybxc_1l15, .slice aybxc_2l15 ybxc_2l15.length cybxc_2l15, .int .i64 ybxc_3l15, .int .i64 ybxc_4l15, .slice aybxc_5l15 ybxc_5l15.length cybxc_5l15, .slice aybxc_6l15 ybxc_6l15.length cybxc_6l15, .int .i64 ybxc_7l15, .map (some bmxc_8), .slice ayown_xc_9_0l15 (yown_xc_9_0l15.take (Int.toNat (w6 ((yown_xc_9_0l15.length : Int) - 1)))).length cyown_xc_9_0l15, .bool ybxc_10l15] 37), .blk bmxc_8 (.map esybmxc_8_0l15 ckybmxc_8_0l15), .own (.slice ayown_xc_9_0l15 (yown_xc_9_0l15.take (Int.toNat (w6 ((yown_xc_9_0l15.length : Int) - 1)))).length cyown_xc_9_0l15) 3 1 (yown_xc_9_0l15.take (Int.toNat (w6 ((yown_xc_9_0l15.length : Int) - 1)))).length xs9] [] (enters (by kernel_rfl) (fun _ => by kernel_rfl)) rfl (stp_c ((ybxc_0l15, ybxc_1l15, ybxc_2l15), (ybxc_3l15, ybxc_4l15, ybxc_5l15, ybxc_6l15), ybxc_7l15, ybmxc_8_0l15, (yown_xc_9_0l15.take (Int.toNat (w6 ((yown_xc_9_0l15.length : Int) - 1)))), ybxc_10l15) e8 hRybxc_0l15 hRybxc_1l15 hRybxc_2l15 hRybxc_5l15 hRybxc_6l15 hMybmxc_8_0l15 hL9 hp10) rfl fun g11 _ _ hx11 hV11 => ?_)
      obtain ⟨a11_0, c11_0, a11_2, c11_2, a11_4, c11_4, a11_6, c11_6, a11_8, c11_8, es11_10, ck11_10, a11_12, c11_12, xs11_12, rfl, hR11_0, hR11_2, hR11_4, hR11_6, hR11_8, hM11_10, hL11_12, rfl⟩ := hV11
      replace hG0 := hG0.mono hx11.1
      refine Ok.nil ?_
      refine Ok.blockN ?_
      refine Ok.thenN ?_
      subst hg8
      exact fun a W hA hW => ⟨k15, Nat.lt_succ_self _, g11, ((hxl15.trans hxj17).trans hx11), a11_0, c11_0, (stpS ((ybxc_0l15, ybxc_1l15, ybxc_2l15), (ybxc_3l15, ybxc_4l15, ybxc_5l15, ybxc_6l15), ybxc_7l15, ybmxc_8_0l15, (yown_xc_9_0l15.take (Int.toNat (w6 ((yown_xc_9_0l15.length : Int) - 1)))), ybxc_10l15) (yown_xc_9_0l15.getD (Int.toNat (w6 ((yown_xc_9_0l15.length : Int) - 1))) default)).1.1, a11_2, c11_2, (stpS ((ybxc_0l15, ybxc_1l15, ybxc_2l15), (ybxc_3l15, ybxc_4l15, ybxc_5l15, ybxc_6l15), ybxc_7l15, ybmxc_8_0l15, (yown_xc_9_0l15.take (Int.toNat (w6 ((yown_xc_9_0l15.length : Int) - 1)))), ybxc_10l15) (yown_xc_9_0l15.getD (Int.toNat (w6 ((yown_xc_9_0l15.length : Int) - 1))) default)).1.2.1, a11_4, c11_4, (stpS ((ybxc_0l15, ybxc_1l15, ybxc_2l15), (ybxc_3l15, ybxc_4l15, ybxc_5l15, ybxc_6l15), ybxc_7l15, ybmxc_8_0l15, (yown_xc_9_0l15.take (Int.toNat (w6 ((yown_xc_9_0l15.length : Int) - 1)))), ybxc_10l15) (yown_xc_9_0l15.getD (Int.toNat (w6 ((yown_xc_9_0l15.length : Int) - 1))) default)).1.2.2, (stpS ((ybxc_0l15, ybxc_1l15, ybxc_2l15), (ybxc_3l15, ybxc_4l15, ybxc_5l15, ybxc_6l15), ybxc_7l15, ybmxc_8_0l15, (yown_xc_9_0l15.take (Int.toNat (w6 ((yown_xc_9_0l15.length : Int) - 1)))), ybxc_10l15) (yown_xc_9_0l15.getD (Int.toNat (w6 ((yown_xc_9_0l15.length : Int) - 1))) default)).2.1.1, (stpS ((ybxc_0l15, ybxc_1l15, ybxc_2l15), (ybxc_3l15, ybxc_4l15, ybxc_5l15, ybxc_6l15), ybxc_7l15, ybmxc_8_0l15, (yown_xc_9_0l15.take (Int.toNat (w6 ((yown_xc_9_0l15.length : Int) - 1)))), ybxc_10l15) (yown_xc_9_0l15.getD (Int.toNat (w6 ((yown_xc_9_0l15.length : Int) - 1))) default)).2.1.2.1, a11_6, c11_6, (stpS ((ybxc_0l15, ybxc_1l15, ybxc_2l15), (ybxc_3l15, ybxc_4l15, ybxc_5l15, ybxc_6l15), ybxc_7l15, ybmxc_8_0l15, (yown_xc_9_0l15.take (Int.toNat (w6 ((yown_xc_9_0l15.length : Int) - 1)))), ybxc_10l15) (yown_xc_9_0l15.getD (Int.toNat (w6 ((yown_xc_9_0l15.length : Int) - 1))) default)).2.1.2.2.1, a11_8, c11_8, (stpS ((ybxc_0l15, ybxc_1l15, ybxc_2l15), (ybxc_3l15, ybxc_4l15, ybxc_5l15, ybxc_6l15), ybxc_7l15, ybmxc_8_0l15, (yown_xc_9_0l15.take (Int.toNat (w6 ((yown_xc_9_0l15.length : Int) - 1)))), ybxc_10l15) (yown_xc_9_0l15.getD (Int.toNat (w6 ((yown_xc_9_0l15.length : Int) - 1))) default)).2.1.2.2.2, (stpS ((ybxc_0l15, ybxc_1l15, ybxc_2l15), (ybxc_3l15, ybxc_4l15, ybxc_5l15, ybxc_6l15), ybxc_7l15, ybmxc_8_0l15, (yown_xc_9_0l15.take (Int.toNat (w6 ((yown_xc_9_0l15.length : Int) - 1)))), ybxc_10l15) (yown_xc_9_0l15.getD (Int.toNat (w6 ((yown_xc_9_0l15.length : Int) - 1))) default)).2.2.1, (stpS ((ybxc_0l15, ybxc_1l15, ybxc_2l15), (ybxc_3l15, ybxc_4l15, ybxc_5l15, ybxc_6l15), ybxc_7l15, ybmxc_8_0l15, (yown_xc_9_0l15.take (Int.toNat (w6 ((yown_xc_9_0l15.length : Int) - 1)))), ybxc_10l15) (yown_xc_9_0l15.getD (Int.toNat (w6 ((yown_xc_9_0l15.length : Int) - 1))) default)).2.2.2.2.2, es11_10, ck11_10, (stpS ((ybxc_0l15, ybxc_1l15, ybxc_2l15), (ybxc_3l15, ybxc_4l15, ybxc_5l15, ybxc_6l15), ybxc_7l15, ybmxc_8_0l15, (yown_xc_9_0l15.take (Int.toNat (w6 ((yown_xc_9_0l15.length : Int) - 1)))), ybxc_10l15) (yown_xc_9_0l15.getD (Int.toNat (w6 ((yown_xc_9_0l15.length : Int) - 1))) default)).2.2.2.1, a11_12, c11_12, (stpS ((ybxc_0l15, ybxc_1l15, ybxc_2l15), (ybxc_3l15, ybxc_4l15, ybxc_5l15, ybxc_6l15), ybxc_7l15, ybmxc_8_0l15, (yown_xc_9_0l15.take (Int.toNat (w6 ((yown_xc_9_0l15.length : Int) - 1)))), ybxc_10l15) (yown_xc_9_0l15.getD (Int.toNat (w6 ((yown_xc_9_0l15.length : Int) - 1))) default)).2.2.2.2.1, xs11_12, hR11_0, hR11_2, hR11_4, hR11_6, hR11_8, hM11_10, hL11_12, hA.sub (by kernel_rfl), hW, hF⟩
     ·replace hF := hF.2 hc6
      refine Ok.exit ?_
      refine Ok.thenE ?_
      refine Ok.thenE ?_
      refine Ok.blockHit ?_
      refine Ok.thenN ?_
      refine Ok.seq ?_
      refine Ok.region ?_
      refine Ok.batch 3 [(54, .pointer (some ⟨bxc, 10, none⟩))] (by kernel_rfl) ?_
      refine Ok.op rfl (OpOk.step (v := .bool ybxc_10l15) (Yields.load 0 rfl rfl Tryd.underlying4 rfl (by kernel_rfl)) rfl rfl ?_)
      refine Ok.batch 2 [(2, .bool (!ybxc_10l15))] (by kernel_rfl) ?_
      refine Ok.nil ?_
      refine Ok.thenN ?_
      refine Ok.ret ?_
      exact Ok.resH (vs := [.bool (!ybxc_10l15)]) (.inl rfl) rfl (.cons (.tmp rfl) .nil) (((hx2.trans hx5).trans hxl15).trans hxj17) ⟨(!ybxc_10l15), ((ybxc_0l15, ybxc_1l15, ybxc_2l15), (ybxc_3l15, ybxc_4l15, ybxc_5l15, ybxc_6l15), ybxc_7l15, ybmxc_8_0l15, yown_xc_9_0l15, ybxc_10l15), aybxc_0l15, cybxc_0l15, aybxc_1l15, cybxc_1l15, aybxc_2l15, cybxc_2l15, aybxc_5l15, cybxc_5l15, aybxc_6l15, cybxc_6l15, esybmxc_8_0l15, ckybmxc_8_0l15, ayown_xc_9_0l15, cyown_xc_9_0l15, xsyown_xc_9_0l15, rfl, hRybxc_0l15, hRybxc_1l15, hRybxc_2l15, hRybxc_5l15, hRybxc_6l15, hMybmxc_8_0l15, hLyown_xc_9_0l15, rfl, hF⟩
end
end Go.Proofs.YtanhbfhpnjjgcaaDoor.Cc
