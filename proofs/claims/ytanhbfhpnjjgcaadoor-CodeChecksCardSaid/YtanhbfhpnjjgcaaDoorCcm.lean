/- Code: a program is checked, by both sides. -/
import Derived.Test.YtanhbfhpnjjgcaaDoorCcl
namespace Go.Proofs.YtanhbfhpnjjgcaaDoor.Cc
open Go Go.Eng Go.RowKit Fl
set_option linter.unusedVariables false
noncomputable section
def okF (p : JP) (own : Int) : Bool := (rgtS (p, p.1.getD (Int.toNat own) default, own, [], [], false)).1
def fnrQ (p : JP) (own : Int) : Prop := (0 ≤ own ∧ Int.toNat own < p.1.length) ∧ FnP p (p.1.getD (Int.toNat own) default)
theorem rgtP_of {p : JP} {f : JF} {own : Int} (h : FnP p f) : rgtP (p, f, own, [], [], false) := ⟨⟨h.code, h.caught, h.names⟩, rfl⟩
theorem fnr_F (p : JP) (own : Int) (hp : fnrQ p own) : fnrF p own (fun r => r = okF p own) := by
 obtain ⟨⟨h1, h2⟩, h3⟩ := hp
 have hi := rgt_iff _ (rgtP_of (own := own) h3)
 refine fnr_all h3 ⟨h1, h2, rfl⟩ (fun h => ?_) fun h => ?_
 ·cases hx : okF p own with
  | false => rfl
  | true => exact absurd (hi.1 hx) h
 ·exact (hi.2 h).symm
set_option linter.unusedVariables false in
theorem fnr_c {g : Ghost} {axp_0 : Option Addr} {cxp_0 : Nat} {axp_1 : Option Addr} {cxp_1 : Nat} {axp_2 : Option Addr} {cxp_2 : Nat} (xp : (List (Int × Int × List (Int) × List (Int × Int))) × (List (Int × Int × List UInt8)) × List (List (List UInt8))) (xown : Int) (hRxp_0 : Rep g (.slice (.pair (.int .i64) (.pair (.int .i64) (.pair (.slice (.int .i64)) (.slice (.pair (.int .i64) (.int .i64))))))) [.slice axp_0 xp.1.length cxp_0] xp.1) (hRxp_1 : Rep g (.slice (.pair (.int .i64) (.pair (.int .i64) (.str)))) [.slice axp_1 xp.2.1.length cxp_1] xp.2.1) (hRxp_2 : Rep g (.slice (.slice (.str))) [.slice axp_2 xp.2.2.length cxp_2] xp.2.2)  (hp : fnrQ xp xown) : CallsG Tryd.prog 7 #[.agg #[.slice axp_0 xp.1.length cxp_0, .slice axp_1 xp.2.1.length cxp_1, .slice axp_2 xp.2.2.length cxp_2], .int .i64 xown] g (.bool (okF xp xown)) :=
 (fnr_ok xp xown hRxp_0 hRxp_1 hRxp_2 _ (fnr_F xp xown hp)).gives (by rintro g' H' v _ ⟨r0, rfl, rfl, hK⟩; subst hK; rfl)
def prrV0 (xp : (List (Int × Int × List (Int) × List (Int × Int))) × (List (Int × Int × List UInt8)) × List (List (List UInt8))) : Bool :=
 ((decide ((xp.1.length : Int) > 400)) || ((decide ((xp.2.1.length : Int) > 400)) || (decide ((xp.2.2.length : Int) > 400))))
def prrV3 (xp : (List (Int × Int × List (Int) × List (Int × Int))) × (List (Int × Int × List UInt8)) × List (List (List UInt8))) : Bool :=
 (((xp.1.length : Int) == 0) || ((xp.1.getD (Int.toNat 0) default).1 != 0))
def prrV4 (xp : (List (Int × Int × List (Int) × List (Int × Int))) × (List (Int × Int × List UInt8)) × List (List (List UInt8))) (x3l9 : Bool) (x26l9 : Int) : Bool :=
 (x3l9 || ((decide (((xp.1.getD (Int.toNat x26l9) default).2.2.2.length : Int) > 8000)) || (decide ((xp.1.getD (Int.toNat x26l9) default).2.1 > 400))))
def prrj16 (xp : (List (Int × Int × List (Int) × List (Int × Int))) × (List (Int × Int × List UInt8)) × List (List (List UInt8))) (x3l9 : Bool) (x26l9 : Int) (C9 : Bool → Int → Prop) : Prop :=
 C9 (prrV4 xp x3l9 x26l9) (w6 (x26l9 + 1))
def prrl41b (xp : (List (Int × Int × List (Int) × List (Int × Int))) × (List (Int × Int × List UInt8)) × List (List (List UInt8))) (K : Int → Prop) (x61l41 : Int) (C41 : Int → Prop) : Prop :=
 ((decide (x61l41 < (xp.1.length : Int))) = true → fnrQ xp x61l41 ∧ ((!(okF xp x61l41)) = true → K 3) ∧ ((!(okF xp x61l41)) = false → C41 (w6 (x61l41 + 1)))) ∧ ((decide (x61l41 < (xp.1.length : Int))) = false → K 0)
def prrl41 (xp : (List (Int × Int × List (Int) × List (Int × Int))) × (List (Int × Int × List UInt8)) × List (List (List UInt8))) (K : Int → Prop) : Nat → Int → Prop
 | 0, _ => False
 | k + 1, x61l41 => prrl41b xp K x61l41 (prrl41 xp K k)
def prrj30 (xp : (List (Int × Int × List (Int) × List (Int × Int))) × (List (Int × Int × List UInt8)) × List (List (List UInt8))) (K : Int → Prop) : Prop :=
 (((prrV3 xp)) = true → K 3) ∧ (((prrV3 xp)) = false → ∃ k, prrl41 xp K k 0)
def prrl9b (xp : (List (Int × Int × List (Int) × List (Int × Int))) × (List (Int × Int × List UInt8)) × List (List (List UInt8))) (K : Int → Prop) (x3l9 : Bool) (x26l9 : Int) (C9 : Bool → Int → Prop) : Prop :=
 ((decide (x26l9 < (xp.1.length : Int))) = true → (0 : Int) ≤ x26l9 ∧ Int.toNat x26l9 < xp.1.length ∧ ((x3l9) = true → prrj16 xp x3l9 x26l9 C9) ∧ ((x3l9) = false → ((decide (((xp.1.getD (Int.toNat x26l9) default).2.2.2.length : Int) > 8000)) = true → prrj16 xp x3l9 x26l9 C9) ∧ ((decide (((xp.1.getD (Int.toNat x26l9) default).2.2.2.length : Int) > 8000)) = false → prrj16 xp x3l9 x26l9 C9))) ∧ ((decide (x26l9 < (xp.1.length : Int))) = false → ((x3l9) = true → K 2) ∧ ((x3l9) = false → ((((xp.1.length : Int) == 0)) = true → prrj30 xp K) ∧ ((((xp.1.length : Int) == 0)) = false → (0 : Int) ≤ 0 ∧ Int.toNat 0 < xp.1.length ∧ prrj30 xp K)))
def prrl9 (xp : (List (Int × Int × List (Int) × List (Int × Int))) × (List (Int × Int × List UInt8)) × List (List (List UInt8))) (K : Int → Prop) : Nat → Bool → Int → Prop
 | 0, _, _ => False
 | k + 1, x3l9, x26l9 => prrl9b xp K x3l9 x26l9 (prrl9 xp K k)
def prrj3 (xp : (List (Int × Int × List (Int) × List (Int × Int))) × (List (Int × Int × List UInt8)) × List (List (List UInt8))) (K : Int → Prop) : Prop :=
 ∃ k, prrl9 xp K k (prrV0 xp) 0
def prrF (xp : (List (Int × Int × List (Int) × List (Int × Int))) × (List (Int × Int × List UInt8)) × List (List (List UInt8))) (K : Int → Prop) : Prop :=
 ((decide ((xp.1.length : Int) > 400)) = true → prrj3 xp K) ∧ ((decide ((xp.1.length : Int) > 400)) = false → ((decide ((xp.2.1.length : Int) > 400)) = true → prrj3 xp K) ∧ ((decide ((xp.2.1.length : Int) > 400)) = false → prrj3 xp K))
set_option maxHeartbeats 4000000 in
set_option maxRecDepth 100000 in
set_option linter.unusedVariables false in
theorem prr_ok {g : Ghost} {axp_0 : Option Addr} {cxp_0 : Nat} {axp_1 : Option Addr} {cxp_1 : Nat} {axp_2 : Option Addr} {cxp_2 : Nat} (xp : (List (Int × Int × List (Int) × List (Int × Int))) × (List (Int × Int × List UInt8)) × List (List (List UInt8))) (hRxp_0 : Rep g (.slice (.pair (.int .i64) (.pair (.int .i64) (.pair (.slice (.int .i64)) (.slice (.pair (.int .i64) (.int .i64))))))) [.slice axp_0 xp.1.length cxp_0] xp.1) (hRxp_1 : Rep g (.slice (.pair (.int .i64) (.pair (.int .i64) (.str)))) [.slice axp_1 xp.2.1.length cxp_1] xp.2.1) (hRxp_2 : Rep g (.slice (.slice (.str))) [.slice axp_2 xp.2.2.length cxp_2] xp.2.2) (K : Int → Prop)
  (hF : prrF xp K) : CallsH Tryd.prog 5 #[.agg #[.slice axp_0 xp.1.length cxp_0, .slice axp_1 xp.2.1.length cxp_1, .slice axp_2 xp.2.2.length cxp_2]] g [] (fun g' H' v => ∃ (r0 : Int), v = .int .i64 r0 ∧ H' = [] ∧ K r0) := by
 refine CallsH.enter 69 [(0, .agg #[.slice axp_0 xp.1.length cxp_0, .slice axp_1 xp.2.1.length cxp_1, .slice axp_2 xp.2.2.length cxp_2])] Tryd.func5 rfl (by kernel_rfl) (by kernel_rfl) (by kernel_rfl) fun w0 => ?_
 refine Ok.seq ?_
 refine Ok.region ?_
 refine Ok.op rfl (OpOk.box (v := .agg #[.slice axp_0 xp.1.length cxp_0, .slice axp_1 xp.2.1.length cxp_1, .slice axp_2 xp.2.2.length cxp_2]) (cs := #[.slice axp_0 xp.1.length cxp_0, .slice axp_1 xp.2.1.length cxp_1, .slice axp_2 xp.2.2.length cxp_2]) rfl (by kernel_rfl) rfl fun bs1 => ?_)
 refine Ok.batch 1 [(1, .pointer (some ⟨bs1, 0, none⟩))] (by kernel_rfl) ?_
 refine Ok.nil ?_
 refine Ok.thenN ?_
 refine Ok.cut (fun a W => StA 69 [(1, .pointer (some ⟨bs1, 0, none⟩)), (3, .bool (prrV0 xp))] a ∧ StW w0 [.blk bs1 (.cells #[.slice axp_0 xp.1.length cxp_0, .slice axp_1 xp.2.1.length cxp_1, .slice axp_2 xp.2.2.length cxp_2] 26)] g W ∧ prrj3 xp K) ?_ ?_
 ·
  refine Ok.region ?_
  refine Ok.batch 1 [(1, .pointer (some ⟨bs1, 0, none⟩)), (7, .pointer (some ⟨bs1, 0, none⟩))] (by kernel_rfl) ?_
  refine Ok.op rfl (OpOk.step (v := .slice axp_0 xp.1.length cxp_0) (Yields.load 0 rfl rfl Tryd.underlying22 rfl (by kernel_rfl)) rfl rfl ?_)
  refine Ok.batch 3 [(1, .pointer (some ⟨bs1, 0, none⟩)), (11, .bool (decide ((xp.1.length : Int) > 400)))] (by kernel_rfl) ?_
  refine Ok.boolAt 11 (decide ((xp.1.length : Int) > 400)) rfl (fun hc16 => ?_) (fun hc16 => ?_)
  ·replace hF := hF.1 hc16
   refine Ok.batch 12 [(1, .pointer (some ⟨bs1, 0, none⟩)), (3, .bool true)] (by kernel_rfl) ?_
   refine Ok.nil ?_
   refine Ok.thenN ?_
   refine Ok.reval 3 rfl (show (.bool true : Value) = .bool (prrV0 xp) from congrArg (Value.bool) (mor_t hc16)) ?_
   exact fun a W hA hW => ⟨hA.sub (by kernel_rfl), hW, hF⟩
  ·replace hF := hF.2 hc16
   refine Ok.batch 1 [(1, .pointer (some ⟨bs1, 0, none⟩)), (11, .bool false), (12, .pointer (some ⟨bs1, 1, none⟩))] (by kernel_rfl) ?_
   refine Ok.opYes (j := 4) (d := 11) (want := false) (b := false) rfl (by kernel_rfl) (by kernel_rfl) rfl (OpOk.step (v := .slice axp_1 xp.2.1.length cxp_1) (Yields.load 0 rfl rfl Tryd.underlying23 rfl (by kernel_rfl)) rfl rfl ?_)
   refine Ok.batch 4 [(1, .pointer (some ⟨bs1, 0, none⟩)), (17, .bool (decide ((xp.2.1.length : Int) > 400)))] (by kernel_rfl) ?_
   refine Ok.boolAt 17 (decide ((xp.2.1.length : Int) > 400)) rfl (fun hc17 => ?_) (fun hc17 => ?_)
   ·replace hF := hF.1 hc17
    refine Ok.batch 6 [(1, .pointer (some ⟨bs1, 0, none⟩)), (3, .bool true)] (by kernel_rfl) ?_
    refine Ok.nil ?_
    refine Ok.thenN ?_
    refine Ok.reval 3 rfl (show (.bool true : Value) = .bool (prrV0 xp) from congrArg (Value.bool) ((Eq.trans (mor_t hc17) (mor_f hc16)))) ?_
    exact fun a W hA hW => ⟨hA.sub (by kernel_rfl), hW, hF⟩
   ·replace hF := hF.2 hc17
    refine Ok.batch 1 [(1, .pointer (some ⟨bs1, 0, none⟩)), (17, .bool false), (18, .pointer (some ⟨bs1, 2, none⟩))] (by kernel_rfl) ?_
    refine Ok.opYes (j := 10) (d := 17) (want := false) (b := false) rfl (by kernel_rfl) (by kernel_rfl) rfl (OpOk.step (v := .slice axp_2 xp.2.2.length cxp_2) (Yields.load 0 rfl rfl Tryd.underlying24 rfl (by kernel_rfl)) rfl rfl ?_)
    refine Ok.batch 4 [(1, .pointer (some ⟨bs1, 0, none⟩)), (3, .bool (decide ((xp.2.2.length : Int) > 400)))] (by kernel_rfl) ?_
    refine Ok.nil ?_
    refine Ok.thenN ?_
    refine Ok.reval 3 rfl (show (.bool (decide ((xp.2.2.length : Int) > 400)) : Value) = .bool (prrV0 xp) from congrArg (Value.bool) ((Eq.trans (mor_f hc17) (mor_f hc16)))) ?_
    exact fun a W hA hW => ⟨hA.sub (by kernel_rfl), hW, hF⟩
 ·
  clear hF
  rintro a W ⟨hA, hW, hF⟩
  refine (?_ : Ok _ _ _ _ _ _) a W hA hW
  clear hA hW
  refine Ok.seq ?_
  refine Ok.seq ?_
  refine Ok.region ?_
  refine Ok.batch 1 [(1, .pointer (some ⟨bs1, 0, none⟩)), (3, .bool (prrV0 xp)), (23, .pointer (some ⟨bs1, 0, none⟩))] (by kernel_rfl) ?_
  refine Ok.op rfl (OpOk.step (v := .slice axp_0 xp.1.length cxp_0) (Yields.load 0 rfl rfl Tryd.underlying22 rfl (by kernel_rfl)) rfl rfl ?_)
  refine Ok.batch 2 [(1, .pointer (some ⟨bs1, 0, none⟩)), (3, .bool (prrV0 xp)), (24, .slice axp_0 xp.1.length cxp_0), (25, .int .i64 (xp.1.length : Int)), (26, .int .i64 0)] (by kernel_rfl) ?_
  refine Ok.nil ?_
  refine Ok.thenN ?_
  refine Ok.block ?_
  obtain ⟨k, hF⟩ := hF
  refine Ok.loop (fun k a W => ∃ (x3l9 : Bool) (x26l9 : Int), StA 69 [(1, .pointer (some ⟨bs1, 0, none⟩)), (3, .bool x3l9), (24, .slice axp_0 xp.1.length cxp_0), (25, .int .i64 (xp.1.length : Int)), (26, .int .i64 x26l9)] a ∧ StW w0 [.blk bs1 (.cells #[.slice axp_0 xp.1.length cxp_0, .slice axp_1 xp.2.1.length cxp_1, .slice axp_2 xp.2.2.length cxp_2] 26)] g W ∧ prrl9 xp K k x3l9 x26l9) k ?_ ?_
  ·
   exact fun a W hA hW => ⟨(prrV0 xp), 0, hA.sub (by kernel_rfl), hW, hF⟩
  ·
   clear hF
   rintro k9 a W ⟨x3l9, x26l9, hA, hW, hF⟩
   cases k9 with
   | zero => exact (hF : False).elim
   | succ k9 =>
    refine (?_ : Ok _ _ _ _ _ _) a W hA hW
    clear hA hW
    refine Ok.seq ?_
    refine Ok.region ?_
    refine Ok.batch 1 [(1, .pointer (some ⟨bs1, 0, none⟩)), (3, .bool x3l9), (24, .slice axp_0 xp.1.length cxp_0), (25, .int .i64 (xp.1.length : Int)), (26, .int .i64 x26l9), (27, .bool (decide (x26l9 < (xp.1.length : Int))))] (by kernel_rfl) ?_
    refine Ok.nil ?_
    refine Ok.thenN ?_
    refine Ok.seq ?_
    refine Ok.cond (b := decide (x26l9 < (xp.1.length : Int))) rfl (fun hc2 => ?_) (fun hc2 => ?_)
    ·replace hF := hF.1 hc2
     refine Ok.skip ?_
     refine Ok.thenN ?_
     refine Ok.cut (fun a W => StA 69 [(1, .pointer (some ⟨bs1, 0, none⟩)), (3, .bool (prrV4 xp x3l9 x26l9)), (24, .slice axp_0 xp.1.length cxp_0), (25, .int .i64 (xp.1.length : Int)), (26, .int .i64 x26l9)] a ∧ StW w0 [.blk bs1 (.cells #[.slice axp_0 xp.1.length cxp_0, .slice axp_1 xp.2.1.length cxp_1, .slice axp_2 xp.2.2.length cxp_2] 26)] g W ∧ prrj16 xp x3l9 x26l9 (prrl9 xp K k9)) ?_ ?_
     ·
      refine Ok.block ?_
      refine Ok.seq ?_
      refine Ok.region ?_
      obtain ⟨h04, h14, hF⟩ := hF
      have he4 := get_of (l := xp.1) (default : Int × Int × List (Int) × List (Int × Int)) h14
      generalize hg4 : (xp.1.getD (Int.toNat x26l9) default) = e4 at he4 hF ⊢
      refine Ok.op rfl (OpOk.indexRo (e := .pair (.int .i64) (.pair (.int .i64) (.pair (.slice (.int .i64)) (.slice (.pair (.int .i64) (.int .i64)))))) (i := x26l9) (el := e4) rfl rfl Tryd.underlying22 (by kernel_rfl) hRxp_0 h04 he4 rfl fun q3 o3 cs3 _ hat3 hr3 => ?_)
      obtain ⟨_, _, rfl, rfl, ⟨_, _, rfl, rfl, ⟨_, _, rfl, ⟨a3_2, c3_2, rfl, hm3_2, hr3_2⟩, ⟨a3_3, c3_3, rfl, hm3_3, hr3_3⟩⟩⟩⟩ := hr3
      have hR3_2 : Rep g (.slice (.int .i64)) [.slice a3_2 e4.2.2.1.length c3_2] e4.2.2.1 := ⟨a3_2, c3_2, rfl, hm3_2, hr3_2⟩
      have hR3_3 : Rep g (.slice (.pair (.int .i64) (.int .i64))) [.slice a3_3 e4.2.2.2.length c3_3] e4.2.2.2 := ⟨a3_3, c3_3, rfl, hm3_3, hr3_3⟩
      replace hat3 : At g q3 o3 [.int .i64 e4.1, .int .i64 e4.2.1, .slice a3_2 e4.2.2.1.length c3_2, .slice a3_3 e4.2.2.2.length c3_3] := hat3
      refine Ok.op rfl (OpOk.step (v := .agg #[.int .i64 e4.1, .int .i64 e4.2.1, .slice a3_2 e4.2.2.1.length c3_2, .slice a3_3 e4.2.2.2.length c3_3]) (Yields.loadAggRo 0 4 #[.int .i64 e4.1, .int .i64 e4.2.1, .slice a3_2 e4.2.2.1.length c3_2, .slice a3_3 e4.2.2.2.length c3_3] hat3 (by kernel_rfl) Tryd.underlying33 rfl (by kernel_rfl) (by kernel_rfl) (by kernel_rfl)) rfl rfl ?_)
      refine Ok.op rfl (OpOk.alloc (z := .agg #[.int .i64 0, .int .i64 0, .slice none 0 0, .slice none 0 0]) (cs := #[.int .i64 0, .int .i64 0, .slice none 0 0, .slice none 0 0]) (by kernel_rfl) (by kernel_rfl) rfl fun bs5 => ?_)
      refine Ok.op rfl (OpOk.store (k := 4) (v := .agg #[.int .i64 e4.1, .int .i64 e4.2.1, .slice a3_2 e4.2.2.1.length c3_2, .slice a3_3 e4.2.2.2.length c3_3]) (H' := [.blk bs5 (.cells #[.int .i64 e4.1, .int .i64 e4.2.1, .slice a3_2 e4.2.2.1.length c3_2, .slice a3_3 e4.2.2.2.length c3_3] 33), .blk bs1 (.cells #[.slice axp_0 xp.1.length cxp_0, .slice axp_1 xp.2.1.length cxp_1, .slice axp_2 xp.2.2.length cxp_2] 26)]) 0 rfl rfl rfl (by kernel_rfl) (by kernel_rfl) (by kernel_rfl) (by kernel_rfl) (by kernel_rfl) ?_)
      refine Ok.nil ?_
      refine Ok.thenN ?_
      refine Ok.region ?_
      refine Ok.batch 2 [(1, .pointer (some ⟨bs1, 0, none⟩)), (5, .pointer (some ⟨bs5, 0, none⟩)), (24, .slice axp_0 xp.1.length cxp_0), (25, .int .i64 (xp.1.length : Int)), (26, .int .i64 x26l9), (31, .bool x3l9)] (by kernel_rfl) ?_
      refine Ok.boolAt 31 (x3l9) rfl (fun hc6 => ?_) (fun hc6 => ?_)
      ·replace hF := hF.1 hc6
       refine Ok.batch 11 [(1, .pointer (some ⟨bs1, 0, none⟩)), (3, .bool true), (24, .slice axp_0 xp.1.length cxp_0), (25, .int .i64 (xp.1.length : Int)), (26, .int .i64 x26l9)] (by kernel_rfl) ?_
       refine Ok.nil ?_
       refine Ok.blockN ?_
       refine Ok.thenN ?_
       subst hg4
       refine Ok.reval 3 rfl (show (.bool true : Value) = .bool (prrV4 xp x3l9 x26l9) from congrArg (Value.bool) (mor_t hc6)) ?_
       exact fun a W hA hW => ⟨hA.sub (by kernel_rfl), hW.sub (.cons _ (.cons_cons _ .slnil)), hF⟩
      ·replace hF := hF.2 hc6
       refine Ok.batch 1 [(1, .pointer (some ⟨bs1, 0, none⟩)), (5, .pointer (some ⟨bs5, 0, none⟩)), (24, .slice axp_0 xp.1.length cxp_0), (25, .int .i64 (xp.1.length : Int)), (26, .int .i64 x26l9), (31, .bool false), (32, .pointer (some ⟨bs5, 3, none⟩))] (by kernel_rfl) ?_
       refine Ok.opYes (j := 1) (d := 31) (want := false) (b := false) rfl (by kernel_rfl) (by kernel_rfl) rfl (OpOk.step (v := .slice a3_3 e4.2.2.2.length c3_3) (Yields.load 0 rfl rfl Tryd.underlying31 rfl (by kernel_rfl)) rfl rfl ?_)
       refine Ok.batch 4 [(1, .pointer (some ⟨bs1, 0, none⟩)), (5, .pointer (some ⟨bs5, 0, none⟩)), (24, .slice axp_0 xp.1.length cxp_0), (25, .int .i64 (xp.1.length : Int)), (26, .int .i64 x26l9), (37, .bool (decide ((e4.2.2.2.length : Int) > 8000)))] (by kernel_rfl) ?_
       refine Ok.boolAt 37 (decide ((e4.2.2.2.length : Int) > 8000)) rfl (fun hc7 => ?_) (fun hc7 => ?_)
       ·replace hF := hF.1 hc7
        refine Ok.batch 5 [(1, .pointer (some ⟨bs1, 0, none⟩)), (3, .bool true), (24, .slice axp_0 xp.1.length cxp_0), (25, .int .i64 (xp.1.length : Int)), (26, .int .i64 x26l9)] (by kernel_rfl) ?_
        refine Ok.nil ?_
        refine Ok.blockN ?_
        refine Ok.thenN ?_
        subst hg4
        refine Ok.reval 3 rfl (show (.bool true : Value) = .bool (prrV4 xp x3l9 x26l9) from congrArg (Value.bool) ((Eq.trans (mor_t hc7) (mor_f hc6)))) ?_
        exact fun a W hA hW => ⟨hA.sub (by kernel_rfl), hW.sub (.cons _ (.cons_cons _ .slnil)), hF⟩
       ·replace hF := hF.2 hc7
        refine Ok.batch 1 [(1, .pointer (some ⟨bs1, 0, none⟩)), (24, .slice axp_0 xp.1.length cxp_0), (25, .int .i64 (xp.1.length : Int)), (26, .int .i64 x26l9), (37, .bool false), (38, .pointer (some ⟨bs5, 1, none⟩))] (by kernel_rfl) ?_
        refine Ok.opYes (j := 7) (d := 37) (want := false) (b := false) rfl (by kernel_rfl) (by kernel_rfl) rfl (OpOk.step (v := .int .i64 e4.2.1) (Yields.load 0 rfl rfl Tryd.underlying3 rfl (by kernel_rfl)) rfl rfl ?_)
        refine Ok.batch 3 [(1, .pointer (some ⟨bs1, 0, none⟩)), (3, .bool (decide (e4.2.1 > 400))), (24, .slice axp_0 xp.1.length cxp_0), (25, .int .i64 (xp.1.length : Int)), (26, .int .i64 x26l9)] (by kernel_rfl) ?_
        refine Ok.nil ?_
        refine Ok.blockN ?_
        refine Ok.thenN ?_
        subst hg4
        refine Ok.reval 3 rfl (show (.bool (decide ((xp.1.getD (Int.toNat x26l9) default).2.1 > 400)) : Value) = .bool (prrV4 xp x3l9 x26l9) from congrArg (Value.bool) ((Eq.trans (mor_f hc7) (mor_f hc6)))) ?_
        exact fun a W hA hW => ⟨hA.sub (by kernel_rfl), hW.sub (.cons _ (.cons_cons _ .slnil)), hF⟩
     ·
      clear hF
      rintro a W ⟨hA, hW, hF⟩
      refine (?_ : Ok _ _ _ _ _ _) a W hA hW
      clear hA hW
      refine Ok.region ?_
      refine Ok.batch 2 [(1, .pointer (some ⟨bs1, 0, none⟩)), (3, .bool (prrV4 xp x3l9 x26l9)), (24, .slice axp_0 xp.1.length cxp_0), (25, .int .i64 (xp.1.length : Int)), (26, .int .i64 (w6 (x26l9 + 1)))] (by kernel_rfl) ?_
      refine Ok.nil ?_
      refine Ok.thenN ?_
      exact fun a W hA hW => ⟨k9, Nat.lt_succ_self _, (prrV4 xp x3l9 x26l9), w6 (x26l9 + 1), hA.sub (by kernel_rfl), hW, hF⟩
    ·replace hF := hF.2 hc2
     refine Ok.exit ?_
     refine Ok.thenE ?_
     refine Ok.thenE ?_
     refine Ok.blockHit ?_
     refine Ok.thenN ?_
     refine Ok.seq ?_
     refine Ok.block ?_
     refine Ok.seq ?_
     refine Ok.region ?_
     refine Ok.batch 2 [(1, .pointer (some ⟨bs1, 0, none⟩)), (43, .bool x3l9)] (by kernel_rfl) ?_
     refine Ok.nil ?_
     refine Ok.thenN ?_
     refine Ok.cond (b := x3l9) rfl (fun hc8 => ?_) (fun hc8 => ?_)
     ·replace hF := hF.1 hc8
      refine Ok.seq ?_
      refine Ok.region ?_
      refine Ok.batch 1 [(2, .int .i64 2)] (by kernel_rfl) ?_
      refine Ok.nil ?_
      refine Ok.thenN ?_
      refine Ok.ret ?_
      refine Ok.blockR ?_
      refine Ok.thenR ?_
      exact Ok.resP (vs := [.int .i64 2]) [] [] (by decide) rfl (.inl rfl) rfl (.cons (.tmp rfl) .nil) (Gext.refl w0 g) ⟨2, rfl, rfl, hF⟩
     ·replace hF := hF.2 hc8
      refine Ok.cut (fun a W => StA 69 [(1, .pointer (some ⟨bs1, 0, none⟩)), (45, .bool (prrV3 xp))] a ∧ StW w0 [.blk bs1 (.cells #[.slice axp_0 xp.1.length cxp_0, .slice axp_1 xp.2.1.length cxp_1, .slice axp_2 xp.2.2.length cxp_2] 26)] g W ∧ prrj30 xp K) ?_ ?_
      ·
       refine Ok.region ?_
       refine Ok.batch 1 [(1, .pointer (some ⟨bs1, 0, none⟩)), (46, .pointer (some ⟨bs1, 0, none⟩))] (by kernel_rfl) ?_
       refine Ok.op rfl (OpOk.step (v := .slice axp_0 xp.1.length cxp_0) (Yields.load 0 rfl rfl Tryd.underlying22 rfl (by kernel_rfl)) rfl rfl ?_)
       refine Ok.batch 3 [(1, .pointer (some ⟨bs1, 0, none⟩)), (50, .bool ((xp.1.length : Int) == 0))] (by kernel_rfl) ?_
       refine Ok.boolAt 50 (((xp.1.length : Int) == 0)) rfl (fun hc13 => ?_) (fun hc13 => ?_)
       ·replace hF := hF.1 hc13
        refine Ok.batch 8 [(1, .pointer (some ⟨bs1, 0, none⟩)), (45, .bool true)] (by kernel_rfl) ?_
        refine Ok.nil ?_
        refine Ok.thenN ?_
        refine Ok.reval 45 rfl (show (.bool true : Value) = .bool (prrV3 xp) from congrArg (Value.bool) (mor_t hc13)) ?_
        exact fun a W hA hW => ⟨hA.sub (by kernel_rfl), hW, hF⟩
       ·replace hF := hF.2 hc13
        refine Ok.batch 1 [(1, .pointer (some ⟨bs1, 0, none⟩)), (50, .bool false), (51, .pointer (some ⟨bs1, 0, none⟩))] (by kernel_rfl) ?_
        refine Ok.opYes (j := 4) (d := 50) (want := false) (b := false) rfl (by kernel_rfl) (by kernel_rfl) rfl (OpOk.step (v := .slice axp_0 xp.1.length cxp_0) (Yields.load 0 rfl rfl Tryd.underlying22 rfl (by kernel_rfl)) rfl rfl ?_)
        obtain ⟨h015, h115, hF⟩ := hF
        have he15 := get_of (l := xp.1) (default : Int × Int × List (Int) × List (Int × Int)) h115
        generalize hg15 : (xp.1.getD (Int.toNat 0) default) = e15 at he15 hF ⊢
        refine Ok.opYes (j := 4) (d := 50) (want := false) (b := false) rfl (by kernel_rfl) (by kernel_rfl) rfl (OpOk.indexRo (e := .pair (.int .i64) (.pair (.int .i64) (.pair (.slice (.int .i64)) (.slice (.pair (.int .i64) (.int .i64)))))) (i := 0) (el := e15) rfl rfl Tryd.underlying22 (by kernel_rfl) hRxp_0 h015 he15 rfl fun q14 o14 cs14 _ hat14 hr14 => ?_)
        obtain ⟨_, _, rfl, rfl, ⟨_, _, rfl, rfl, ⟨_, _, rfl, ⟨a14_2, c14_2, rfl, hm14_2, hr14_2⟩, ⟨a14_3, c14_3, rfl, hm14_3, hr14_3⟩⟩⟩⟩ := hr14
        have hR14_2 : Rep g (.slice (.int .i64)) [.slice a14_2 e15.2.2.1.length c14_2] e15.2.2.1 := ⟨a14_2, c14_2, rfl, hm14_2, hr14_2⟩
        have hR14_3 : Rep g (.slice (.pair (.int .i64) (.int .i64))) [.slice a14_3 e15.2.2.2.length c14_3] e15.2.2.2 := ⟨a14_3, c14_3, rfl, hm14_3, hr14_3⟩
        replace hat14 : At g q14 o14 [.int .i64 e15.1, .int .i64 e15.2.1, .slice a14_2 e15.2.2.1.length c14_2, .slice a14_3 e15.2.2.2.length c14_3] := hat14
        refine Ok.batch 1 [(1, .pointer (some ⟨bs1, 0, none⟩)), (50, .bool false), (54, .pointer (some ⟨q14, o14, none⟩))] (by kernel_rfl) ?_
        refine Ok.opYes (j := 4) (d := 50) (want := false) (b := false) rfl (by kernel_rfl) (by kernel_rfl) rfl (OpOk.step (v := .int .i64 e15.1) (Yields.loadRo 0 hat14 (by kernel_rfl) Tryd.underlying3 rfl (by kernel_rfl)) rfl rfl ?_)
        refine Ok.batch 3 [(1, .pointer (some ⟨bs1, 0, none⟩)), (45, .bool (e15.1 != 0))] (by kernel_rfl) ?_
        refine Ok.nil ?_
        refine Ok.thenN ?_
        subst hg15
        refine Ok.reval 45 rfl (show (.bool ((xp.1.getD (Int.toNat 0) default).1 != 0) : Value) = .bool (prrV3 xp) from congrArg (Value.bool) (mor_f hc13)) ?_
        exact fun a W hA hW => ⟨hA.sub (by kernel_rfl), hW, hF⟩
      ·
       clear hF
       rintro a W ⟨hA, hW, hF⟩
       refine (?_ : Ok _ _ _ _ _ _) a W hA hW
       clear hA hW
       refine Ok.cond (b := (prrV3 xp)) rfl (fun hc9 => ?_) (fun hc9 => ?_)
       ·replace hF := hF.1 hc9
        refine Ok.seq ?_
        refine Ok.region ?_
        refine Ok.batch 1 [(2, .int .i64 3)] (by kernel_rfl) ?_
        refine Ok.nil ?_
        refine Ok.thenN ?_
        refine Ok.ret ?_
        refine Ok.blockR ?_
        refine Ok.thenR ?_
        exact Ok.resP (vs := [.int .i64 3]) [] [] (by decide) rfl (.inl rfl) rfl (.cons (.tmp rfl) .nil) (Gext.refl w0 g) ⟨3, rfl, rfl, hF⟩
       ·replace hF := hF.2 hc9
        refine Ok.skip ?_
        refine Ok.blockN ?_
        refine Ok.thenN ?_
        refine Ok.seq ?_
        refine Ok.seq ?_
        refine Ok.region ?_
        refine Ok.batch 1 [(1, .pointer (some ⟨bs1, 0, none⟩)), (58, .pointer (some ⟨bs1, 0, none⟩))] (by kernel_rfl) ?_
        refine Ok.op rfl (OpOk.step (v := .slice axp_0 xp.1.length cxp_0) (Yields.load 0 rfl rfl Tryd.underlying22 rfl (by kernel_rfl)) rfl rfl ?_)
        refine Ok.batch 2 [(1, .pointer (some ⟨bs1, 0, none⟩)), (60, .int .i64 (xp.1.length : Int)), (61, .int .i64 0)] (by kernel_rfl) ?_
        refine Ok.nil ?_
        refine Ok.thenN ?_
        refine Ok.block ?_
        obtain ⟨k, hF⟩ := hF
        refine Ok.loop (fun k a W => ∃ (x61l41 : Int), StA 69 [(1, .pointer (some ⟨bs1, 0, none⟩)), (60, .int .i64 (xp.1.length : Int)), (61, .int .i64 x61l41)] a ∧ StW w0 [.blk bs1 (.cells #[.slice axp_0 xp.1.length cxp_0, .slice axp_1 xp.2.1.length cxp_1, .slice axp_2 xp.2.2.length cxp_2] 26)] g W ∧ prrl41 xp K k x61l41) k ?_ ?_
        ·
         exact fun a W hA hW => ⟨0, hA.sub (by kernel_rfl), hW, hF⟩
        ·
         clear hF
         rintro k41 a W ⟨x61l41, hA, hW, hF⟩
         cases k41 with
         | zero => exact (hF : False).elim
         | succ k41 =>
          refine (?_ : Ok _ _ _ _ _ _) a W hA hW
          clear hA hW
          refine Ok.seq ?_
          refine Ok.region ?_
          refine Ok.batch 1 [(1, .pointer (some ⟨bs1, 0, none⟩)), (60, .int .i64 (xp.1.length : Int)), (61, .int .i64 x61l41), (62, .bool (decide (x61l41 < (xp.1.length : Int))))] (by kernel_rfl) ?_
          refine Ok.nil ?_
          refine Ok.thenN ?_
          refine Ok.seq ?_
          refine Ok.cond (b := decide (x61l41 < (xp.1.length : Int))) rfl (fun hc10 => ?_) (fun hc10 => ?_)
          ·replace hF := hF.1 hc10
           refine Ok.skip ?_
           refine Ok.thenN ?_
           refine Ok.seq ?_
           refine Ok.block ?_
           refine Ok.seq ?_
           refine Ok.region ?_
           refine Ok.batch 2 [(1, .pointer (some ⟨bs1, 0, none⟩)), (6, .int .i64 x61l41), (60, .int .i64 (xp.1.length : Int)), (61, .int .i64 x61l41)] (by kernel_rfl) ?_
           refine Ok.nil ?_
           refine Ok.thenN ?_
           refine Ok.seq ?_
           refine Ok.region ?_
           refine Ok.op rfl (OpOk.step (v := .agg #[.slice axp_0 xp.1.length cxp_0, .slice axp_1 xp.2.1.length cxp_1, .slice axp_2 xp.2.2.length cxp_2]) (Yields.loadAgg 0 3 #[.slice axp_0 xp.1.length cxp_0, .slice axp_1 xp.2.1.length cxp_1, .slice axp_2 xp.2.2.length cxp_2] rfl rfl Tryd.underlying26 rfl (by kernel_rfl) (by kernel_rfl) (by kernel_rfl)) rfl rfl ?_)
           refine Ok.batch 1 [(1, .pointer (some ⟨bs1, 0, none⟩)), (60, .int .i64 (xp.1.length : Int)), (61, .int .i64 x61l41), (64, .agg #[.slice axp_0 xp.1.length cxp_0, .slice axp_1 xp.2.1.length cxp_1, .slice axp_2 xp.2.2.length cxp_2]), (65, .int .i64 x61l41)] (by kernel_rfl) ?_
           obtain ⟨hp11, hF⟩ := hF
           refine Ok.op rfl (OpOk.callG (v := .bool (okF xp x61l41)) (enters (by kernel_rfl) (fun _ => by kernel_rfl)) (fun W hW => fnr_c xp x61l41 (hRxp_0.mono hW.sees) (hRxp_1.mono hW.sees) (hRxp_2.mono hW.sees) hp11) rfl ?_)
           refine Ok.batch 1 [(1, .pointer (some ⟨bs1, 0, none⟩)), (60, .int .i64 (xp.1.length : Int)), (61, .int .i64 x61l41), (67, .bool (!(okF xp x61l41)))] (by kernel_rfl) ?_
           refine Ok.nil ?_
           refine Ok.thenN ?_
           refine Ok.cond (b := !(okF xp x61l41)) rfl (fun hc12 => ?_) (fun hc12 => ?_)
           ·replace hF := hF.1 hc12
            refine Ok.seq ?_
            refine Ok.region ?_
            refine Ok.batch 1 [(2, .int .i64 3)] (by kernel_rfl) ?_
            refine Ok.nil ?_
            refine Ok.thenN ?_
            refine Ok.ret ?_
            refine Ok.blockR ?_
            refine Ok.thenR ?_
            refine Ok.thenR ?_
            refine Ok.blockR ?_
            refine Ok.thenR ?_
            exact Ok.resP (vs := [.int .i64 3]) [] [] (by decide) rfl (.inl rfl) rfl (.cons (.tmp rfl) .nil) (Gext.refl w0 g) ⟨3, rfl, rfl, hF⟩
           ·replace hF := hF.2 hc12
            refine Ok.skip ?_
            refine Ok.blockN ?_
            refine Ok.thenN ?_
            refine Ok.region ?_
            refine Ok.batch 2 [(1, .pointer (some ⟨bs1, 0, none⟩)), (60, .int .i64 (xp.1.length : Int)), (61, .int .i64 (w6 (x61l41 + 1)))] (by kernel_rfl) ?_
            refine Ok.nil ?_
            refine Ok.thenN ?_
            exact fun a W hA hW => ⟨k41, Nat.lt_succ_self _, w6 (x61l41 + 1), hA.sub (by kernel_rfl), hW, hF⟩
          ·replace hF := hF.2 hc10
           refine Ok.exit ?_
           refine Ok.thenE ?_
           refine Ok.thenE ?_
           refine Ok.blockHit ?_
           refine Ok.thenN ?_
           refine Ok.seq ?_
           refine Ok.region ?_
           refine Ok.batch 1 [(2, .int .i64 0)] (by kernel_rfl) ?_
           refine Ok.nil ?_
           refine Ok.thenN ?_
           refine Ok.ret ?_
           exact Ok.resP (vs := [.int .i64 0]) [] [] (by decide) rfl (.inl rfl) rfl (.cons (.tmp rfl) .nil) (Gext.refl w0 g) ⟨0, rfl, rfl, hF⟩
def chkS (p : JP) : Int := if (chkV0 p || p.1.any chkV1) = true then 2 else if chkV2 p = true then 3 else if ((List.range p.1.length).all fun k : Nat => okF p (k : Int)) = true then 0 else 3
def chkP (p : JP) : Prop := p.1.length ≤ 4611686018427387904 ∧ (∀ f ∈ p.1, f.2.2.1.length ≤ 4611686018427387904) ∧ ∀ x ∈ p.2.2, x.length ≤ 4611686018427387904
theorem getD_in {α : Type} [Inhabited α] {l : List α} {k : Nat} (h : k < l.length) : l.getD k default ∈ l := by
 rw [List.getD_eq_getElem?_getD, List.getElem?_eq_getElem h]
 exact List.getElem_mem _
theorem FnP_of {p : JP} (hp : chkP p) (h0 : chkV0 p = false) (h1 : p.1.any chkV1 = false) {k : Nat} (hk : k < p.1.length) : FnP p (p.1.getD k default) := by
 unfold chkV0 at h0
 simp only [Bool.or_eq_false_iff, decide_eq_false_iff_not] at h0
 obtain ⟨a1, a2, a3⟩ := h0
 have hm := getD_in hk
 have h2 : chkV1 (p.1.getD k default) = false := by
  rw [List.any_eq_false] at h1
  simpa using h1 _ hm
 unfold chkV1 at h2
 simp only [Bool.or_eq_false_iff, decide_eq_false_iff_not] at h2
 obtain ⟨a4, a5⟩ := h2
 exact ⟨by omega, by omega, by omega, by omega, by omega, hp.2.1, hp.2.1 _ hm, hp.2.2⟩
theorem chk_cases {p : JP} (h0 : chkV0 p = false) (h1 : p.1.any chkV1 = false) : (chkV2 p = true → chkS p = 3) ∧ (chkV2 p = false → ((∀ k : Nat, k < p.1.length → okF p (k : Int) = true) → chkS p = 0) ∧ ∀ k : Nat, k < p.1.length → okF p (k : Int) = false → chkS p = 3) := by
 unfold chkS
 rw [h0, h1, Bool.or_false, if_neg (by decide)]
 refine ⟨fun h => by rw [if_pos h], fun h => ⟨fun ha => ?_, fun k hk hb => ?_⟩⟩
 ·rw [h, if_neg (by decide), if_pos]
  rw [List.all_eq_true]
  exact fun k hk => ha k (List.mem_range.1 hk)
 ·rw [h, if_neg (by decide), if_neg]
  intro ha
  rw [List.all_eq_true] at ha
  have := ha k (List.mem_range.2 hk)
  rw [hb] at this; cases this
theorem chk_F (p : JP) (hp : chkP p) : chkF p (fun r => r = chkS p) := by
 have hlen := hp.1
 have loop2 : chkV0 p = false → p.1.any chkV1 = false → chkV2 p = false → ∀ (k q : Nat), q + k = p.1.length → (∀ j : Nat, j < q → okF p (j : Int) = true) → chkl46 p (fun r => r = chkS p) (k + 1) (q : Int) := fun h0 h1 h2 => by
  obtain ⟨c1, c2⟩ := (chk_cases h0 h1).2 h2
  intro k
  induction k with
  | zero =>
   intro q hq ha
   exact ⟨fun h => (by have := of_decide_eq_true h; omega), fun _ => (c1 fun j hj => ha j (by omega)).symm⟩
  | succ k ih =>
   intro q hq ha
   have hql : q < p.1.length := by omega
   refine ⟨fun _ => ⟨by omega, by omega, ?_⟩, fun h => by have := of_decide_eq_false h; omega⟩
   rw [Int.toNat_natCast]
   refine ⟨rgtP_of (FnP_of hp h0 h1 hql), ?_⟩
   have e : (rgtS (p, p.1.getD q default, (q : Int), [], [], false)).1 = okF p (q : Int) := by
    unfold okF; rw [Int.toNat_natCast]
   rw [e]
   refine ⟨fun h => (c2 q hql (by simpa using h)).symm, fun h => ?_⟩
   rw [w64 (by omega)]
   refine ih (q + 1) (by omega) fun j hj => ?_
   by_cases hjq : j = q
   ·subst hjq; simpa using h
   ·exact ha j (by omega)
 have loop1 : chkV0 p = false → ∀ (k q : Nat), q + k = p.1.length → p.1.any chkV1 = (p.1.drop q).any chkV1 → chkl15 p (fun r => r = chkS p) (k + 1) (q : Int) := fun h0 => by
  intro k
  induction k with
  | zero =>
   intro q hq he
   rw [List.drop_of_length_le (by omega), List.any_nil] at he
   have h35 : chkj35 p (fun r => r = chkS p) := ⟨fun h => ((chk_cases h0 he).1 h).symm, fun h => ⟨_, loop2 h0 he h p.1.length 0 (by omega) fun j hj => by omega⟩⟩
   refine ⟨fun h => (by have := of_decide_eq_true h; omega), fun _ => ⟨fun _ => h35, fun h => ⟨by omega, ?_, h35⟩⟩⟩
   have : ¬ (p.1.length : Int) = 0 := by simpa using h
   show 0 < p.1.length
   omega
  | succ k ih =>
   intro q hq he
   have hql : q < p.1.length := by omega
   rw [drop_get (l := p.1) default hql, List.any_cons] at he
   refine ⟨fun _ => ⟨by omega, by omega, ?_⟩, fun h => by have := of_decide_eq_false h; omega⟩
   rw [Int.toNat_natCast]
   have h26 : chkj26 (fun r => r = chkS p) (p.1.getD q default) (q : Int) (chkl15 p (fun r => r = chkS p) (k + 1)) := by
    refine ⟨fun h => ?_, fun h => ?_⟩
    ·unfold chkS; rw [he, h, Bool.true_or, Bool.or_true, if_pos rfl]
    ·rw [w64 (by omega)]
     exact ih (q + 1) (by omega) (by rw [he, h, Bool.false_or])
   exact ⟨fun _ => h26, fun _ => h26⟩
 have h4 : chkj4 p (fun r => r = chkS p) := ⟨fun h => (by unfold chkS; rw [h, Bool.true_or, if_pos rfl]), fun h => ⟨_, loop1 h p.1.length 0 (by omega) rfl⟩⟩
 exact ⟨fun _ => h4, fun _ => ⟨fun _ => h4, fun _ => h4⟩⟩
set_option linter.unusedVariables false in
theorem chk_c {g : Ghost} {axp_0 : Option Addr} {cxp_0 : Nat} {axp_1 : Option Addr} {cxp_1 : Nat} {axp_2 : Option Addr} {cxp_2 : Nat} (xp : (List (Int × Int × List (Int) × List (Int × Int))) × (List (Int × Int × List UInt8)) × List (List (List UInt8))) (hRxp_0 : Rep g (.slice (.pair (.int .i64) (.pair (.int .i64) (.pair (.slice (.int .i64)) (.slice (.pair (.int .i64) (.int .i64))))))) [.slice axp_0 xp.1.length cxp_0] xp.1) (hRxp_1 : Rep g (.slice (.pair (.int .i64) (.pair (.int .i64) (.str)))) [.slice axp_1 xp.2.1.length cxp_1] xp.2.1) (hRxp_2 : Rep g (.slice (.slice (.str))) [.slice axp_2 xp.2.2.length cxp_2] xp.2.2) (hG0 : GlobL g 0 (.int .u8) DSpace)  (hp : chkP xp) : CallsG Tryd.prog 4 #[.agg #[.slice axp_0 xp.1.length cxp_0, .slice axp_1 xp.2.1.length cxp_1, .slice axp_2 xp.2.2.length cxp_2]] g (.int .i64 (chkS xp)) :=
 (chk_ok xp hRxp_0 hRxp_1 hRxp_2 hG0 _ (chk_F xp hp)).gives (by rintro g' H' v _ ⟨r0, rfl, rfl, hK⟩; subst hK; rfl)
theorem prr_F (p : JP) (hp : chkP p) : prrF p (fun r => r = chkS p) := by
 have hlen := hp.1
 have loop2 : chkV0 p = false → p.1.any chkV1 = false → chkV2 p = false → ∀ (k q : Nat), q + k = p.1.length → (∀ j : Nat, j < q → okF p (j : Int) = true) → prrl41 p (fun r => r = chkS p) (k + 1) (q : Int) := fun h0 h1 h2 => by
  obtain ⟨c1, c2⟩ := (chk_cases h0 h1).2 h2
  intro k
  induction k with
  | zero =>
   intro q hq ha
   exact ⟨fun h => (by have := of_decide_eq_true h; omega), fun _ => (c1 fun j hj => ha j (by omega)).symm⟩
  | succ k ih =>
   intro q hq ha
   have hql : q < p.1.length := by omega
   refine ⟨fun _ => ⟨⟨⟨by omega, by omega⟩, by rw [Int.toNat_natCast]; exact FnP_of hp h0 h1 hql⟩, fun h => (c2 q hql (by simpa using h)).symm, fun h => ?_⟩, fun h => by have := of_decide_eq_false h; omega⟩
   rw [w64 (by omega)]
   refine ih (q + 1) (by omega) fun j hj => ?_
   by_cases hjq : j = q
   ·subst hjq; simpa using h
   ·exact ha j (by omega)
 have loop1 : ∀ (k q : Nat), q + k = p.1.length → ∀ b, (chkV0 p || p.1.any chkV1) = (b || (p.1.drop q).any chkV1) → prrl9 p (fun r => r = chkS p) (k + 1) b (q : Int) := by
  intro k
  induction k with
  | zero =>
   intro q hq b he
   rw [List.drop_of_length_le (by omega), List.any_nil, Bool.or_false] at he
   refine ⟨fun h => (by have := of_decide_eq_true h; omega), fun _ => ⟨fun h => ?_, fun h => ?_⟩⟩
   ·unfold chkS; rw [he, h, if_pos rfl]
   ·rw [h, Bool.or_eq_false_iff] at he
    obtain ⟨h0, h1⟩ := he
    have h35 : prrj30 p (fun r => r = chkS p) := ⟨fun h => ((chk_cases h0 h1).1 h).symm, fun h => ⟨_, loop2 h0 h1 h p.1.length 0 (by omega) fun j hj => by omega⟩⟩
    refine ⟨fun _ => h35, fun h => ⟨by omega, ?_, h35⟩⟩
    have : ¬ (p.1.length : Int) = 0 := by simpa using h
    show 0 < p.1.length
    omega
  | succ k ih =>
   intro q hq b he
   have hql : q < p.1.length := by omega
   rw [drop_get (l := p.1) default hql, List.any_cons] at he
   refine ⟨fun _ => ⟨by omega, by omega, ?_⟩, fun h => by have := of_decide_eq_false h; omega⟩
   have h16 : prrj16 p b (q : Int) (prrl9 p (fun r => r = chkS p) (k + 1)) := by
    unfold prrj16
    rw [w64 (by omega)]
    refine ih (q + 1) (by omega) _ ?_
    rw [he]
    unfold prrV4
    rw [Int.toNat_natCast]
    exact (Bool.or_assoc _ _ _).symm
   rw [Int.toNat_natCast]
   exact ⟨fun _ => h16, fun _ => ⟨fun _ => h16, fun _ => h16⟩⟩
 have h3 : prrj3 p (fun r => r = chkS p) := ⟨_, loop1 p.1.length 0 (by omega) (prrV0 p) rfl⟩
 exact ⟨fun _ => h3, fun _ => ⟨fun _ => h3, fun _ => h3⟩⟩
set_option linter.unusedVariables false in
theorem prr_c {g : Ghost} {axp_0 : Option Addr} {cxp_0 : Nat} {axp_1 : Option Addr} {cxp_1 : Nat} {axp_2 : Option Addr} {cxp_2 : Nat} (xp : (List (Int × Int × List (Int) × List (Int × Int))) × (List (Int × Int × List UInt8)) × List (List (List UInt8))) (hRxp_0 : Rep g (.slice (.pair (.int .i64) (.pair (.int .i64) (.pair (.slice (.int .i64)) (.slice (.pair (.int .i64) (.int .i64))))))) [.slice axp_0 xp.1.length cxp_0] xp.1) (hRxp_1 : Rep g (.slice (.pair (.int .i64) (.pair (.int .i64) (.str)))) [.slice axp_1 xp.2.1.length cxp_1] xp.2.1) (hRxp_2 : Rep g (.slice (.slice (.str))) [.slice axp_2 xp.2.2.length cxp_2] xp.2.2)  (hp : chkP xp) : CallsG Tryd.prog 5 #[.agg #[.slice axp_0 xp.1.length cxp_0, .slice axp_1 xp.2.1.length cxp_1, .slice axp_2 xp.2.2.length cxp_2]] g (.int .i64 (chkS xp)) :=
 (prr_ok xp hRxp_0 hRxp_1 hRxp_2 _ (prr_F xp hp)).gives (by rintro g' H' v _ ⟨r0, rfl, rfl, hK⟩; subst hK; rfl)
def lccj3 (xp : (List (Int × Int × List (Int) × List (Int × Int))) × (List (Int × Int × List UInt8)) × List (List (List UInt8))) (K : Bool → Prop) : Prop :=
 K (((chkS ([], [], [])) == 3) && ((chkS xp) == (chkS xp)))
def lccF (xp : (List (Int × Int × List (Int) × List (Int × Int))) × (List (Int × Int × List UInt8)) × List (List (List UInt8))) (K : Bool → Prop) : Prop :=
 chkP ([], [], []) ∧ ((((chkS ([], [], [])) == 3)) = true → chkP xp ∧ chkP xp ∧ lccj3 xp K) ∧ ((((chkS ([], [], [])) == 3)) = false → lccj3 xp K)
set_option maxHeartbeats 4000000 in
set_option maxRecDepth 100000 in
set_option linter.unusedVariables false in
theorem lcc_ok {g : Ghost} {axp_0 : Option Addr} {cxp_0 : Nat} {axp_1 : Option Addr} {cxp_1 : Nat} {axp_2 : Option Addr} {cxp_2 : Nat} (xp : (List (Int × Int × List (Int) × List (Int × Int))) × (List (Int × Int × List UInt8)) × List (List (List UInt8))) (hRxp_0 : Rep g (.slice (.pair (.int .i64) (.pair (.int .i64) (.pair (.slice (.int .i64)) (.slice (.pair (.int .i64) (.int .i64))))))) [.slice axp_0 xp.1.length cxp_0] xp.1) (hRxp_1 : Rep g (.slice (.pair (.int .i64) (.pair (.int .i64) (.str)))) [.slice axp_1 xp.2.1.length cxp_1] xp.2.1) (hRxp_2 : Rep g (.slice (.slice (.str))) [.slice axp_2 xp.2.2.length cxp_2] xp.2.2) (hG0 : GlobL g 0 (.int .u8) DSpace) (K : Bool → Prop)
  (hF : lccF xp K) : CallsH Tryd.prog 3 #[.agg #[.slice axp_0 xp.1.length cxp_0, .slice axp_1 xp.2.1.length cxp_1, .slice axp_2 xp.2.2.length cxp_2]] g [] (fun g' H' v => ∃ (r0 : Bool), v = .bool r0 ∧ H' = [] ∧ K r0) := by
 refine CallsH.enter 13 [(0, .agg #[.slice axp_0 xp.1.length cxp_0, .slice axp_1 xp.2.1.length cxp_1, .slice axp_2 xp.2.2.length cxp_2])] Tryd.func3 rfl (by kernel_rfl) (by kernel_rfl) (by kernel_rfl) fun w0 => ?_
 refine Ok.seq ?_
 refine Ok.region ?_
 refine Ok.op rfl (OpOk.box (v := .agg #[.slice axp_0 xp.1.length cxp_0, .slice axp_1 xp.2.1.length cxp_1, .slice axp_2 xp.2.2.length cxp_2]) (cs := #[.slice axp_0 xp.1.length cxp_0, .slice axp_1 xp.2.1.length cxp_1, .slice axp_2 xp.2.2.length cxp_2]) rfl (by kernel_rfl) rfl fun bs1 => ?_)
 refine Ok.batch 1 [(1, .pointer (some ⟨bs1, 0, none⟩))] (by kernel_rfl) ?_
 refine Ok.nil ?_
 refine Ok.thenN ?_
 refine Ok.cut (fun a W => StA 13 [(2, .bool (((chkS ([], [], [])) == 3) && ((chkS xp) == (chkS xp))))] a ∧ StW w0 [] g W ∧ lccj3 xp K) ?_ ?_
 ·
  refine Ok.quiet' (by kernel_rfl) (by kernel_rfl) ?_
  refine OkQ.batch 1 [(1, .pointer (some ⟨bs1, 0, none⟩)), (3, .agg #[.slice none 0 0, .slice none 0 0, .slice none 0 0])] (by kernel_rfl) ?_
  obtain ⟨hp2, hF⟩ := hF
  refine OkQ.op rfl (OpQ.callG (v := .int .i64 (chkS ([], [], []))) (enters (by kernel_rfl) (fun _ => by kernel_rfl)) (fun W hW => chk_c ([], [], []) Rep.nil Rep.nil Rep.nil (hG0.mono hW.sees) hp2) rfl ?_)
  refine OkQ.batch 2 [(1, .pointer (some ⟨bs1, 0, none⟩)), (6, .bool ((chkS ([], [], [])) == 3))] (by kernel_rfl) ?_
  refine OkQ.boolAt 6 (((chkS ([], [], [])) == 3)) rfl (fun hc3 => ?_) (fun hc3 => ?_)
  ·replace hF := hF.1 hc3
   refine OkQ.opYes (j := 3) (d := 6) (want := true) (b := true) rfl (by kernel_rfl) (by kernel_rfl) rfl (OpQ.step (v := .agg #[.slice axp_0 xp.1.length cxp_0, .slice axp_1 xp.2.1.length cxp_1, .slice axp_2 xp.2.2.length cxp_2]) (Yields.loadAgg 0 3 #[.slice axp_0 xp.1.length cxp_0, .slice axp_1 xp.2.1.length cxp_1, .slice axp_2 xp.2.2.length cxp_2] rfl rfl Tryd.underlying26 rfl (by kernel_rfl) (by kernel_rfl) (by kernel_rfl)) rfl rfl ?_)
   obtain ⟨hp4, hF⟩ := hF
   refine OkQ.opYes (j := 3) (d := 6) (want := true) (b := true) rfl (by kernel_rfl) (by kernel_rfl) rfl (OpQ.callG (v := .int .i64 (chkS xp)) (enters (by kernel_rfl) (fun _ => by kernel_rfl)) (fun W hW => chk_c xp (hRxp_0.mono hW.sees) (hRxp_1.mono hW.sees) (hRxp_2.mono hW.sees) (hG0.mono hW.sees) hp4) rfl ?_)
   refine OkQ.opYes (j := 3) (d := 6) (want := true) (b := true) rfl (by kernel_rfl) (by kernel_rfl) rfl (OpQ.step (v := .agg #[.slice axp_0 xp.1.length cxp_0, .slice axp_1 xp.2.1.length cxp_1, .slice axp_2 xp.2.2.length cxp_2]) (Yields.loadAgg 0 3 #[.slice axp_0 xp.1.length cxp_0, .slice axp_1 xp.2.1.length cxp_1, .slice axp_2 xp.2.2.length cxp_2] rfl rfl Tryd.underlying26 rfl (by kernel_rfl) (by kernel_rfl) (by kernel_rfl)) rfl rfl ?_)
   obtain ⟨hp5, hF⟩ := hF
   refine OkQ.opYes (j := 3) (d := 6) (want := true) (b := true) rfl (by kernel_rfl) (by kernel_rfl) rfl (OpQ.callG (v := .int .i64 (chkS xp)) (enters (by kernel_rfl) (fun _ => by kernel_rfl)) (fun W hW => prr_c xp (hRxp_0.mono hW.sees) (hRxp_1.mono hW.sees) (hRxp_2.mono hW.sees) hp5) rfl ?_)
   refine OkQ.batch 3 [(2, .bool ((chkS xp) == (chkS xp)))] (by kernel_rfl) ?_
   refine OkQ.nil ?_
   refine Ok.thenN ?_
   refine Ok.reval 2 rfl (show (.bool ((chkS xp) == (chkS xp)) : Value) = .bool (((chkS ([], [], [])) == 3) && ((chkS xp) == (chkS xp))) from congrArg (Value.bool) (mand_t hc3)) ?_
   exact fun a W hA hW => ⟨hA.sub (by kernel_rfl), hW.sub (.cons _ .slnil), hF⟩
  ·replace hF := hF.2 hc3
   refine OkQ.batch 7 [(2, .bool false)] (by kernel_rfl) ?_
   refine OkQ.nil ?_
   refine Ok.thenN ?_
   refine Ok.reval 2 rfl (show (.bool false : Value) = .bool (((chkS ([], [], [])) == 3) && ((chkS xp) == (chkS xp))) from congrArg (Value.bool) (mand_f hc3)) ?_
   exact fun a W hA hW => ⟨hA.sub (by kernel_rfl), hW.sub (.cons _ .slnil), hF⟩
 ·
  clear hF
  rintro a W ⟨hA, hW, hF⟩
  refine (?_ : Ok _ _ _ _ _ _) a W hA hW
  clear hA hW
  refine Ok.ret ?_
  exact Ok.resH (vs := [.bool (((chkS ([], [], [])) == 3) && ((chkS xp) == (chkS xp)))]) (.inl rfl) rfl (.cons (.tmp rfl) .nil) (Gext.refl w0 g) ⟨(((chkS ([], [], [])) == 3) && ((chkS xp) == (chkS xp))), rfl, rfl, hF⟩
def lccP (p : JP) : Prop := DomS (.pair (.slice (.pair (.int .i64) (.pair (.int .i64) (.pair (.slice (.int .i64)) (.slice (.pair (.int .i64) (.int .i64))))))) (.pair (.slice (.pair (.int .i64) (.pair (.int .i64) (.str)))) (.slice (.slice (.str))))) p
theorem lcc_F (p : JP) (hp0 : lccP p) : lccF p (fun r => r = true) := by
 have hp : chkP p := ⟨Nat.le_trans hp0.2.1.1 (by decide), fun f hf => Nat.le_trans (hp0.2.1.2 f hf).2.2.1.1 (by decide), fun x hx => Nat.le_trans (hp0.2.2.2.2 x hx).1 (by decide)⟩
 have h0 : chkP ([], [], []) := ⟨by show 0 ≤ _; omega, fun f hf => (by cases hf), fun f hf => (by cases hf)⟩
 have e : chkS ([], [], []) = 3 := by
  unfold chkS
  rw [if_neg (by decide), if_pos (by decide)]
 have h3 : lccj3 p (fun r => r = true) := by
  unfold lccj3
  rw [e]; simp
 exact ⟨h0, fun _ => ⟨hp, hp, h3⟩, fun _ => h3⟩
set_option linter.unusedVariables false in
theorem lcc_c {g : Ghost} {axp_0 : Option Addr} {cxp_0 : Nat} {axp_1 : Option Addr} {cxp_1 : Nat} {axp_2 : Option Addr} {cxp_2 : Nat} (xp : (List (Int × Int × List (Int) × List (Int × Int))) × (List (Int × Int × List UInt8)) × List (List (List UInt8))) (hRxp_0 : Rep g (.slice (.pair (.int .i64) (.pair (.int .i64) (.pair (.slice (.int .i64)) (.slice (.pair (.int .i64) (.int .i64))))))) [.slice axp_0 xp.1.length cxp_0] xp.1) (hRxp_1 : Rep g (.slice (.pair (.int .i64) (.pair (.int .i64) (.str)))) [.slice axp_1 xp.2.1.length cxp_1] xp.2.1) (hRxp_2 : Rep g (.slice (.slice (.str))) [.slice axp_2 xp.2.2.length cxp_2] xp.2.2) (hG0 : GlobL g 0 (.int .u8) DSpace)  (hp : lccP xp) : CallsG Tryd.prog 3 #[.agg #[.slice axp_0 xp.1.length cxp_0, .slice axp_1 xp.2.1.length cxp_1, .slice axp_2 xp.2.2.length cxp_2]] g (.bool ((fun _ => true) xp)) :=
 (lcc_ok xp hRxp_0 hRxp_1 hRxp_2 hG0 _ (lcc_F xp hp)).gives (by rintro g' H' v _ ⟨r0, rfl, rfl, hK⟩; subst hK; rfl)
end
end Go.Proofs.YtanhbfhpnjjgcaaDoor.Cc
