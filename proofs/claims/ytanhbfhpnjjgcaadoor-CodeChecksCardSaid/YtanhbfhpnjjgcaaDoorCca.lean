/- Code: small functions of both sides. -/
import Derived.Test.YtanhbfhpnjjgcaaDoorMrg
import Derived.Test.YtanhbfhpnjjgcaaDoorUp
import Derived.Test.YtanhbfhpnjjgcaaDoorPl
import Derived.Test.YtanhbfhpnjjgcaaDoorMor
import Derived.Test.YtanhbfhpnjjgcaaDoorCuo
import Derived.Test.YtanhbfhpnjjgcaaDoorTnl
import Derived.Test.YtanhbfhpnjjgcaaDoorFrk
namespace Go.Proofs.YtanhbfhpnjjgcaaDoor.Cc
open Go Go.Eng Go.RowKit
set_option linter.unusedVariables false
noncomputable section
def rbtF (xn : Int) (xlow : Int) (xhigh : Int) (K : Bool → Prop) : Prop :=
 K ((decide (xlow ≤ xn)) && (decide (xn ≤ xhigh)))
set_option maxHeartbeats 4000000 in
set_option maxRecDepth 100000 in
set_option linter.unusedVariables false in
theorem rbt_ok {g : Ghost} (xn : Int) (xlow : Int) (xhigh : Int) (K : Bool → Prop)
  (hF : rbtF xn xlow xhigh K) : CallsH Tryd.prog 11 #[.int .i64 xn, .int .i64 xlow, .int .i64 xhigh] g [] (fun g' H' v => ∃ (r0 : Bool), v = .bool r0 ∧ H' = [] ∧ K r0) := by
 refine CallsH.enter 15 [(0, .int .i64 xn), (1, .int .i64 xlow), (2, .int .i64 xhigh)] Tryd.func11 rfl (by kernel_rfl) (by kernel_rfl) (by kernel_rfl) fun w0 => ?_
 refine Ok.seq ?_
 refine Ok.region ?_
 refine Ok.batch 1 [(0, .int .i64 xn), (1, .int .i64 xlow), (2, .int .i64 xhigh)] (by kernel_rfl) ?_
 refine Ok.nil ?_
 refine Ok.thenN ?_
 refine Ok.seq ?_
 refine Ok.region ?_
 refine Ok.batch 4 [(0, .int .i64 xn), (2, .int .i64 xhigh), (10, .bool (decide (xlow ≤ xn)))] (by kernel_rfl) ?_
 refine Ok.midway 4 [(14, .bool ((decide (xlow ≤ xn)) && (decide (xn ≤ xhigh))))] (fun hR1 => ?_) ?_
 ·refine Ok.boolAt 10 (decide (xlow ≤ xn)) rfl (fun hc2 => ?_) (fun hc2 => ?_)
  ·skip
   refine Ok.batch 4 [(14, .bool (decide (xn ≤ xhigh)))] (by kernel_rfl) ?_
   refine Ok.reval 14 rfl (show (.bool (decide (xn ≤ xhigh)) : Value) = .bool ((decide (xlow ≤ xn)) && (decide (xn ≤ xhigh))) from congrArg Value.bool (mand_t hc2)) ?_
   refine Ok.batch 0 [(14, .bool ((decide (xlow ≤ xn)) && (decide (xn ≤ xhigh))))] (by kernel_rfl) ?_
   exact hR1
  ·skip
   refine Ok.batch 4 [(14, .bool false)] (by kernel_rfl) ?_
   refine Ok.reval 14 rfl (show (.bool false : Value) = .bool ((decide (xlow ≤ xn)) && (decide (xn ≤ xhigh))) from congrArg Value.bool (mand_f hc2)) ?_
   refine Ok.batch 0 [(14, .bool ((decide (xlow ≤ xn)) && (decide (xn ≤ xhigh))))] (by kernel_rfl) ?_
   exact hR1
 refine Ok.batch 1 [(6, .bool ((decide (xlow ≤ xn)) && (decide (xn ≤ xhigh))))] (by kernel_rfl) ?_
 refine Ok.nil ?_
 refine Ok.thenN ?_
 refine Ok.ret ?_
 exact Ok.resH (vs := [.bool ((decide (xlow ≤ xn)) && (decide (xn ≤ xhigh)))]) (.inl rfl) rfl (.cons (.tmp rfl) .nil) (Gext.refl w0 g) ⟨((decide (xlow ≤ xn)) && (decide (xn ≤ xhigh))), rfl, rfl, hF⟩
def rbtM (xn : Int) (xlow : Int) (xhigh : Int) : Bool := ((decide (xlow ≤ xn)) && (decide (xn ≤ xhigh)))
set_option linter.unusedSimpArgs false in
set_option linter.unusedVariables false in
theorem rbtF_A (xn : Int) (xlow : Int) (xhigh : Int) (P : Bool → Prop) (h : P (rbtM xn xlow xhigh)) : rbtF xn xlow xhigh (fun k0 => P k0) := by
 unfold rbtM at h
 unfold rbtF
 exact h
theorem rbt_F (xn : Int) (xlow : Int) (xhigh : Int) : rbtF xn xlow xhigh (fun k0 => k0 = rbtM xn xlow xhigh) :=
 rbtF_A xn xlow xhigh (fun z => z = rbtM xn xlow xhigh) rfl
set_option linter.unusedVariables false in
theorem rbt_c {g : Ghost} (xn : Int) (xlow : Int) (xhigh : Int)  : CallsG Tryd.prog 11 #[.int .i64 xn, .int .i64 xlow, .int .i64 xhigh] g (.bool (rbtM xn xlow xhigh)) :=
 (rbt_ok xn xlow xhigh _ (rbt_F xn xlow xhigh)).gives (by rintro g' H' v _ ⟨r0, rfl, rfl, hK⟩; subst hK; rfl)
abbrev JF := Int × Int × List Int × List (Int × Int)
abbrev JP := List JF × List (Int × Int × List UInt8) × List (List (List UInt8))
/-- a shape that is named is there -/
def shP (i : Int × Int) (p : JP) : Prop := (i.1 == 13) = true → (0 : Int) ≤ i.2 ∧ Int.toNat i.2 < p.2.2.length
def ndsP (i : Int × Int) (p : JP) : Prop := shP i p
def effP (d a : Int) (p : JP) : Prop := shP (d, a) p
def movP (i : Int × Int) (p : JP) : Prop := shP i p
def effV0 (xdo : Int) : Bool :=
 ((xdo == 1) || ((xdo == 2) || ((xdo == 11) || ((xdo == 16) || ((xdo == 23) || (xdo == 24))))))
def effV1 (xdo : Int) : Bool :=
 ((xdo == 5) || ((xdo == 6) || ((xdo == 8) || ((xdo == 10) || ((xdo == 14) || ((xdo == 18) || (xdo == 19)))))))
def effj33 (xdo : Int) (xa : Int) (xp : (List (Int × Int × List (Int) × List (Int × Int))) × (List (Int × Int × List UInt8)) × List (List (List UInt8))) (K : Int → Prop) : Prop :=
 (((effV1 xdo)) = true → K (-1)) ∧ (((effV1 xdo)) = false → (((xdo == 15)) = true → K (-2)) ∧ (((xdo == 15)) = false → (((xdo == 12)) = true → K (w6 (1 - xa))) ∧ (((xdo == 12)) = false → (((xdo == 13)) = true → (0 : Int) ≤ xa ∧ Int.toNat xa < xp.2.2.length ∧ K (w6 (1 - ((xp.2.2.getD (Int.toNat xa) default).length : Int)))) ∧ (((xdo == 13)) = false → (((xdo == 17)) = true → K (w6 (0 - xa))) ∧ (((xdo == 17)) = false → K 0)))))
def effj7 (xdo : Int) (xa : Int) (xp : (List (Int × Int × List (Int) × List (Int × Int))) × (List (Int × Int × List UInt8)) × List (List (List UInt8))) (K : Int → Prop) : Prop :=
 (((effV0 xdo)) = true → K 1) ∧ (((effV0 xdo)) = false → (((xdo == 5)) = true → effj33 xdo xa xp K) ∧ (((xdo == 5)) = false → (((xdo == 6)) = true → effj33 xdo xa xp K) ∧ (((xdo == 6)) = false → (((xdo == 8)) = true → effj33 xdo xa xp K) ∧ (((xdo == 8)) = false → (((xdo == 10)) = true → effj33 xdo xa xp K) ∧ (((xdo == 10)) = false → (((xdo == 14)) = true → effj33 xdo xa xp K) ∧ (((xdo == 14)) = false → (((xdo == 18)) = true → effj33 xdo xa xp K) ∧ (((xdo == 18)) = false → effj33 xdo xa xp K)))))))
def effF (xdo : Int) (xa : Int) (xp : (List (Int × Int × List (Int) × List (Int × Int))) × (List (Int × Int × List UInt8)) × List (List (List UInt8))) (K : Int → Prop) : Prop :=
 (((xdo == 1)) = true → effj7 xdo xa xp K) ∧ (((xdo == 1)) = false → (((xdo == 2)) = true → effj7 xdo xa xp K) ∧ (((xdo == 2)) = false → (((xdo == 11)) = true → effj7 xdo xa xp K) ∧ (((xdo == 11)) = false → (((xdo == 16)) = true → effj7 xdo xa xp K) ∧ (((xdo == 16)) = false → (((xdo == 23)) = true → effj7 xdo xa xp K) ∧ (((xdo == 23)) = false → effj7 xdo xa xp K)))))
set_option maxHeartbeats 4000000 in
set_option maxRecDepth 100000 in
set_option linter.unusedVariables false in
theorem eff_ok {g : Ghost} (xdo : Int) (xa : Int) {axp_0 : Option Addr} {cxp_0 : Nat} {axp_1 : Option Addr} {cxp_1 : Nat} {axp_2 : Option Addr} {cxp_2 : Nat} (xp : (List (Int × Int × List (Int) × List (Int × Int))) × (List (Int × Int × List UInt8)) × List (List (List UInt8))) (hRxp_0 : Rep g (.slice (.pair (.int .i64) (.pair (.int .i64) (.pair (.slice (.int .i64)) (.slice (.pair (.int .i64) (.int .i64))))))) [.slice axp_0 xp.1.length cxp_0] xp.1) (hRxp_1 : Rep g (.slice (.pair (.int .i64) (.pair (.int .i64) (.str)))) [.slice axp_1 xp.2.1.length cxp_1] xp.2.1) (hRxp_2 : Rep g (.slice (.slice (.str))) [.slice axp_2 xp.2.2.length cxp_2] xp.2.2) (K : Int → Prop)
  (hF : effF xdo xa xp K) : CallsH Tryd.prog 17 #[.int .i64 xdo, .int .i64 xa, .agg #[.slice axp_0 xp.1.length cxp_0, .slice axp_1 xp.2.1.length cxp_1, .slice axp_2 xp.2.2.length cxp_2]] g [] (fun g' H' v => ∃ (r0 : Int), v = .int .i64 r0 ∧ H' = [] ∧ K r0) := by
 refine CallsH.enter 42 [(0, .int .i64 xdo), (1, .int .i64 xa), (2, .agg #[.slice axp_0 xp.1.length cxp_0, .slice axp_1 xp.2.1.length cxp_1, .slice axp_2 xp.2.2.length cxp_2])] Tryd.func17 rfl (by kernel_rfl) (by kernel_rfl) (by kernel_rfl) fun w0 => ?_
 refine Ok.seq ?_
 refine Ok.region ?_
 refine Ok.op rfl (OpOk.box (v := .agg #[.slice axp_0 xp.1.length cxp_0, .slice axp_1 xp.2.1.length cxp_1, .slice axp_2 xp.2.2.length cxp_2]) (cs := #[.slice axp_0 xp.1.length cxp_0, .slice axp_1 xp.2.1.length cxp_1, .slice axp_2 xp.2.2.length cxp_2]) rfl (by kernel_rfl) rfl fun bs5 => ?_)
 refine Ok.batch 1 [(0, .int .i64 xdo), (1, .int .i64 xa), (5, .pointer (some ⟨bs5, 0, none⟩))] (by kernel_rfl) ?_
 refine Ok.nil ?_
 refine Ok.thenN ?_
 refine Ok.seq ?_
 refine Ok.seq ?_
 refine Ok.region ?_
 refine Ok.batch 1 [(1, .int .i64 xa), (5, .pointer (some ⟨bs5, 0, none⟩)), (7, .int .i64 xdo)] (by kernel_rfl) ?_
 refine Ok.nil ?_
 refine Ok.thenN ?_
 refine Ok.block ?_
 refine Ok.cut (fun a W => StA 42 [(1, .int .i64 xa), (5, .pointer (some ⟨bs5, 0, none⟩)), (7, .int .i64 xdo), (8, .bool (effV0 xdo))] a ∧ StW w0 [.blk bs5 (.cells #[.slice axp_0 xp.1.length cxp_0, .slice axp_1 xp.2.1.length cxp_1, .slice axp_2 xp.2.2.length cxp_2] 26)] g W ∧ effj7 xdo xa xp K) ?_ ?_
 ·
  refine Ok.seq ?_
  refine Ok.region ?_
  refine Ok.batch 2 [(1, .int .i64 xa), (5, .pointer (some ⟨bs5, 0, none⟩)), (7, .int .i64 xdo), (8, .bool (xdo == 1))] (by kernel_rfl) ?_
  refine Ok.nil ?_
  refine Ok.thenN ?_
  refine Ok.cond (b := (xdo == 1)) rfl (fun hc16 => ?_) (fun hc16 => ?_)
  ·replace hF := hF.1 hc16
   refine Ok.skip ?_
   refine Ok.thenN ?_
   refine Ok.reval 8 rfl (show (.bool (xdo == 1) : Value) = .bool (effV0 xdo) from congrArg (Value.bool) ((Eq.trans (hc16) (mor_t hc16)))) ?_
   exact fun a W hA hW => ⟨hA.sub (by kernel_rfl), hW, hF⟩
  ·replace hF := hF.2 hc16
   refine Ok.seq ?_
   refine Ok.region ?_
   refine Ok.batch 2 [(1, .int .i64 xa), (5, .pointer (some ⟨bs5, 0, none⟩)), (7, .int .i64 xdo), (8, .bool (xdo == 2))] (by kernel_rfl) ?_
   refine Ok.nil ?_
   refine Ok.thenN ?_
   refine Ok.cond (b := (xdo == 2)) rfl (fun hc17 => ?_) (fun hc17 => ?_)
   ·replace hF := hF.1 hc17
    refine Ok.skip ?_
    refine Ok.thenN ?_
    refine Ok.reval 8 rfl (show (.bool (xdo == 2) : Value) = .bool (effV0 xdo) from congrArg (Value.bool) ((Eq.trans ((Eq.trans (hc17) (mor_t hc17))) (mor_f hc16)))) ?_
    exact fun a W hA hW => ⟨hA.sub (by kernel_rfl), hW, hF⟩
   ·replace hF := hF.2 hc17
    refine Ok.seq ?_
    refine Ok.region ?_
    refine Ok.batch 2 [(1, .int .i64 xa), (5, .pointer (some ⟨bs5, 0, none⟩)), (7, .int .i64 xdo), (8, .bool (xdo == 11))] (by kernel_rfl) ?_
    refine Ok.nil ?_
    refine Ok.thenN ?_
    refine Ok.cond (b := (xdo == 11)) rfl (fun hc18 => ?_) (fun hc18 => ?_)
    ·replace hF := hF.1 hc18
     refine Ok.skip ?_
     refine Ok.thenN ?_
     refine Ok.reval 8 rfl (show (.bool (xdo == 11) : Value) = .bool (effV0 xdo) from congrArg (Value.bool) ((Eq.trans ((Eq.trans ((Eq.trans (hc18) (mor_t hc18))) (mor_f hc17))) (mor_f hc16)))) ?_
     exact fun a W hA hW => ⟨hA.sub (by kernel_rfl), hW, hF⟩
    ·replace hF := hF.2 hc18
     refine Ok.seq ?_
     refine Ok.region ?_
     refine Ok.batch 2 [(1, .int .i64 xa), (5, .pointer (some ⟨bs5, 0, none⟩)), (7, .int .i64 xdo), (8, .bool (xdo == 16))] (by kernel_rfl) ?_
     refine Ok.nil ?_
     refine Ok.thenN ?_
     refine Ok.cond (b := (xdo == 16)) rfl (fun hc19 => ?_) (fun hc19 => ?_)
     ·replace hF := hF.1 hc19
      refine Ok.skip ?_
      refine Ok.thenN ?_
      refine Ok.reval 8 rfl (show (.bool (xdo == 16) : Value) = .bool (effV0 xdo) from congrArg (Value.bool) ((Eq.trans ((Eq.trans ((Eq.trans ((Eq.trans (hc19) (mor_t hc19))) (mor_f hc18))) (mor_f hc17))) (mor_f hc16)))) ?_
      exact fun a W hA hW => ⟨hA.sub (by kernel_rfl), hW, hF⟩
     ·replace hF := hF.2 hc19
      refine Ok.seq ?_
      refine Ok.region ?_
      refine Ok.batch 2 [(1, .int .i64 xa), (5, .pointer (some ⟨bs5, 0, none⟩)), (7, .int .i64 xdo), (8, .bool (xdo == 23))] (by kernel_rfl) ?_
      refine Ok.nil ?_
      refine Ok.thenN ?_
      refine Ok.cond (b := (xdo == 23)) rfl (fun hc20 => ?_) (fun hc20 => ?_)
      ·replace hF := hF.1 hc20
       refine Ok.skip ?_
       refine Ok.thenN ?_
       refine Ok.reval 8 rfl (show (.bool (xdo == 23) : Value) = .bool (effV0 xdo) from congrArg (Value.bool) ((Eq.trans ((Eq.trans ((Eq.trans ((Eq.trans ((Eq.trans (hc20) (mor_t hc20))) (mor_f hc19))) (mor_f hc18))) (mor_f hc17))) (mor_f hc16)))) ?_
       exact fun a W hA hW => ⟨hA.sub (by kernel_rfl), hW, hF⟩
      ·replace hF := hF.2 hc20
       refine Ok.region ?_
       refine Ok.batch 2 [(1, .int .i64 xa), (5, .pointer (some ⟨bs5, 0, none⟩)), (7, .int .i64 xdo), (8, .bool (xdo == 24))] (by kernel_rfl) ?_
       refine Ok.nil ?_
       refine Ok.thenN ?_
       refine Ok.reval 8 rfl (show (.bool (xdo == 24) : Value) = .bool (effV0 xdo) from congrArg (Value.bool) ((Eq.trans ((Eq.trans ((Eq.trans ((Eq.trans (mor_f hc20) (mor_f hc19))) (mor_f hc18))) (mor_f hc17))) (mor_f hc16)))) ?_
       exact fun a W hA hW => ⟨hA.sub (by kernel_rfl), hW, hF⟩
 ·
  clear hF
  rintro a W ⟨hA, hW, hF⟩
  refine (?_ : Ok _ _ _ _ _ _) a W hA hW
  clear hA hW
  refine Ok.cond (b := (effV0 xdo)) rfl (fun hc2 => ?_) (fun hc2 => ?_)
  ·replace hF := hF.1 hc2
   refine Ok.seq ?_
   refine Ok.region ?_
   refine Ok.batch 1 [(6, .int .i64 1)] (by kernel_rfl) ?_
   refine Ok.nil ?_
   refine Ok.thenN ?_
   refine Ok.ret ?_
   refine Ok.blockR ?_
   refine Ok.thenR ?_
   exact Ok.resP (vs := [.int .i64 1]) [] [] (by decide) rfl (.inl rfl) rfl (.cons (.tmp rfl) .nil) (Gext.refl w0 g) ⟨1, rfl, rfl, hF⟩
  ·replace hF := hF.2 hc2
   refine Ok.cut (fun a W => StA 42 [(1, .int .i64 xa), (5, .pointer (some ⟨bs5, 0, none⟩)), (7, .int .i64 xdo), (15, .bool (effV1 xdo))] a ∧ StW w0 [.blk bs5 (.cells #[.slice axp_0 xp.1.length cxp_0, .slice axp_1 xp.2.1.length cxp_1, .slice axp_2 xp.2.2.length cxp_2] 26)] g W ∧ effj33 xdo xa xp K) ?_ ?_
   ·
    refine Ok.seq ?_
    refine Ok.region ?_
    refine Ok.batch 2 [(1, .int .i64 xa), (5, .pointer (some ⟨bs5, 0, none⟩)), (7, .int .i64 xdo), (15, .bool (xdo == 5))] (by kernel_rfl) ?_
    refine Ok.nil ?_
    refine Ok.thenN ?_
    refine Ok.cond (b := (xdo == 5)) rfl (fun hc10 => ?_) (fun hc10 => ?_)
    ·replace hF := hF.1 hc10
     refine Ok.skip ?_
     refine Ok.thenN ?_
     refine Ok.reval 15 rfl (show (.bool (xdo == 5) : Value) = .bool (effV1 xdo) from congrArg (Value.bool) ((Eq.trans (hc10) (mor_t hc10)))) ?_
     exact fun a W hA hW => ⟨hA.sub (by kernel_rfl), hW, hF⟩
    ·replace hF := hF.2 hc10
     refine Ok.seq ?_
     refine Ok.region ?_
     refine Ok.batch 2 [(1, .int .i64 xa), (5, .pointer (some ⟨bs5, 0, none⟩)), (7, .int .i64 xdo), (15, .bool (xdo == 6))] (by kernel_rfl) ?_
     refine Ok.nil ?_
     refine Ok.thenN ?_
     refine Ok.cond (b := (xdo == 6)) rfl (fun hc11 => ?_) (fun hc11 => ?_)
     ·replace hF := hF.1 hc11
      refine Ok.skip ?_
      refine Ok.thenN ?_
      refine Ok.reval 15 rfl (show (.bool (xdo == 6) : Value) = .bool (effV1 xdo) from congrArg (Value.bool) ((Eq.trans ((Eq.trans (hc11) (mor_t hc11))) (mor_f hc10)))) ?_
      exact fun a W hA hW => ⟨hA.sub (by kernel_rfl), hW, hF⟩
     ·replace hF := hF.2 hc11
      refine Ok.seq ?_
      refine Ok.region ?_
      refine Ok.batch 2 [(1, .int .i64 xa), (5, .pointer (some ⟨bs5, 0, none⟩)), (7, .int .i64 xdo), (15, .bool (xdo == 8))] (by kernel_rfl) ?_
      refine Ok.nil ?_
      refine Ok.thenN ?_
      refine Ok.cond (b := (xdo == 8)) rfl (fun hc12 => ?_) (fun hc12 => ?_)
      ·replace hF := hF.1 hc12
       refine Ok.skip ?_
       refine Ok.thenN ?_
       refine Ok.reval 15 rfl (show (.bool (xdo == 8) : Value) = .bool (effV1 xdo) from congrArg (Value.bool) ((Eq.trans ((Eq.trans ((Eq.trans (hc12) (mor_t hc12))) (mor_f hc11))) (mor_f hc10)))) ?_
       exact fun a W hA hW => ⟨hA.sub (by kernel_rfl), hW, hF⟩
      ·replace hF := hF.2 hc12
       refine Ok.seq ?_
       refine Ok.region ?_
       refine Ok.batch 2 [(1, .int .i64 xa), (5, .pointer (some ⟨bs5, 0, none⟩)), (7, .int .i64 xdo), (15, .bool (xdo == 10))] (by kernel_rfl) ?_
       refine Ok.nil ?_
       refine Ok.thenN ?_
       refine Ok.cond (b := (xdo == 10)) rfl (fun hc13 => ?_) (fun hc13 => ?_)
       ·replace hF := hF.1 hc13
        refine Ok.skip ?_
        refine Ok.thenN ?_
        refine Ok.reval 15 rfl (show (.bool (xdo == 10) : Value) = .bool (effV1 xdo) from congrArg (Value.bool) ((Eq.trans ((Eq.trans ((Eq.trans ((Eq.trans (hc13) (mor_t hc13))) (mor_f hc12))) (mor_f hc11))) (mor_f hc10)))) ?_
        exact fun a W hA hW => ⟨hA.sub (by kernel_rfl), hW, hF⟩
       ·replace hF := hF.2 hc13
        refine Ok.seq ?_
        refine Ok.region ?_
        refine Ok.batch 2 [(1, .int .i64 xa), (5, .pointer (some ⟨bs5, 0, none⟩)), (7, .int .i64 xdo), (15, .bool (xdo == 14))] (by kernel_rfl) ?_
        refine Ok.nil ?_
        refine Ok.thenN ?_
        refine Ok.cond (b := (xdo == 14)) rfl (fun hc14 => ?_) (fun hc14 => ?_)
        ·replace hF := hF.1 hc14
         refine Ok.skip ?_
         refine Ok.thenN ?_
         refine Ok.reval 15 rfl (show (.bool (xdo == 14) : Value) = .bool (effV1 xdo) from congrArg (Value.bool) ((Eq.trans ((Eq.trans ((Eq.trans ((Eq.trans ((Eq.trans (hc14) (mor_t hc14))) (mor_f hc13))) (mor_f hc12))) (mor_f hc11))) (mor_f hc10)))) ?_
         exact fun a W hA hW => ⟨hA.sub (by kernel_rfl), hW, hF⟩
        ·replace hF := hF.2 hc14
         refine Ok.seq ?_
         refine Ok.region ?_
         refine Ok.batch 2 [(1, .int .i64 xa), (5, .pointer (some ⟨bs5, 0, none⟩)), (7, .int .i64 xdo), (15, .bool (xdo == 18))] (by kernel_rfl) ?_
         refine Ok.nil ?_
         refine Ok.thenN ?_
         refine Ok.cond (b := (xdo == 18)) rfl (fun hc15 => ?_) (fun hc15 => ?_)
         ·replace hF := hF.1 hc15
          refine Ok.skip ?_
          refine Ok.thenN ?_
          refine Ok.reval 15 rfl (show (.bool (xdo == 18) : Value) = .bool (effV1 xdo) from congrArg (Value.bool) ((Eq.trans ((Eq.trans ((Eq.trans ((Eq.trans ((Eq.trans ((Eq.trans (hc15) (mor_t hc15))) (mor_f hc14))) (mor_f hc13))) (mor_f hc12))) (mor_f hc11))) (mor_f hc10)))) ?_
          exact fun a W hA hW => ⟨hA.sub (by kernel_rfl), hW, hF⟩
         ·replace hF := hF.2 hc15
          refine Ok.region ?_
          refine Ok.batch 2 [(1, .int .i64 xa), (5, .pointer (some ⟨bs5, 0, none⟩)), (7, .int .i64 xdo), (15, .bool (xdo == 19))] (by kernel_rfl) ?_
          refine Ok.nil ?_
          refine Ok.thenN ?_
          refine Ok.reval 15 rfl (show (.bool (xdo == 19) : Value) = .bool (effV1 xdo) from congrArg (Value.bool) ((Eq.trans ((Eq.trans ((Eq.trans ((Eq.trans ((Eq.trans (mor_f hc15) (mor_f hc14))) (mor_f hc13))) (mor_f hc12))) (mor_f hc11))) (mor_f hc10)))) ?_
          exact fun a W hA hW => ⟨hA.sub (by kernel_rfl), hW, hF⟩
   ·
    clear hF
    rintro a W ⟨hA, hW, hF⟩
    refine (?_ : Ok _ _ _ _ _ _) a W hA hW
    clear hA hW
    refine Ok.cond (b := (effV1 xdo)) rfl (fun hc3 => ?_) (fun hc3 => ?_)
    ·replace hF := hF.1 hc3
     refine Ok.seq ?_
     refine Ok.region ?_
     refine Ok.batch 1 [(6, .int .i64 (-1))] (by kernel_rfl) ?_
     refine Ok.nil ?_
     refine Ok.thenN ?_
     refine Ok.ret ?_
     refine Ok.blockR ?_
     refine Ok.thenR ?_
     exact Ok.resP (vs := [.int .i64 (-1)]) [] [] (by decide) rfl (.inl rfl) rfl (.cons (.tmp rfl) .nil) (Gext.refl w0 g) ⟨(-1), rfl, rfl, hF⟩
    ·replace hF := hF.2 hc3
     refine Ok.seq ?_
     refine Ok.region ?_
     refine Ok.batch 2 [(1, .int .i64 xa), (5, .pointer (some ⟨bs5, 0, none⟩)), (7, .int .i64 xdo), (23, .bool (xdo == 15))] (by kernel_rfl) ?_
     refine Ok.nil ?_
     refine Ok.thenN ?_
     refine Ok.cond (b := (xdo == 15)) rfl (fun hc4 => ?_) (fun hc4 => ?_)
     ·replace hF := hF.1 hc4
      refine Ok.seq ?_
      refine Ok.region ?_
      refine Ok.batch 1 [(6, .int .i64 (-2))] (by kernel_rfl) ?_
      refine Ok.nil ?_
      refine Ok.thenN ?_
      refine Ok.ret ?_
      refine Ok.blockR ?_
      refine Ok.thenR ?_
      exact Ok.resP (vs := [.int .i64 (-2)]) [] [] (by decide) rfl (.inl rfl) rfl (.cons (.tmp rfl) .nil) (Gext.refl w0 g) ⟨(-2), rfl, rfl, hF⟩
     ·replace hF := hF.2 hc4
      refine Ok.seq ?_
      refine Ok.region ?_
      refine Ok.batch 2 [(1, .int .i64 xa), (5, .pointer (some ⟨bs5, 0, none⟩)), (7, .int .i64 xdo), (25, .bool (xdo == 12))] (by kernel_rfl) ?_
      refine Ok.nil ?_
      refine Ok.thenN ?_
      refine Ok.cond (b := (xdo == 12)) rfl (fun hc5 => ?_) (fun hc5 => ?_)
      ·replace hF := hF.1 hc5
       refine Ok.seq ?_
       refine Ok.region ?_
       refine Ok.batch 3 [(6, .int .i64 (w6 (1 - xa)))] (by kernel_rfl) ?_
       refine Ok.nil ?_
       refine Ok.thenN ?_
       refine Ok.ret ?_
       refine Ok.blockR ?_
       refine Ok.thenR ?_
       exact Ok.resP (vs := [.int .i64 (w6 (1 - xa))]) [] [] (by decide) rfl (.inl rfl) rfl (.cons (.tmp rfl) .nil) (Gext.refl w0 g) ⟨(w6 (1 - xa)), rfl, rfl, hF⟩
      ·replace hF := hF.2 hc5
       refine Ok.seq ?_
       refine Ok.region ?_
       refine Ok.batch 2 [(1, .int .i64 xa), (5, .pointer (some ⟨bs5, 0, none⟩)), (7, .int .i64 xdo), (29, .bool (xdo == 13))] (by kernel_rfl) ?_
       refine Ok.nil ?_
       refine Ok.thenN ?_
       refine Ok.cond (b := (xdo == 13)) rfl (fun hc6 => ?_) (fun hc6 => ?_)
       ·replace hF := hF.1 hc6
        refine Ok.seq ?_
        refine Ok.region ?_
        refine Ok.batch 1 [(1, .int .i64 xa), (31, .pointer (some ⟨bs5, 2, none⟩))] (by kernel_rfl) ?_
        refine Ok.op rfl (OpOk.step (v := .slice axp_2 xp.2.2.length cxp_2) (Yields.load 0 rfl rfl Tryd.underlying24 rfl (by kernel_rfl)) rfl rfl ?_)
        refine Ok.batch 1 [(32, .slice axp_2 xp.2.2.length cxp_2), (33, .int .i64 xa)] (by kernel_rfl) ?_
        obtain ⟨h08, h18, hF⟩ := hF
        have he8 := get_of (l := xp.2.2) (default : List (List UInt8)) h18
        generalize hg8 : (xp.2.2.getD (Int.toNat xa) default) = e8 at he8 hF ⊢
        refine Ok.op rfl (OpOk.indexRo (e := .slice (.str)) (i := xa) (el := e8) rfl rfl Tryd.underlying24 (by kernel_rfl) hRxp_2 h08 he8 rfl fun q7 o7 cs7 _ hat7 hr7 => ?_)
        obtain ⟨a7_0, c7_0, rfl, hm7_0, hr7_0⟩ := hr7
        have hR7_0 : Rep g (.slice (.str)) [.slice a7_0 e8.length c7_0] e8 := ⟨a7_0, c7_0, rfl, hm7_0, hr7_0⟩
        replace hat7 : At g q7 o7 [.slice a7_0 e8.length c7_0] := hat7
        refine Ok.op rfl (OpOk.step (v := .slice a7_0 e8.length c7_0) (Yields.loadRo 0 hat7 (by kernel_rfl) Tryd.underlying64 rfl (by kernel_rfl)) rfl rfl ?_)
        refine Ok.batch 3 [(6, .int .i64 (w6 (1 - (e8.length : Int))))] (by kernel_rfl) ?_
        refine Ok.nil ?_
        refine Ok.thenN ?_
        refine Ok.ret ?_
        refine Ok.blockR ?_
        refine Ok.thenR ?_
        exact Ok.resP (vs := [.int .i64 (w6 (1 - (e8.length : Int)))]) [] [] (by decide) rfl (.inl rfl) rfl (.cons (.tmp rfl) .nil) (Gext.refl w0 g) ⟨(w6 (1 - (e8.length : Int))), rfl, rfl, hF⟩
       ·replace hF := hF.2 hc6
        refine Ok.seq ?_
        refine Ok.region ?_
        refine Ok.batch 2 [(1, .int .i64 xa), (38, .bool (xdo == 17))] (by kernel_rfl) ?_
        refine Ok.nil ?_
        refine Ok.thenN ?_
        refine Ok.cond (b := (xdo == 17)) rfl (fun hc9 => ?_) (fun hc9 => ?_)
        ·replace hF := hF.1 hc9
         refine Ok.seq ?_
         refine Ok.region ?_
         refine Ok.batch 3 [(6, .int .i64 (w6 (0 - xa)))] (by kernel_rfl) ?_
         refine Ok.nil ?_
         refine Ok.thenN ?_
         refine Ok.ret ?_
         refine Ok.blockR ?_
         refine Ok.thenR ?_
         exact Ok.resP (vs := [.int .i64 (w6 (0 - xa))]) [] [] (by decide) rfl (.inl rfl) rfl (.cons (.tmp rfl) .nil) (Gext.refl w0 g) ⟨(w6 (0 - xa)), rfl, rfl, hF⟩
        ·replace hF := hF.2 hc9
         refine Ok.skip ?_
         refine Ok.blockN ?_
         refine Ok.thenN ?_
         refine Ok.seq ?_
         refine Ok.region ?_
         refine Ok.batch 1 [(6, .int .i64 0)] (by kernel_rfl) ?_
         refine Ok.nil ?_
         refine Ok.thenN ?_
         refine Ok.ret ?_
         exact Ok.resP (vs := [.int .i64 0]) [] [] (by decide) rfl (.inl rfl) rfl (.cons (.tmp rfl) .nil) (Gext.refl w0 g) ⟨0, rfl, rfl, hF⟩
def ndsV0 (xi : Int × Int) : Bool :=
 ((xi.1 == 3) || ((xi.1 == 5) || ((xi.1 == 6) || ((xi.1 == 7) || ((xi.1 == 10) || ((xi.1 == 11) || ((xi.1 == 18) || ((xi.1 == 19) || (xi.1 == 23)))))))))
def ndsj45 (xi : Int × Int) (xp : (List (Int × Int × List (Int) × List (Int × Int))) × (List (Int × Int × List UInt8)) × List (List (List UInt8))) (K : Int → Prop) : Prop :=
 ((((xi.1 == 8) || ((xi.1 == 14) || (xi.1 == 24)))) = true → K 2) ∧ ((((xi.1 == 8) || ((xi.1 == 14) || (xi.1 == 24)))) = false → (((xi.1 == 15)) = true → K 3) ∧ (((xi.1 == 15)) = false → (((xi.1 == 12)) = true → K xi.2) ∧ (((xi.1 == 12)) = false → (((xi.1 == 13)) = true → (0 : Int) ≤ xi.2 ∧ Int.toNat xi.2 < xp.2.2.length ∧ K ((xp.2.2.getD (Int.toNat xi.2) default).length : Int)) ∧ (((xi.1 == 13)) = false → (((xi.1 == 17)) = true → K (w6 (xi.2 + 1))) ∧ (((xi.1 == 17)) = false → K 0)))))
def ndsj7 (xi : Int × Int) (xp : (List (Int × Int × List (Int) × List (Int × Int))) × (List (Int × Int × List UInt8)) × List (List (List UInt8))) (K : Int → Prop) : Prop :=
 (((ndsV0 xi)) = true → K 1) ∧ (((ndsV0 xi)) = false → (((xi.1 == 8)) = true → ndsj45 xi xp K) ∧ (((xi.1 == 8)) = false → (((xi.1 == 14)) = true → ndsj45 xi xp K) ∧ (((xi.1 == 14)) = false → ndsj45 xi xp K)))
def ndsF (xi : Int × Int) (xp : (List (Int × Int × List (Int) × List (Int × Int))) × (List (Int × Int × List UInt8)) × List (List (List UInt8))) (K : Int → Prop) : Prop :=
 (((xi.1 == 3)) = true → ndsj7 xi xp K) ∧ (((xi.1 == 3)) = false → (((xi.1 == 5)) = true → ndsj7 xi xp K) ∧ (((xi.1 == 5)) = false → (((xi.1 == 6)) = true → ndsj7 xi xp K) ∧ (((xi.1 == 6)) = false → (((xi.1 == 7)) = true → ndsj7 xi xp K) ∧ (((xi.1 == 7)) = false → (((xi.1 == 10)) = true → ndsj7 xi xp K) ∧ (((xi.1 == 10)) = false → (((xi.1 == 11)) = true → ndsj7 xi xp K) ∧ (((xi.1 == 11)) = false → (((xi.1 == 18)) = true → ndsj7 xi xp K) ∧ (((xi.1 == 18)) = false → (((xi.1 == 19)) = true → ndsj7 xi xp K) ∧ (((xi.1 == 19)) = false → ndsj7 xi xp K))))))))
set_option maxHeartbeats 4000000 in
set_option maxRecDepth 100000 in
set_option linter.unusedVariables false in
theorem nds_ok {g : Ghost} (xi : Int × Int) {axp_0 : Option Addr} {cxp_0 : Nat} {axp_1 : Option Addr} {cxp_1 : Nat} {axp_2 : Option Addr} {cxp_2 : Nat} (xp : (List (Int × Int × List (Int) × List (Int × Int))) × (List (Int × Int × List UInt8)) × List (List (List UInt8))) (hRxp_0 : Rep g (.slice (.pair (.int .i64) (.pair (.int .i64) (.pair (.slice (.int .i64)) (.slice (.pair (.int .i64) (.int .i64))))))) [.slice axp_0 xp.1.length cxp_0] xp.1) (hRxp_1 : Rep g (.slice (.pair (.int .i64) (.pair (.int .i64) (.str)))) [.slice axp_1 xp.2.1.length cxp_1] xp.2.1) (hRxp_2 : Rep g (.slice (.slice (.str))) [.slice axp_2 xp.2.2.length cxp_2] xp.2.2) (K : Int → Prop)
  (hF : ndsF xi xp K) : CallsH Tryd.prog 16 #[.agg #[.int .i64 xi.1, .int .i64 xi.2], .agg #[.slice axp_0 xp.1.length cxp_0, .slice axp_1 xp.2.1.length cxp_1, .slice axp_2 xp.2.2.length cxp_2]] g [] (fun g' H' v => ∃ (r0 : Int), v = .int .i64 r0 ∧ H' = [] ∧ K r0) := by
 refine CallsH.enter 41 [(0, .agg #[.int .i64 xi.1, .int .i64 xi.2]), (1, .agg #[.slice axp_0 xp.1.length cxp_0, .slice axp_1 xp.2.1.length cxp_1, .slice axp_2 xp.2.2.length cxp_2])] Tryd.func16 rfl (by kernel_rfl) (by kernel_rfl) (by kernel_rfl) fun w0 => ?_
 refine Ok.seq ?_
 refine Ok.region ?_
 refine Ok.op rfl (OpOk.box (v := .agg #[.int .i64 xi.1, .int .i64 xi.2]) (cs := #[.int .i64 xi.1, .int .i64 xi.2]) rfl (by kernel_rfl) rfl fun bs2 => ?_)
 refine Ok.op rfl (OpOk.box (v := .agg #[.slice axp_0 xp.1.length cxp_0, .slice axp_1 xp.2.1.length cxp_1, .slice axp_2 xp.2.2.length cxp_2]) (cs := #[.slice axp_0 xp.1.length cxp_0, .slice axp_1 xp.2.1.length cxp_1, .slice axp_2 xp.2.2.length cxp_2]) rfl (by kernel_rfl) rfl fun bs3 => ?_)
 refine Ok.batch 1 [(2, .pointer (some ⟨bs2, 0, none⟩)), (3, .pointer (some ⟨bs3, 0, none⟩))] (by kernel_rfl) ?_
 refine Ok.nil ?_
 refine Ok.thenN ?_
 refine Ok.seq ?_
 refine Ok.seq ?_
 refine Ok.region ?_
 refine Ok.batch 1 [(2, .pointer (some ⟨bs2, 0, none⟩)), (3, .pointer (some ⟨bs3, 0, none⟩)), (5, .pointer (some ⟨bs2, 0, none⟩))] (by kernel_rfl) ?_
 refine Ok.op rfl (OpOk.step (v := .int .i64 xi.1) (Yields.load 1 rfl rfl Tryd.underlying3 rfl (by kernel_rfl)) rfl rfl ?_)
 refine Ok.nil ?_
 refine Ok.thenN ?_
 refine Ok.block ?_
 refine Ok.cut (fun a W => StA 41 [(2, .pointer (some ⟨bs2, 0, none⟩)), (3, .pointer (some ⟨bs3, 0, none⟩)), (6, .int .i64 xi.1), (7, .bool (ndsV0 xi))] a ∧ StW w0 [.blk bs3 (.cells #[.slice axp_0 xp.1.length cxp_0, .slice axp_1 xp.2.1.length cxp_1, .slice axp_2 xp.2.2.length cxp_2] 26), .blk bs2 (.cells #[.int .i64 xi.1, .int .i64 xi.2] 46)] g W ∧ ndsj7 xi xp K) ?_ ?_
 ·
  refine Ok.seq ?_
  refine Ok.region ?_
  refine Ok.batch 2 [(2, .pointer (some ⟨bs2, 0, none⟩)), (3, .pointer (some ⟨bs3, 0, none⟩)), (6, .int .i64 xi.1), (7, .bool (xi.1 == 3))] (by kernel_rfl) ?_
  refine Ok.nil ?_
  refine Ok.thenN ?_
  refine Ok.cond (b := (xi.1 == 3)) rfl (fun hc13 => ?_) (fun hc13 => ?_)
  ·replace hF := hF.1 hc13
   refine Ok.skip ?_
   refine Ok.thenN ?_
   refine Ok.reval 7 rfl (show (.bool (xi.1 == 3) : Value) = .bool (ndsV0 xi) from congrArg (Value.bool) ((Eq.trans (hc13) (mor_t hc13)))) ?_
   exact fun a W hA hW => ⟨hA.sub (by kernel_rfl), hW, hF⟩
  ·replace hF := hF.2 hc13
   refine Ok.seq ?_
   refine Ok.region ?_
   refine Ok.batch 2 [(2, .pointer (some ⟨bs2, 0, none⟩)), (3, .pointer (some ⟨bs3, 0, none⟩)), (6, .int .i64 xi.1), (7, .bool (xi.1 == 5))] (by kernel_rfl) ?_
   refine Ok.nil ?_
   refine Ok.thenN ?_
   refine Ok.cond (b := (xi.1 == 5)) rfl (fun hc14 => ?_) (fun hc14 => ?_)
   ·replace hF := hF.1 hc14
    refine Ok.skip ?_
    refine Ok.thenN ?_
    refine Ok.reval 7 rfl (show (.bool (xi.1 == 5) : Value) = .bool (ndsV0 xi) from congrArg (Value.bool) ((Eq.trans ((Eq.trans (hc14) (mor_t hc14))) (mor_f hc13)))) ?_
    exact fun a W hA hW => ⟨hA.sub (by kernel_rfl), hW, hF⟩
   ·replace hF := hF.2 hc14
    refine Ok.seq ?_
    refine Ok.region ?_
    refine Ok.batch 2 [(2, .pointer (some ⟨bs2, 0, none⟩)), (3, .pointer (some ⟨bs3, 0, none⟩)), (6, .int .i64 xi.1), (7, .bool (xi.1 == 6))] (by kernel_rfl) ?_
    refine Ok.nil ?_
    refine Ok.thenN ?_
    refine Ok.cond (b := (xi.1 == 6)) rfl (fun hc15 => ?_) (fun hc15 => ?_)
    ·replace hF := hF.1 hc15
     refine Ok.skip ?_
     refine Ok.thenN ?_
     refine Ok.reval 7 rfl (show (.bool (xi.1 == 6) : Value) = .bool (ndsV0 xi) from congrArg (Value.bool) ((Eq.trans ((Eq.trans ((Eq.trans (hc15) (mor_t hc15))) (mor_f hc14))) (mor_f hc13)))) ?_
     exact fun a W hA hW => ⟨hA.sub (by kernel_rfl), hW, hF⟩
    ·replace hF := hF.2 hc15
     refine Ok.seq ?_
     refine Ok.region ?_
     refine Ok.batch 2 [(2, .pointer (some ⟨bs2, 0, none⟩)), (3, .pointer (some ⟨bs3, 0, none⟩)), (6, .int .i64 xi.1), (7, .bool (xi.1 == 7))] (by kernel_rfl) ?_
     refine Ok.nil ?_
     refine Ok.thenN ?_
     refine Ok.cond (b := (xi.1 == 7)) rfl (fun hc16 => ?_) (fun hc16 => ?_)
     ·replace hF := hF.1 hc16
      refine Ok.skip ?_
      refine Ok.thenN ?_
      refine Ok.reval 7 rfl (show (.bool (xi.1 == 7) : Value) = .bool (ndsV0 xi) from congrArg (Value.bool) ((Eq.trans ((Eq.trans ((Eq.trans ((Eq.trans (hc16) (mor_t hc16))) (mor_f hc15))) (mor_f hc14))) (mor_f hc13)))) ?_
      exact fun a W hA hW => ⟨hA.sub (by kernel_rfl), hW, hF⟩
     ·replace hF := hF.2 hc16
      refine Ok.seq ?_
      refine Ok.region ?_
      refine Ok.batch 2 [(2, .pointer (some ⟨bs2, 0, none⟩)), (3, .pointer (some ⟨bs3, 0, none⟩)), (6, .int .i64 xi.1), (7, .bool (xi.1 == 10))] (by kernel_rfl) ?_
      refine Ok.nil ?_
      refine Ok.thenN ?_
      refine Ok.cond (b := (xi.1 == 10)) rfl (fun hc17 => ?_) (fun hc17 => ?_)
      ·replace hF := hF.1 hc17
       refine Ok.skip ?_
       refine Ok.thenN ?_
       refine Ok.reval 7 rfl (show (.bool (xi.1 == 10) : Value) = .bool (ndsV0 xi) from congrArg (Value.bool) ((Eq.trans ((Eq.trans ((Eq.trans ((Eq.trans ((Eq.trans (hc17) (mor_t hc17))) (mor_f hc16))) (mor_f hc15))) (mor_f hc14))) (mor_f hc13)))) ?_
       exact fun a W hA hW => ⟨hA.sub (by kernel_rfl), hW, hF⟩
      ·replace hF := hF.2 hc17
       refine Ok.seq ?_
       refine Ok.region ?_
       refine Ok.batch 2 [(2, .pointer (some ⟨bs2, 0, none⟩)), (3, .pointer (some ⟨bs3, 0, none⟩)), (6, .int .i64 xi.1), (7, .bool (xi.1 == 11))] (by kernel_rfl) ?_
       refine Ok.nil ?_
       refine Ok.thenN ?_
       refine Ok.cond (b := (xi.1 == 11)) rfl (fun hc18 => ?_) (fun hc18 => ?_)
       ·replace hF := hF.1 hc18
        refine Ok.skip ?_
        refine Ok.thenN ?_
        refine Ok.reval 7 rfl (show (.bool (xi.1 == 11) : Value) = .bool (ndsV0 xi) from congrArg (Value.bool) ((Eq.trans ((Eq.trans ((Eq.trans ((Eq.trans ((Eq.trans ((Eq.trans (hc18) (mor_t hc18))) (mor_f hc17))) (mor_f hc16))) (mor_f hc15))) (mor_f hc14))) (mor_f hc13)))) ?_
        exact fun a W hA hW => ⟨hA.sub (by kernel_rfl), hW, hF⟩
       ·replace hF := hF.2 hc18
        refine Ok.seq ?_
        refine Ok.region ?_
        refine Ok.batch 2 [(2, .pointer (some ⟨bs2, 0, none⟩)), (3, .pointer (some ⟨bs3, 0, none⟩)), (6, .int .i64 xi.1), (7, .bool (xi.1 == 18))] (by kernel_rfl) ?_
        refine Ok.nil ?_
        refine Ok.thenN ?_
        refine Ok.cond (b := (xi.1 == 18)) rfl (fun hc19 => ?_) (fun hc19 => ?_)
        ·replace hF := hF.1 hc19
         refine Ok.skip ?_
         refine Ok.thenN ?_
         refine Ok.reval 7 rfl (show (.bool (xi.1 == 18) : Value) = .bool (ndsV0 xi) from congrArg (Value.bool) ((Eq.trans ((Eq.trans ((Eq.trans ((Eq.trans ((Eq.trans ((Eq.trans ((Eq.trans (hc19) (mor_t hc19))) (mor_f hc18))) (mor_f hc17))) (mor_f hc16))) (mor_f hc15))) (mor_f hc14))) (mor_f hc13)))) ?_
         exact fun a W hA hW => ⟨hA.sub (by kernel_rfl), hW, hF⟩
        ·replace hF := hF.2 hc19
         refine Ok.seq ?_
         refine Ok.region ?_
         refine Ok.batch 2 [(2, .pointer (some ⟨bs2, 0, none⟩)), (3, .pointer (some ⟨bs3, 0, none⟩)), (6, .int .i64 xi.1), (7, .bool (xi.1 == 19))] (by kernel_rfl) ?_
         refine Ok.nil ?_
         refine Ok.thenN ?_
         refine Ok.cond (b := (xi.1 == 19)) rfl (fun hc20 => ?_) (fun hc20 => ?_)
         ·replace hF := hF.1 hc20
          refine Ok.skip ?_
          refine Ok.thenN ?_
          refine Ok.reval 7 rfl (show (.bool (xi.1 == 19) : Value) = .bool (ndsV0 xi) from congrArg (Value.bool) ((Eq.trans ((Eq.trans ((Eq.trans ((Eq.trans ((Eq.trans ((Eq.trans ((Eq.trans ((Eq.trans (hc20) (mor_t hc20))) (mor_f hc19))) (mor_f hc18))) (mor_f hc17))) (mor_f hc16))) (mor_f hc15))) (mor_f hc14))) (mor_f hc13)))) ?_
          exact fun a W hA hW => ⟨hA.sub (by kernel_rfl), hW, hF⟩
         ·replace hF := hF.2 hc20
          refine Ok.region ?_
          refine Ok.batch 2 [(2, .pointer (some ⟨bs2, 0, none⟩)), (3, .pointer (some ⟨bs3, 0, none⟩)), (6, .int .i64 xi.1), (7, .bool (xi.1 == 23))] (by kernel_rfl) ?_
          refine Ok.nil ?_
          refine Ok.thenN ?_
          refine Ok.reval 7 rfl (show (.bool (xi.1 == 23) : Value) = .bool (ndsV0 xi) from congrArg (Value.bool) ((Eq.trans ((Eq.trans ((Eq.trans ((Eq.trans ((Eq.trans ((Eq.trans ((Eq.trans (mor_f hc20) (mor_f hc19))) (mor_f hc18))) (mor_f hc17))) (mor_f hc16))) (mor_f hc15))) (mor_f hc14))) (mor_f hc13)))) ?_
          exact fun a W hA hW => ⟨hA.sub (by kernel_rfl), hW, hF⟩
 ·
  clear hF
  rintro a W ⟨hA, hW, hF⟩
  refine (?_ : Ok _ _ _ _ _ _) a W hA hW
  clear hA hW
  refine Ok.cond (b := (ndsV0 xi)) rfl (fun hc3 => ?_) (fun hc3 => ?_)
  ·replace hF := hF.1 hc3
   refine Ok.seq ?_
   refine Ok.region ?_
   refine Ok.batch 1 [(4, .int .i64 1)] (by kernel_rfl) ?_
   refine Ok.nil ?_
   refine Ok.thenN ?_
   refine Ok.ret ?_
   refine Ok.blockR ?_
   refine Ok.thenR ?_
   exact Ok.resP (vs := [.int .i64 1]) [] [] (by decide) rfl (.inl rfl) rfl (.cons (.tmp rfl) .nil) (Gext.refl w0 g) ⟨1, rfl, rfl, hF⟩
  ·replace hF := hF.2 hc3
   refine Ok.cut (fun a W => StA 41 [(2, .pointer (some ⟨bs2, 0, none⟩)), (3, .pointer (some ⟨bs3, 0, none⟩)), (6, .int .i64 xi.1), (17, .bool ((xi.1 == 8) || ((xi.1 == 14) || (xi.1 == 24))))] a ∧ StW w0 [.blk bs3 (.cells #[.slice axp_0 xp.1.length cxp_0, .slice axp_1 xp.2.1.length cxp_1, .slice axp_2 xp.2.2.length cxp_2] 26), .blk bs2 (.cells #[.int .i64 xi.1, .int .i64 xi.2] 46)] g W ∧ ndsj45 xi xp K) ?_ ?_
   ·
    refine Ok.seq ?_
    refine Ok.region ?_
    refine Ok.batch 2 [(2, .pointer (some ⟨bs2, 0, none⟩)), (3, .pointer (some ⟨bs3, 0, none⟩)), (6, .int .i64 xi.1), (17, .bool (xi.1 == 8))] (by kernel_rfl) ?_
    refine Ok.nil ?_
    refine Ok.thenN ?_
    refine Ok.cond (b := (xi.1 == 8)) rfl (fun hc11 => ?_) (fun hc11 => ?_)
    ·replace hF := hF.1 hc11
     refine Ok.skip ?_
     refine Ok.thenN ?_
     refine Ok.reval 17 rfl (show (.bool (xi.1 == 8) : Value) = .bool ((xi.1 == 8) || ((xi.1 == 14) || (xi.1 == 24))) from congrArg (Value.bool) ((Eq.trans (hc11) (mor_t hc11)))) ?_
     exact fun a W hA hW => ⟨hA.sub (by kernel_rfl), hW, hF⟩
    ·replace hF := hF.2 hc11
     refine Ok.seq ?_
     refine Ok.region ?_
     refine Ok.batch 2 [(2, .pointer (some ⟨bs2, 0, none⟩)), (3, .pointer (some ⟨bs3, 0, none⟩)), (6, .int .i64 xi.1), (17, .bool (xi.1 == 14))] (by kernel_rfl) ?_
     refine Ok.nil ?_
     refine Ok.thenN ?_
     refine Ok.cond (b := (xi.1 == 14)) rfl (fun hc12 => ?_) (fun hc12 => ?_)
     ·replace hF := hF.1 hc12
      refine Ok.skip ?_
      refine Ok.thenN ?_
      refine Ok.reval 17 rfl (show (.bool (xi.1 == 14) : Value) = .bool ((xi.1 == 8) || ((xi.1 == 14) || (xi.1 == 24))) from congrArg (Value.bool) ((Eq.trans ((Eq.trans (hc12) (mor_t hc12))) (mor_f hc11)))) ?_
      exact fun a W hA hW => ⟨hA.sub (by kernel_rfl), hW, hF⟩
     ·replace hF := hF.2 hc12
      refine Ok.region ?_
      refine Ok.batch 2 [(2, .pointer (some ⟨bs2, 0, none⟩)), (3, .pointer (some ⟨bs3, 0, none⟩)), (6, .int .i64 xi.1), (17, .bool (xi.1 == 24))] (by kernel_rfl) ?_
      refine Ok.nil ?_
      refine Ok.thenN ?_
      refine Ok.reval 17 rfl (show (.bool (xi.1 == 24) : Value) = .bool ((xi.1 == 8) || ((xi.1 == 14) || (xi.1 == 24))) from congrArg (Value.bool) ((Eq.trans (mor_f hc12) (mor_f hc11)))) ?_
      exact fun a W hA hW => ⟨hA.sub (by kernel_rfl), hW, hF⟩
   ·
    clear hF
    rintro a W ⟨hA, hW, hF⟩
    refine (?_ : Ok _ _ _ _ _ _) a W hA hW
    clear hA hW
    refine Ok.cond (b := ((xi.1 == 8) || ((xi.1 == 14) || (xi.1 == 24)))) rfl (fun hc4 => ?_) (fun hc4 => ?_)
    ·replace hF := hF.1 hc4
     refine Ok.seq ?_
     refine Ok.region ?_
     refine Ok.batch 1 [(4, .int .i64 2)] (by kernel_rfl) ?_
     refine Ok.nil ?_
     refine Ok.thenN ?_
     refine Ok.ret ?_
     refine Ok.blockR ?_
     refine Ok.thenR ?_
     exact Ok.resP (vs := [.int .i64 2]) [] [] (by decide) rfl (.inl rfl) rfl (.cons (.tmp rfl) .nil) (Gext.refl w0 g) ⟨2, rfl, rfl, hF⟩
    ·replace hF := hF.2 hc4
     refine Ok.seq ?_
     refine Ok.region ?_
     refine Ok.batch 2 [(2, .pointer (some ⟨bs2, 0, none⟩)), (3, .pointer (some ⟨bs3, 0, none⟩)), (6, .int .i64 xi.1), (21, .bool (xi.1 == 15))] (by kernel_rfl) ?_
     refine Ok.nil ?_
     refine Ok.thenN ?_
     refine Ok.cond (b := (xi.1 == 15)) rfl (fun hc5 => ?_) (fun hc5 => ?_)
     ·replace hF := hF.1 hc5
      refine Ok.seq ?_
      refine Ok.region ?_
      refine Ok.batch 1 [(4, .int .i64 3)] (by kernel_rfl) ?_
      refine Ok.nil ?_
      refine Ok.thenN ?_
      refine Ok.ret ?_
      refine Ok.blockR ?_
      refine Ok.thenR ?_
      exact Ok.resP (vs := [.int .i64 3]) [] [] (by decide) rfl (.inl rfl) rfl (.cons (.tmp rfl) .nil) (Gext.refl w0 g) ⟨3, rfl, rfl, hF⟩
     ·replace hF := hF.2 hc5
      refine Ok.seq ?_
      refine Ok.region ?_
      refine Ok.batch 2 [(2, .pointer (some ⟨bs2, 0, none⟩)), (3, .pointer (some ⟨bs3, 0, none⟩)), (6, .int .i64 xi.1), (23, .bool (xi.1 == 12))] (by kernel_rfl) ?_
      refine Ok.nil ?_
      refine Ok.thenN ?_
      refine Ok.cond (b := (xi.1 == 12)) rfl (fun hc6 => ?_) (fun hc6 => ?_)
      ·replace hF := hF.1 hc6
       refine Ok.seq ?_
       refine Ok.region ?_
       refine Ok.batch 1 [(25, .pointer (some ⟨bs2, 1, none⟩))] (by kernel_rfl) ?_
       refine Ok.op rfl (OpOk.step (v := .int .i64 xi.2) (Yields.load 1 rfl rfl Tryd.underlying3 rfl (by kernel_rfl)) rfl rfl ?_)
       refine Ok.batch 1 [(4, .int .i64 xi.2)] (by kernel_rfl) ?_
       refine Ok.nil ?_
       refine Ok.thenN ?_
       refine Ok.ret ?_
       refine Ok.blockR ?_
       refine Ok.thenR ?_
       exact Ok.resP (vs := [.int .i64 xi.2]) [] [] (by decide) rfl (.inl rfl) rfl (.cons (.tmp rfl) .nil) (Gext.refl w0 g) ⟨xi.2, rfl, rfl, hF⟩
      ·replace hF := hF.2 hc6
       refine Ok.seq ?_
       refine Ok.region ?_
       refine Ok.batch 2 [(2, .pointer (some ⟨bs2, 0, none⟩)), (3, .pointer (some ⟨bs3, 0, none⟩)), (6, .int .i64 xi.1), (27, .bool (xi.1 == 13))] (by kernel_rfl) ?_
       refine Ok.nil ?_
       refine Ok.thenN ?_
       refine Ok.cond (b := (xi.1 == 13)) rfl (fun hc7 => ?_) (fun hc7 => ?_)
       ·replace hF := hF.1 hc7
        refine Ok.seq ?_
        refine Ok.region ?_
        refine Ok.batch 1 [(2, .pointer (some ⟨bs2, 0, none⟩)), (29, .pointer (some ⟨bs3, 2, none⟩))] (by kernel_rfl) ?_
        refine Ok.op rfl (OpOk.step (v := .slice axp_2 xp.2.2.length cxp_2) (Yields.load 0 rfl rfl Tryd.underlying24 rfl (by kernel_rfl)) rfl rfl ?_)
        refine Ok.batch 1 [(30, .slice axp_2 xp.2.2.length cxp_2), (31, .pointer (some ⟨bs2, 1, none⟩))] (by kernel_rfl) ?_
        refine Ok.op rfl (OpOk.step (v := .int .i64 xi.2) (Yields.load 1 rfl rfl Tryd.underlying3 rfl (by kernel_rfl)) rfl rfl ?_)
        obtain ⟨h09, h19, hF⟩ := hF
        have he9 := get_of (l := xp.2.2) (default : List (List UInt8)) h19
        generalize hg9 : (xp.2.2.getD (Int.toNat xi.2) default) = e9 at he9 hF ⊢
        refine Ok.op rfl (OpOk.indexRo (e := .slice (.str)) (i := xi.2) (el := e9) rfl rfl Tryd.underlying24 (by kernel_rfl) hRxp_2 h09 he9 rfl fun q8 o8 cs8 _ hat8 hr8 => ?_)
        obtain ⟨a8_0, c8_0, rfl, hm8_0, hr8_0⟩ := hr8
        have hR8_0 : Rep g (.slice (.str)) [.slice a8_0 e9.length c8_0] e9 := ⟨a8_0, c8_0, rfl, hm8_0, hr8_0⟩
        replace hat8 : At g q8 o8 [.slice a8_0 e9.length c8_0] := hat8
        refine Ok.op rfl (OpOk.step (v := .slice a8_0 e9.length c8_0) (Yields.loadRo 0 hat8 (by kernel_rfl) Tryd.underlying64 rfl (by kernel_rfl)) rfl rfl ?_)
        refine Ok.batch 2 [(4, .int .i64 (e9.length : Int))] (by kernel_rfl) ?_
        refine Ok.nil ?_
        refine Ok.thenN ?_
        refine Ok.ret ?_
        refine Ok.blockR ?_
        refine Ok.thenR ?_
        exact Ok.resP (vs := [.int .i64 (e9.length : Int)]) [] [] (by decide) rfl (.inl rfl) rfl (.cons (.tmp rfl) .nil) (Gext.refl w0 g) ⟨(e9.length : Int), rfl, rfl, hF⟩
       ·replace hF := hF.2 hc7
        refine Ok.seq ?_
        refine Ok.region ?_
        refine Ok.batch 2 [(2, .pointer (some ⟨bs2, 0, none⟩)), (36, .bool (xi.1 == 17))] (by kernel_rfl) ?_
        refine Ok.nil ?_
        refine Ok.thenN ?_
        refine Ok.cond (b := (xi.1 == 17)) rfl (fun hc10 => ?_) (fun hc10 => ?_)
        ·replace hF := hF.1 hc10
         refine Ok.seq ?_
         refine Ok.region ?_
         refine Ok.batch 1 [(38, .pointer (some ⟨bs2, 1, none⟩))] (by kernel_rfl) ?_
         refine Ok.op rfl (OpOk.step (v := .int .i64 xi.2) (Yields.load 1 rfl rfl Tryd.underlying3 rfl (by kernel_rfl)) rfl rfl ?_)
         refine Ok.batch 2 [(4, .int .i64 (w6 (xi.2 + 1)))] (by kernel_rfl) ?_
         refine Ok.nil ?_
         refine Ok.thenN ?_
         refine Ok.ret ?_
         refine Ok.blockR ?_
         refine Ok.thenR ?_
         exact Ok.resP (vs := [.int .i64 (w6 (xi.2 + 1))]) [] [] (by decide) rfl (.inl rfl) rfl (.cons (.tmp rfl) .nil) (Gext.refl w0 g) ⟨(w6 (xi.2 + 1)), rfl, rfl, hF⟩
        ·replace hF := hF.2 hc10
         refine Ok.skip ?_
         refine Ok.blockN ?_
         refine Ok.thenN ?_
         refine Ok.seq ?_
         refine Ok.region ?_
         refine Ok.batch 1 [(4, .int .i64 0)] (by kernel_rfl) ?_
         refine Ok.nil ?_
         refine Ok.thenN ?_
         refine Ok.ret ?_
         exact Ok.resP (vs := [.int .i64 0]) [] [] (by decide) rfl (.inl rfl) rfl (.cons (.tmp rfl) .nil) (Gext.refl w0 g) ⟨0, rfl, rfl, hF⟩
def movV0 (xi : Int × Int) : Bool :=
 ((xi.1 == 5) || ((xi.1 == 6) || ((xi.1 == 10) || ((xi.1 == 18) || (xi.1 == 19)))))
def movj63 (xi : Int × Int) (xp : (List (Int × Int × List (Int) × List (Int × Int))) × (List (Int × Int × List UInt8)) × List (List (List UInt8))) (K : Int → Int → Prop) : Prop :=
 ((((xi.1 == 11) || (xi.1 == 23))) = true → K 1 2) ∧ ((((xi.1 == 11) || (xi.1 == 23))) = false → (((xi.1 == 12)) = true → K xi.2 1) ∧ (((xi.1 == 12)) = false → (((xi.1 == 13)) = true → (0 : Int) ≤ xi.2 ∧ Int.toNat xi.2 < xp.2.2.length ∧ K ((xp.2.2.getD (Int.toNat xi.2) default).length : Int) 1) ∧ (((xi.1 == 13)) = false → (((xi.1 == 15)) = true → K 3 1) ∧ (((xi.1 == 15)) = false → (((xi.1 == 17)) = true → K (w6 (xi.2 + 1)) 1) ∧ (((xi.1 == 17)) = false → (((xi.1 == 24)) = true → K 2 3) ∧ (((xi.1 == 24)) = false → K 0 0))))))
def movj53 (xi : Int × Int) (xp : (List (Int × Int × List (Int) × List (Int × Int))) × (List (Int × Int × List UInt8)) × List (List (List UInt8))) (K : Int → Int → Prop) : Prop :=
 ((((xi.1 == 8) || (xi.1 == 14))) = true → K 2 1) ∧ ((((xi.1 == 8) || (xi.1 == 14))) = false → (((xi.1 == 11)) = true → movj63 xi xp K) ∧ (((xi.1 == 11)) = false → movj63 xi xp K))
def movj31 (xi : Int × Int) (xp : (List (Int × Int × List (Int) × List (Int × Int))) × (List (Int × Int × List UInt8)) × List (List (List UInt8))) (K : Int → Int → Prop) : Prop :=
 (((movV0 xi)) = true → K 1 0) ∧ (((movV0 xi)) = false → (((xi.1 == 8)) = true → movj53 xi xp K) ∧ (((xi.1 == 8)) = false → movj53 xi xp K))
def movj21 (xi : Int × Int) (xp : (List (Int × Int × List (Int) × List (Int × Int))) × (List (Int × Int × List UInt8)) × List (List (List UInt8))) (K : Int → Int → Prop) : Prop :=
 ((((xi.1 == 3) || (xi.1 == 7))) = true → K 1 1) ∧ ((((xi.1 == 3) || (xi.1 == 7))) = false → (((xi.1 == 5)) = true → movj31 xi xp K) ∧ (((xi.1 == 5)) = false → (((xi.1 == 6)) = true → movj31 xi xp K) ∧ (((xi.1 == 6)) = false → (((xi.1 == 10)) = true → movj31 xi xp K) ∧ (((xi.1 == 10)) = false → (((xi.1 == 18)) = true → movj31 xi xp K) ∧ (((xi.1 == 18)) = false → movj31 xi xp K)))))
def movj7 (xi : Int × Int) (xp : (List (Int × Int × List (Int) × List (Int × Int))) × (List (Int × Int × List UInt8)) × List (List (List UInt8))) (K : Int → Int → Prop) : Prop :=
 ((((xi.1 == 1) || ((xi.1 == 2) || (xi.1 == 16)))) = true → K 0 1) ∧ ((((xi.1 == 1) || ((xi.1 == 2) || (xi.1 == 16)))) = false → (((xi.1 == 3)) = true → movj21 xi xp K) ∧ (((xi.1 == 3)) = false → movj21 xi xp K))
def movF (xi : Int × Int) (xp : (List (Int × Int × List (Int) × List (Int × Int))) × (List (Int × Int × List UInt8)) × List (List (List UInt8))) (K : Int → Int → Prop) : Prop :=
 (((xi.1 == 1)) = true → movj7 xi xp K) ∧ (((xi.1 == 1)) = false → (((xi.1 == 2)) = true → movj7 xi xp K) ∧ (((xi.1 == 2)) = false → movj7 xi xp K))
set_option maxHeartbeats 4000000 in
set_option maxRecDepth 100000 in
set_option linter.unusedVariables false in
theorem mov_ok {g : Ghost} (xi : Int × Int) {axp_0 : Option Addr} {cxp_0 : Nat} {axp_1 : Option Addr} {cxp_1 : Nat} {axp_2 : Option Addr} {cxp_2 : Nat} (xp : (List (Int × Int × List (Int) × List (Int × Int))) × (List (Int × Int × List UInt8)) × List (List (List UInt8))) (hRxp_0 : Rep g (.slice (.pair (.int .i64) (.pair (.int .i64) (.pair (.slice (.int .i64)) (.slice (.pair (.int .i64) (.int .i64))))))) [.slice axp_0 xp.1.length cxp_0] xp.1) (hRxp_1 : Rep g (.slice (.pair (.int .i64) (.pair (.int .i64) (.str)))) [.slice axp_1 xp.2.1.length cxp_1] xp.2.1) (hRxp_2 : Rep g (.slice (.slice (.str))) [.slice axp_2 xp.2.2.length cxp_2] xp.2.2) (K : Int → Int → Prop)
  (hF : movF xi xp K) : CallsH Tryd.prog 12 #[.agg #[.int .i64 xi.1, .int .i64 xi.2], .agg #[.slice axp_0 xp.1.length cxp_0, .slice axp_1 xp.2.1.length cxp_1, .slice axp_2 xp.2.2.length cxp_2]] g [] (fun g' H' v => ∃ (r0 : Int), ∃ (r1 : Int), v = .tuple #[.int .i64 r0, .int .i64 r1] ∧ H' = [] ∧ K r0 r1) := by
 refine CallsH.enter 49 [(0, .agg #[.int .i64 xi.1, .int .i64 xi.2]), (1, .agg #[.slice axp_0 xp.1.length cxp_0, .slice axp_1 xp.2.1.length cxp_1, .slice axp_2 xp.2.2.length cxp_2])] Tryd.func12 rfl (by kernel_rfl) (by kernel_rfl) (by kernel_rfl) fun w0 => ?_
 refine Ok.seq ?_
 refine Ok.region ?_
 refine Ok.op rfl (OpOk.box (v := .agg #[.int .i64 xi.1, .int .i64 xi.2]) (cs := #[.int .i64 xi.1, .int .i64 xi.2]) rfl (by kernel_rfl) rfl fun bs2 => ?_)
 refine Ok.op rfl (OpOk.box (v := .agg #[.slice axp_0 xp.1.length cxp_0, .slice axp_1 xp.2.1.length cxp_1, .slice axp_2 xp.2.2.length cxp_2]) (cs := #[.slice axp_0 xp.1.length cxp_0, .slice axp_1 xp.2.1.length cxp_1, .slice axp_2 xp.2.2.length cxp_2]) rfl (by kernel_rfl) rfl fun bs3 => ?_)
 refine Ok.batch 2 [(2, .pointer (some ⟨bs2, 0, none⟩)), (3, .pointer (some ⟨bs3, 0, none⟩))] (by kernel_rfl) ?_
 refine Ok.nil ?_
 refine Ok.thenN ?_
 refine Ok.seq ?_
 refine Ok.seq ?_
 refine Ok.region ?_
 refine Ok.batch 1 [(2, .pointer (some ⟨bs2, 0, none⟩)), (3, .pointer (some ⟨bs3, 0, none⟩)), (6, .pointer (some ⟨bs2, 0, none⟩))] (by kernel_rfl) ?_
 refine Ok.op rfl (OpOk.step (v := .int .i64 xi.1) (Yields.load 1 rfl rfl Tryd.underlying3 rfl (by kernel_rfl)) rfl rfl ?_)
 refine Ok.nil ?_
 refine Ok.thenN ?_
 refine Ok.block ?_
 refine Ok.cut (fun a W => StA 49 [(2, .pointer (some ⟨bs2, 0, none⟩)), (3, .pointer (some ⟨bs3, 0, none⟩)), (7, .int .i64 xi.1), (8, .bool ((xi.1 == 1) || ((xi.1 == 2) || (xi.1 == 16))))] a ∧ StW w0 [.blk bs3 (.cells #[.slice axp_0 xp.1.length cxp_0, .slice axp_1 xp.2.1.length cxp_1, .slice axp_2 xp.2.2.length cxp_2] 26), .blk bs2 (.cells #[.int .i64 xi.1, .int .i64 xi.2] 46)] g W ∧ movj7 xi xp K) ?_ ?_
 ·
  refine Ok.seq ?_
  refine Ok.region ?_
  refine Ok.batch 2 [(2, .pointer (some ⟨bs2, 0, none⟩)), (3, .pointer (some ⟨bs3, 0, none⟩)), (7, .int .i64 xi.1), (8, .bool (xi.1 == 1))] (by kernel_rfl) ?_
  refine Ok.nil ?_
  refine Ok.thenN ?_
  refine Ok.cond (b := (xi.1 == 1)) rfl (fun hc22 => ?_) (fun hc22 => ?_)
  ·replace hF := hF.1 hc22
   refine Ok.skip ?_
   refine Ok.thenN ?_
   refine Ok.reval 8 rfl (show (.bool (xi.1 == 1) : Value) = .bool ((xi.1 == 1) || ((xi.1 == 2) || (xi.1 == 16))) from congrArg (Value.bool) ((Eq.trans (hc22) (mor_t hc22)))) ?_
   exact fun a W hA hW => ⟨hA.sub (by kernel_rfl), hW, hF⟩
  ·replace hF := hF.2 hc22
   refine Ok.seq ?_
   refine Ok.region ?_
   refine Ok.batch 2 [(2, .pointer (some ⟨bs2, 0, none⟩)), (3, .pointer (some ⟨bs3, 0, none⟩)), (7, .int .i64 xi.1), (8, .bool (xi.1 == 2))] (by kernel_rfl) ?_
   refine Ok.nil ?_
   refine Ok.thenN ?_
   refine Ok.cond (b := (xi.1 == 2)) rfl (fun hc23 => ?_) (fun hc23 => ?_)
   ·replace hF := hF.1 hc23
    refine Ok.skip ?_
    refine Ok.thenN ?_
    refine Ok.reval 8 rfl (show (.bool (xi.1 == 2) : Value) = .bool ((xi.1 == 1) || ((xi.1 == 2) || (xi.1 == 16))) from congrArg (Value.bool) ((Eq.trans ((Eq.trans (hc23) (mor_t hc23))) (mor_f hc22)))) ?_
    exact fun a W hA hW => ⟨hA.sub (by kernel_rfl), hW, hF⟩
   ·replace hF := hF.2 hc23
    refine Ok.region ?_
    refine Ok.batch 2 [(2, .pointer (some ⟨bs2, 0, none⟩)), (3, .pointer (some ⟨bs3, 0, none⟩)), (7, .int .i64 xi.1), (8, .bool (xi.1 == 16))] (by kernel_rfl) ?_
    refine Ok.nil ?_
    refine Ok.thenN ?_
    refine Ok.reval 8 rfl (show (.bool (xi.1 == 16) : Value) = .bool ((xi.1 == 1) || ((xi.1 == 2) || (xi.1 == 16))) from congrArg (Value.bool) ((Eq.trans (mor_f hc23) (mor_f hc22)))) ?_
    exact fun a W hA hW => ⟨hA.sub (by kernel_rfl), hW, hF⟩
 ·
  clear hF
  rintro a W ⟨hA, hW, hF⟩
  refine (?_ : Ok _ _ _ _ _ _) a W hA hW
  clear hA hW
  refine Ok.cond (b := ((xi.1 == 1) || ((xi.1 == 2) || (xi.1 == 16)))) rfl (fun hc3 => ?_) (fun hc3 => ?_)
  ·replace hF := hF.1 hc3
   refine Ok.seq ?_
   refine Ok.region ?_
   refine Ok.batch 2 [(4, .int .i64 0), (5, .int .i64 1)] (by kernel_rfl) ?_
   refine Ok.nil ?_
   refine Ok.thenN ?_
   refine Ok.ret ?_
   refine Ok.blockR ?_
   refine Ok.thenR ?_
   exact Ok.resP (vs := [.int .i64 0, .int .i64 1]) [] [] (by decide) rfl (.inl rfl) rfl (.cons (.tmp rfl) (.cons (.tmp rfl) .nil)) (Gext.refl w0 g) ⟨0, 1, rfl, rfl, hF⟩
  ·replace hF := hF.2 hc3
   refine Ok.cut (fun a W => StA 49 [(2, .pointer (some ⟨bs2, 0, none⟩)), (3, .pointer (some ⟨bs3, 0, none⟩)), (7, .int .i64 xi.1), (12, .bool ((xi.1 == 3) || (xi.1 == 7)))] a ∧ StW w0 [.blk bs3 (.cells #[.slice axp_0 xp.1.length cxp_0, .slice axp_1 xp.2.1.length cxp_1, .slice axp_2 xp.2.2.length cxp_2] 26), .blk bs2 (.cells #[.int .i64 xi.1, .int .i64 xi.2] 46)] g W ∧ movj21 xi xp K) ?_ ?_
   ·
    refine Ok.seq ?_
    refine Ok.region ?_
    refine Ok.batch 2 [(2, .pointer (some ⟨bs2, 0, none⟩)), (3, .pointer (some ⟨bs3, 0, none⟩)), (7, .int .i64 xi.1), (12, .bool (xi.1 == 3))] (by kernel_rfl) ?_
    refine Ok.nil ?_
    refine Ok.thenN ?_
    refine Ok.cond (b := (xi.1 == 3)) rfl (fun hc21 => ?_) (fun hc21 => ?_)
    ·replace hF := hF.1 hc21
     refine Ok.skip ?_
     refine Ok.thenN ?_
     refine Ok.reval 12 rfl (show (.bool (xi.1 == 3) : Value) = .bool ((xi.1 == 3) || (xi.1 == 7)) from congrArg (Value.bool) ((Eq.trans (hc21) (mor_t hc21)))) ?_
     exact fun a W hA hW => ⟨hA.sub (by kernel_rfl), hW, hF⟩
    ·replace hF := hF.2 hc21
     refine Ok.region ?_
     refine Ok.batch 2 [(2, .pointer (some ⟨bs2, 0, none⟩)), (3, .pointer (some ⟨bs3, 0, none⟩)), (7, .int .i64 xi.1), (12, .bool (xi.1 == 7))] (by kernel_rfl) ?_
     refine Ok.nil ?_
     refine Ok.thenN ?_
     refine Ok.reval 12 rfl (show (.bool (xi.1 == 7) : Value) = .bool ((xi.1 == 3) || (xi.1 == 7)) from congrArg (Value.bool) (mor_f hc21)) ?_
     exact fun a W hA hW => ⟨hA.sub (by kernel_rfl), hW, hF⟩
   ·
    clear hF
    rintro a W ⟨hA, hW, hF⟩
    refine (?_ : Ok _ _ _ _ _ _) a W hA hW
    clear hA hW
    refine Ok.cond (b := ((xi.1 == 3) || (xi.1 == 7))) rfl (fun hc4 => ?_) (fun hc4 => ?_)
    ·replace hF := hF.1 hc4
     refine Ok.seq ?_
     refine Ok.region ?_
     refine Ok.batch 2 [(4, .int .i64 1), (5, .int .i64 1)] (by kernel_rfl) ?_
     refine Ok.nil ?_
     refine Ok.thenN ?_
     refine Ok.ret ?_
     refine Ok.blockR ?_
     refine Ok.thenR ?_
     exact Ok.resP (vs := [.int .i64 1, .int .i64 1]) [] [] (by decide) rfl (.inl rfl) rfl (.cons (.tmp rfl) (.cons (.tmp rfl) .nil)) (Gext.refl w0 g) ⟨1, 1, rfl, rfl, hF⟩
    ·replace hF := hF.2 hc4
     refine Ok.cut (fun a W => StA 49 [(2, .pointer (some ⟨bs2, 0, none⟩)), (3, .pointer (some ⟨bs3, 0, none⟩)), (7, .int .i64 xi.1), (15, .bool (movV0 xi))] a ∧ StW w0 [.blk bs3 (.cells #[.slice axp_0 xp.1.length cxp_0, .slice axp_1 xp.2.1.length cxp_1, .slice axp_2 xp.2.2.length cxp_2] 26), .blk bs2 (.cells #[.int .i64 xi.1, .int .i64 xi.2] 46)] g W ∧ movj31 xi xp K) ?_ ?_
     ·
      refine Ok.seq ?_
      refine Ok.region ?_
      refine Ok.batch 2 [(2, .pointer (some ⟨bs2, 0, none⟩)), (3, .pointer (some ⟨bs3, 0, none⟩)), (7, .int .i64 xi.1), (15, .bool (xi.1 == 5))] (by kernel_rfl) ?_
      refine Ok.nil ?_
      refine Ok.thenN ?_
      refine Ok.cond (b := (xi.1 == 5)) rfl (fun hc17 => ?_) (fun hc17 => ?_)
      ·replace hF := hF.1 hc17
       refine Ok.skip ?_
       refine Ok.thenN ?_
       refine Ok.reval 15 rfl (show (.bool (xi.1 == 5) : Value) = .bool (movV0 xi) from congrArg (Value.bool) ((Eq.trans (hc17) (mor_t hc17)))) ?_
       exact fun a W hA hW => ⟨hA.sub (by kernel_rfl), hW, hF⟩
      ·replace hF := hF.2 hc17
       refine Ok.seq ?_
       refine Ok.region ?_
       refine Ok.batch 2 [(2, .pointer (some ⟨bs2, 0, none⟩)), (3, .pointer (some ⟨bs3, 0, none⟩)), (7, .int .i64 xi.1), (15, .bool (xi.1 == 6))] (by kernel_rfl) ?_
       refine Ok.nil ?_
       refine Ok.thenN ?_
       refine Ok.cond (b := (xi.1 == 6)) rfl (fun hc18 => ?_) (fun hc18 => ?_)
       ·replace hF := hF.1 hc18
        refine Ok.skip ?_
        refine Ok.thenN ?_
        refine Ok.reval 15 rfl (show (.bool (xi.1 == 6) : Value) = .bool (movV0 xi) from congrArg (Value.bool) ((Eq.trans ((Eq.trans (hc18) (mor_t hc18))) (mor_f hc17)))) ?_
        exact fun a W hA hW => ⟨hA.sub (by kernel_rfl), hW, hF⟩
       ·replace hF := hF.2 hc18
        refine Ok.seq ?_
        refine Ok.region ?_
        refine Ok.batch 2 [(2, .pointer (some ⟨bs2, 0, none⟩)), (3, .pointer (some ⟨bs3, 0, none⟩)), (7, .int .i64 xi.1), (15, .bool (xi.1 == 10))] (by kernel_rfl) ?_
        refine Ok.nil ?_
        refine Ok.thenN ?_
        refine Ok.cond (b := (xi.1 == 10)) rfl (fun hc19 => ?_) (fun hc19 => ?_)
        ·replace hF := hF.1 hc19
         refine Ok.skip ?_
         refine Ok.thenN ?_
         refine Ok.reval 15 rfl (show (.bool (xi.1 == 10) : Value) = .bool (movV0 xi) from congrArg (Value.bool) ((Eq.trans ((Eq.trans ((Eq.trans (hc19) (mor_t hc19))) (mor_f hc18))) (mor_f hc17)))) ?_
         exact fun a W hA hW => ⟨hA.sub (by kernel_rfl), hW, hF⟩
        ·replace hF := hF.2 hc19
         refine Ok.seq ?_
         refine Ok.region ?_
         refine Ok.batch 2 [(2, .pointer (some ⟨bs2, 0, none⟩)), (3, .pointer (some ⟨bs3, 0, none⟩)), (7, .int .i64 xi.1), (15, .bool (xi.1 == 18))] (by kernel_rfl) ?_
         refine Ok.nil ?_
         refine Ok.thenN ?_
         refine Ok.cond (b := (xi.1 == 18)) rfl (fun hc20 => ?_) (fun hc20 => ?_)
         ·replace hF := hF.1 hc20
          refine Ok.skip ?_
          refine Ok.thenN ?_
          refine Ok.reval 15 rfl (show (.bool (xi.1 == 18) : Value) = .bool (movV0 xi) from congrArg (Value.bool) ((Eq.trans ((Eq.trans ((Eq.trans ((Eq.trans (hc20) (mor_t hc20))) (mor_f hc19))) (mor_f hc18))) (mor_f hc17)))) ?_
          exact fun a W hA hW => ⟨hA.sub (by kernel_rfl), hW, hF⟩
         ·replace hF := hF.2 hc20
          refine Ok.region ?_
          refine Ok.batch 2 [(2, .pointer (some ⟨bs2, 0, none⟩)), (3, .pointer (some ⟨bs3, 0, none⟩)), (7, .int .i64 xi.1), (15, .bool (xi.1 == 19))] (by kernel_rfl) ?_
          refine Ok.nil ?_
          refine Ok.thenN ?_
          refine Ok.reval 15 rfl (show (.bool (xi.1 == 19) : Value) = .bool (movV0 xi) from congrArg (Value.bool) ((Eq.trans ((Eq.trans ((Eq.trans (mor_f hc20) (mor_f hc19))) (mor_f hc18))) (mor_f hc17)))) ?_
          exact fun a W hA hW => ⟨hA.sub (by kernel_rfl), hW, hF⟩
     ·
      clear hF
      rintro a W ⟨hA, hW, hF⟩
      refine (?_ : Ok _ _ _ _ _ _) a W hA hW
      clear hA hW
      refine Ok.cond (b := (movV0 xi)) rfl (fun hc5 => ?_) (fun hc5 => ?_)
      ·replace hF := hF.1 hc5
       refine Ok.seq ?_
       refine Ok.region ?_
       refine Ok.batch 2 [(4, .int .i64 1), (5, .int .i64 0)] (by kernel_rfl) ?_
       refine Ok.nil ?_
       refine Ok.thenN ?_
       refine Ok.ret ?_
       refine Ok.blockR ?_
       refine Ok.thenR ?_
       exact Ok.resP (vs := [.int .i64 1, .int .i64 0]) [] [] (by decide) rfl (.inl rfl) rfl (.cons (.tmp rfl) (.cons (.tmp rfl) .nil)) (Gext.refl w0 g) ⟨1, 0, rfl, rfl, hF⟩
      ·replace hF := hF.2 hc5
       refine Ok.cut (fun a W => StA 49 [(2, .pointer (some ⟨bs2, 0, none⟩)), (3, .pointer (some ⟨bs3, 0, none⟩)), (7, .int .i64 xi.1), (21, .bool ((xi.1 == 8) || (xi.1 == 14)))] a ∧ StW w0 [.blk bs3 (.cells #[.slice axp_0 xp.1.length cxp_0, .slice axp_1 xp.2.1.length cxp_1, .slice axp_2 xp.2.2.length cxp_2] 26), .blk bs2 (.cells #[.int .i64 xi.1, .int .i64 xi.2] 46)] g W ∧ movj53 xi xp K) ?_ ?_
       ·
        refine Ok.seq ?_
        refine Ok.region ?_
        refine Ok.batch 2 [(2, .pointer (some ⟨bs2, 0, none⟩)), (3, .pointer (some ⟨bs3, 0, none⟩)), (7, .int .i64 xi.1), (21, .bool (xi.1 == 8))] (by kernel_rfl) ?_
        refine Ok.nil ?_
        refine Ok.thenN ?_
        refine Ok.cond (b := (xi.1 == 8)) rfl (fun hc16 => ?_) (fun hc16 => ?_)
        ·replace hF := hF.1 hc16
         refine Ok.skip ?_
         refine Ok.thenN ?_
         refine Ok.reval 21 rfl (show (.bool (xi.1 == 8) : Value) = .bool ((xi.1 == 8) || (xi.1 == 14)) from congrArg (Value.bool) ((Eq.trans (hc16) (mor_t hc16)))) ?_
         exact fun a W hA hW => ⟨hA.sub (by kernel_rfl), hW, hF⟩
        ·replace hF := hF.2 hc16
         refine Ok.region ?_
         refine Ok.batch 2 [(2, .pointer (some ⟨bs2, 0, none⟩)), (3, .pointer (some ⟨bs3, 0, none⟩)), (7, .int .i64 xi.1), (21, .bool (xi.1 == 14))] (by kernel_rfl) ?_
         refine Ok.nil ?_
         refine Ok.thenN ?_
         refine Ok.reval 21 rfl (show (.bool (xi.1 == 14) : Value) = .bool ((xi.1 == 8) || (xi.1 == 14)) from congrArg (Value.bool) (mor_f hc16)) ?_
         exact fun a W hA hW => ⟨hA.sub (by kernel_rfl), hW, hF⟩
       ·
        clear hF
        rintro a W ⟨hA, hW, hF⟩
        refine (?_ : Ok _ _ _ _ _ _) a W hA hW
        clear hA hW
        refine Ok.cond (b := ((xi.1 == 8) || (xi.1 == 14))) rfl (fun hc6 => ?_) (fun hc6 => ?_)
        ·replace hF := hF.1 hc6
         refine Ok.seq ?_
         refine Ok.region ?_
         refine Ok.batch 2 [(4, .int .i64 2), (5, .int .i64 1)] (by kernel_rfl) ?_
         refine Ok.nil ?_
         refine Ok.thenN ?_
         refine Ok.ret ?_
         refine Ok.blockR ?_
         refine Ok.thenR ?_
         exact Ok.resP (vs := [.int .i64 2, .int .i64 1]) [] [] (by decide) rfl (.inl rfl) rfl (.cons (.tmp rfl) (.cons (.tmp rfl) .nil)) (Gext.refl w0 g) ⟨2, 1, rfl, rfl, hF⟩
        ·replace hF := hF.2 hc6
         refine Ok.cut (fun a W => StA 49 [(2, .pointer (some ⟨bs2, 0, none⟩)), (3, .pointer (some ⟨bs3, 0, none⟩)), (7, .int .i64 xi.1), (24, .bool ((xi.1 == 11) || (xi.1 == 23)))] a ∧ StW w0 [.blk bs3 (.cells #[.slice axp_0 xp.1.length cxp_0, .slice axp_1 xp.2.1.length cxp_1, .slice axp_2 xp.2.2.length cxp_2] 26), .blk bs2 (.cells #[.int .i64 xi.1, .int .i64 xi.2] 46)] g W ∧ movj63 xi xp K) ?_ ?_
         ·
          refine Ok.seq ?_
          refine Ok.region ?_
          refine Ok.batch 2 [(2, .pointer (some ⟨bs2, 0, none⟩)), (3, .pointer (some ⟨bs3, 0, none⟩)), (7, .int .i64 xi.1), (24, .bool (xi.1 == 11))] (by kernel_rfl) ?_
          refine Ok.nil ?_
          refine Ok.thenN ?_
          refine Ok.cond (b := (xi.1 == 11)) rfl (fun hc15 => ?_) (fun hc15 => ?_)
          ·replace hF := hF.1 hc15
           refine Ok.skip ?_
           refine Ok.thenN ?_
           refine Ok.reval 24 rfl (show (.bool (xi.1 == 11) : Value) = .bool ((xi.1 == 11) || (xi.1 == 23)) from congrArg (Value.bool) ((Eq.trans (hc15) (mor_t hc15)))) ?_
           exact fun a W hA hW => ⟨hA.sub (by kernel_rfl), hW, hF⟩
          ·replace hF := hF.2 hc15
           refine Ok.region ?_
           refine Ok.batch 2 [(2, .pointer (some ⟨bs2, 0, none⟩)), (3, .pointer (some ⟨bs3, 0, none⟩)), (7, .int .i64 xi.1), (24, .bool (xi.1 == 23))] (by kernel_rfl) ?_
           refine Ok.nil ?_
           refine Ok.thenN ?_
           refine Ok.reval 24 rfl (show (.bool (xi.1 == 23) : Value) = .bool ((xi.1 == 11) || (xi.1 == 23)) from congrArg (Value.bool) (mor_f hc15)) ?_
           exact fun a W hA hW => ⟨hA.sub (by kernel_rfl), hW, hF⟩
         ·
          clear hF
          rintro a W ⟨hA, hW, hF⟩
          refine (?_ : Ok _ _ _ _ _ _) a W hA hW
          clear hA hW
          refine Ok.cond (b := ((xi.1 == 11) || (xi.1 == 23))) rfl (fun hc7 => ?_) (fun hc7 => ?_)
          ·replace hF := hF.1 hc7
           refine Ok.seq ?_
           refine Ok.region ?_
           refine Ok.batch 2 [(4, .int .i64 1), (5, .int .i64 2)] (by kernel_rfl) ?_
           refine Ok.nil ?_
           refine Ok.thenN ?_
           refine Ok.ret ?_
           refine Ok.blockR ?_
           refine Ok.thenR ?_
           exact Ok.resP (vs := [.int .i64 1, .int .i64 2]) [] [] (by decide) rfl (.inl rfl) rfl (.cons (.tmp rfl) (.cons (.tmp rfl) .nil)) (Gext.refl w0 g) ⟨1, 2, rfl, rfl, hF⟩
          ·replace hF := hF.2 hc7
           refine Ok.seq ?_
           refine Ok.region ?_
           refine Ok.batch 2 [(2, .pointer (some ⟨bs2, 0, none⟩)), (3, .pointer (some ⟨bs3, 0, none⟩)), (7, .int .i64 xi.1), (27, .bool (xi.1 == 12))] (by kernel_rfl) ?_
           refine Ok.nil ?_
           refine Ok.thenN ?_
           refine Ok.cond (b := (xi.1 == 12)) rfl (fun hc8 => ?_) (fun hc8 => ?_)
           ·replace hF := hF.1 hc8
            refine Ok.seq ?_
            refine Ok.region ?_
            refine Ok.batch 1 [(29, .pointer (some ⟨bs2, 1, none⟩))] (by kernel_rfl) ?_
            refine Ok.op rfl (OpOk.step (v := .int .i64 xi.2) (Yields.load 1 rfl rfl Tryd.underlying3 rfl (by kernel_rfl)) rfl rfl ?_)
            refine Ok.batch 2 [(4, .int .i64 xi.2), (5, .int .i64 1)] (by kernel_rfl) ?_
            refine Ok.nil ?_
            refine Ok.thenN ?_
            refine Ok.ret ?_
            refine Ok.blockR ?_
            refine Ok.thenR ?_
            exact Ok.resP (vs := [.int .i64 xi.2, .int .i64 1]) [] [] (by decide) rfl (.inl rfl) rfl (.cons (.tmp rfl) (.cons (.tmp rfl) .nil)) (Gext.refl w0 g) ⟨xi.2, 1, rfl, rfl, hF⟩
           ·replace hF := hF.2 hc8
            refine Ok.seq ?_
            refine Ok.region ?_
            refine Ok.batch 2 [(2, .pointer (some ⟨bs2, 0, none⟩)), (3, .pointer (some ⟨bs3, 0, none⟩)), (7, .int .i64 xi.1), (31, .bool (xi.1 == 13))] (by kernel_rfl) ?_
            refine Ok.nil ?_
            refine Ok.thenN ?_
            refine Ok.cond (b := (xi.1 == 13)) rfl (fun hc9 => ?_) (fun hc9 => ?_)
            ·replace hF := hF.1 hc9
             refine Ok.seq ?_
             refine Ok.region ?_
             refine Ok.batch 1 [(2, .pointer (some ⟨bs2, 0, none⟩)), (33, .pointer (some ⟨bs3, 2, none⟩))] (by kernel_rfl) ?_
             refine Ok.op rfl (OpOk.step (v := .slice axp_2 xp.2.2.length cxp_2) (Yields.load 0 rfl rfl Tryd.underlying24 rfl (by kernel_rfl)) rfl rfl ?_)
             refine Ok.batch 1 [(34, .slice axp_2 xp.2.2.length cxp_2), (35, .pointer (some ⟨bs2, 1, none⟩))] (by kernel_rfl) ?_
             refine Ok.op rfl (OpOk.step (v := .int .i64 xi.2) (Yields.load 1 rfl rfl Tryd.underlying3 rfl (by kernel_rfl)) rfl rfl ?_)
             obtain ⟨h011, h111, hF⟩ := hF
             have he11 := get_of (l := xp.2.2) (default : List (List UInt8)) h111
             generalize hg11 : (xp.2.2.getD (Int.toNat xi.2) default) = e11 at he11 hF ⊢
             refine Ok.op rfl (OpOk.indexRo (e := .slice (.str)) (i := xi.2) (el := e11) rfl rfl Tryd.underlying24 (by kernel_rfl) hRxp_2 h011 he11 rfl fun q10 o10 cs10 _ hat10 hr10 => ?_)
             obtain ⟨a10_0, c10_0, rfl, hm10_0, hr10_0⟩ := hr10
             have hR10_0 : Rep g (.slice (.str)) [.slice a10_0 e11.length c10_0] e11 := ⟨a10_0, c10_0, rfl, hm10_0, hr10_0⟩
             replace hat10 : At g q10 o10 [.slice a10_0 e11.length c10_0] := hat10
             refine Ok.op rfl (OpOk.step (v := .slice a10_0 e11.length c10_0) (Yields.loadRo 0 hat10 (by kernel_rfl) Tryd.underlying64 rfl (by kernel_rfl)) rfl rfl ?_)
             refine Ok.batch 3 [(4, .int .i64 (e11.length : Int)), (5, .int .i64 1)] (by kernel_rfl) ?_
             refine Ok.nil ?_
             refine Ok.thenN ?_
             refine Ok.ret ?_
             refine Ok.blockR ?_
             refine Ok.thenR ?_
             exact Ok.resP (vs := [.int .i64 (e11.length : Int), .int .i64 1]) [] [] (by decide) rfl (.inl rfl) rfl (.cons (.tmp rfl) (.cons (.tmp rfl) .nil)) (Gext.refl w0 g) ⟨(e11.length : Int), 1, rfl, rfl, hF⟩
            ·replace hF := hF.2 hc9
             refine Ok.seq ?_
             refine Ok.region ?_
             refine Ok.batch 2 [(2, .pointer (some ⟨bs2, 0, none⟩)), (7, .int .i64 xi.1), (40, .bool (xi.1 == 15))] (by kernel_rfl) ?_
             refine Ok.nil ?_
             refine Ok.thenN ?_
             refine Ok.cond (b := (xi.1 == 15)) rfl (fun hc12 => ?_) (fun hc12 => ?_)
             ·replace hF := hF.1 hc12
              refine Ok.seq ?_
              refine Ok.region ?_
              refine Ok.batch 2 [(4, .int .i64 3), (5, .int .i64 1)] (by kernel_rfl) ?_
              refine Ok.nil ?_
              refine Ok.thenN ?_
              refine Ok.ret ?_
              refine Ok.blockR ?_
              refine Ok.thenR ?_
              exact Ok.resP (vs := [.int .i64 3, .int .i64 1]) [] [] (by decide) rfl (.inl rfl) rfl (.cons (.tmp rfl) (.cons (.tmp rfl) .nil)) (Gext.refl w0 g) ⟨3, 1, rfl, rfl, hF⟩
             ·replace hF := hF.2 hc12
              refine Ok.seq ?_
              refine Ok.region ?_
              refine Ok.batch 2 [(2, .pointer (some ⟨bs2, 0, none⟩)), (7, .int .i64 xi.1), (42, .bool (xi.1 == 17))] (by kernel_rfl) ?_
              refine Ok.nil ?_
              refine Ok.thenN ?_
              refine Ok.cond (b := (xi.1 == 17)) rfl (fun hc13 => ?_) (fun hc13 => ?_)
              ·replace hF := hF.1 hc13
               refine Ok.seq ?_
               refine Ok.region ?_
               refine Ok.batch 1 [(44, .pointer (some ⟨bs2, 1, none⟩))] (by kernel_rfl) ?_
               refine Ok.op rfl (OpOk.step (v := .int .i64 xi.2) (Yields.load 1 rfl rfl Tryd.underlying3 rfl (by kernel_rfl)) rfl rfl ?_)
               refine Ok.batch 3 [(4, .int .i64 (w6 (xi.2 + 1))), (5, .int .i64 1)] (by kernel_rfl) ?_
               refine Ok.nil ?_
               refine Ok.thenN ?_
               refine Ok.ret ?_
               refine Ok.blockR ?_
               refine Ok.thenR ?_
               exact Ok.resP (vs := [.int .i64 (w6 (xi.2 + 1)), .int .i64 1]) [] [] (by decide) rfl (.inl rfl) rfl (.cons (.tmp rfl) (.cons (.tmp rfl) .nil)) (Gext.refl w0 g) ⟨(w6 (xi.2 + 1)), 1, rfl, rfl, hF⟩
              ·replace hF := hF.2 hc13
               refine Ok.seq ?_
               refine Ok.region ?_
               refine Ok.batch 2 [(47, .bool (xi.1 == 24))] (by kernel_rfl) ?_
               refine Ok.nil ?_
               refine Ok.thenN ?_
               refine Ok.cond (b := (xi.1 == 24)) rfl (fun hc14 => ?_) (fun hc14 => ?_)
               ·replace hF := hF.1 hc14
                refine Ok.seq ?_
                refine Ok.region ?_
                refine Ok.batch 2 [(4, .int .i64 2), (5, .int .i64 3)] (by kernel_rfl) ?_
                refine Ok.nil ?_
                refine Ok.thenN ?_
                refine Ok.ret ?_
                refine Ok.blockR ?_
                refine Ok.thenR ?_
                exact Ok.resP (vs := [.int .i64 2, .int .i64 3]) [] [] (by decide) rfl (.inl rfl) rfl (.cons (.tmp rfl) (.cons (.tmp rfl) .nil)) (Gext.refl w0 g) ⟨2, 3, rfl, rfl, hF⟩
               ·replace hF := hF.2 hc14
                refine Ok.skip ?_
                refine Ok.blockN ?_
                refine Ok.thenN ?_
                refine Ok.seq ?_
                refine Ok.region ?_
                refine Ok.batch 2 [(4, .int .i64 0), (5, .int .i64 0)] (by kernel_rfl) ?_
                refine Ok.nil ?_
                refine Ok.thenN ?_
                refine Ok.ret ?_
                exact Ok.resP (vs := [.int .i64 0, .int .i64 0]) [] [] (by decide) rfl (.inl rfl) rfl (.cons (.tmp rfl) (.cons (.tmp rfl) .nil)) (Gext.refl w0 g) ⟨0, 0, rfl, rfl, hF⟩
theorem both {p : Prop} {c : Bool} (h : p) : (c = true → p) ∧ (c = false → p) := ⟨fun _ => h, fun _ => h⟩
def ndsS (i : Int × Int) (p : JP) : Int := if ndsV0 i = true then 1 else if ((i.1 == 8) || ((i.1 == 14) || (i.1 == 24))) = true then 2 else if (i.1 == 15) = true then 3 else if (i.1 == 12) = true then i.2 else if (i.1 == 13) = true then ((p.2.2.getD (Int.toNat i.2) default).length : Int) else if (i.1 == 17) = true then w6 (i.2 + 1) else 0
theorem nds_F (i : Int × Int) (p : JP) (hp : ndsP i p) : ndsF i p (fun r => r = ndsS i p) := by
 have h45 : ndsV0 i = false → ndsj45 i p (fun r => r = ndsS i p) := fun h0 => by
  unfold ndsS
  rw [h0]
  simp only [Bool.false_eq_true, if_false]
  refine ⟨fun h => by rw [if_pos h], fun h => ⟨fun h1 => by rw [h, h1]; rfl, fun h1 => ⟨fun h2 => by rw [h, h1, h2]; rfl, fun h2 => ⟨fun h3 => ?_, fun h3 => ⟨fun h4 => by rw [h, h1, h2, h3, h4]; rfl, fun h4 => by rw [h, h1, h2, h3, h4]; rfl⟩⟩⟩⟩⟩
  obtain ⟨q1, q2⟩ := hp h3
  exact ⟨q1, q2, by rw [h, h1, h2, h3]; rfl⟩
 have h7 : ndsj7 i p (fun r => r = ndsS i p) := by
  refine ⟨fun h => by unfold ndsS; rw [if_pos h], fun h => ?_⟩
  repeat' (first | exact h45 h | refine ⟨fun _ => ?_, fun _ => ?_⟩)
 unfold ndsF
 repeat' (first | exact h7 | refine ⟨fun _ => ?_, fun _ => ?_⟩)
set_option linter.unusedVariables false in
theorem nds_c {g : Ghost} (xi : Int × Int) {axp_0 : Option Addr} {cxp_0 : Nat} {axp_1 : Option Addr} {cxp_1 : Nat} {axp_2 : Option Addr} {cxp_2 : Nat} (xp : (List (Int × Int × List (Int) × List (Int × Int))) × (List (Int × Int × List UInt8)) × List (List (List UInt8))) (hRxp_0 : Rep g (.slice (.pair (.int .i64) (.pair (.int .i64) (.pair (.slice (.int .i64)) (.slice (.pair (.int .i64) (.int .i64))))))) [.slice axp_0 xp.1.length cxp_0] xp.1) (hRxp_1 : Rep g (.slice (.pair (.int .i64) (.pair (.int .i64) (.str)))) [.slice axp_1 xp.2.1.length cxp_1] xp.2.1) (hRxp_2 : Rep g (.slice (.slice (.str))) [.slice axp_2 xp.2.2.length cxp_2] xp.2.2)  (hp : ndsP xi xp) : CallsG Tryd.prog 16 #[.agg #[.int .i64 xi.1, .int .i64 xi.2], .agg #[.slice axp_0 xp.1.length cxp_0, .slice axp_1 xp.2.1.length cxp_1, .slice axp_2 xp.2.2.length cxp_2]] g (.int .i64 (ndsS xi xp)) :=
 (nds_ok xi xp hRxp_0 hRxp_1 hRxp_2 _ (nds_F xi xp hp)).gives (by rintro g' H' v _ ⟨r0, rfl, rfl, hK⟩; subst hK; rfl)
def effS (d a : Int) (p : JP) : Int := if effV0 d = true then 1 else if effV1 d = true then -1 else if (d == 15) = true then -2 else if (d == 12) = true then w6 (1 - a) else if (d == 13) = true then w6 (1 - ((p.2.2.getD (Int.toNat a) default).length : Int)) else if (d == 17) = true then w6 (0 - a) else 0
theorem eff_F (d a : Int) (p : JP) (hp : effP d a p) : effF d a p (fun r => r = effS d a p) := by
 have h33 : effV0 d = false → effj33 d a p (fun r => r = effS d a p) := fun h0 => by
  unfold effS
  rw [h0]
  simp only [Bool.false_eq_true, if_false]
  refine ⟨fun h => by rw [if_pos h], fun h => ⟨fun h1 => by rw [h, h1]; rfl, fun h1 => ⟨fun h2 => by rw [h, h1, h2]; rfl, fun h2 => ⟨fun h3 => ?_, fun h3 => ⟨fun h4 => by rw [h, h1, h2, h3, h4]; rfl, fun h4 => by rw [h, h1, h2, h3, h4]; rfl⟩⟩⟩⟩⟩
  obtain ⟨q1, q2⟩ := hp h3
  exact ⟨q1, q2, by rw [h, h1, h2, h3]; rfl⟩
 have h7 : effj7 d a p (fun r => r = effS d a p) := by
  refine ⟨fun h => by unfold effS; rw [if_pos h], fun h => ?_⟩
  repeat' (first | exact h33 h | refine ⟨fun _ => ?_, fun _ => ?_⟩)
 unfold effF
 repeat' (first | exact h7 | refine ⟨fun _ => ?_, fun _ => ?_⟩)
set_option linter.unusedVariables false in
theorem eff_c {g : Ghost} (xdo : Int) (xa : Int) {axp_0 : Option Addr} {cxp_0 : Nat} {axp_1 : Option Addr} {cxp_1 : Nat} {axp_2 : Option Addr} {cxp_2 : Nat} (xp : (List (Int × Int × List (Int) × List (Int × Int))) × (List (Int × Int × List UInt8)) × List (List (List UInt8))) (hRxp_0 : Rep g (.slice (.pair (.int .i64) (.pair (.int .i64) (.pair (.slice (.int .i64)) (.slice (.pair (.int .i64) (.int .i64))))))) [.slice axp_0 xp.1.length cxp_0] xp.1) (hRxp_1 : Rep g (.slice (.pair (.int .i64) (.pair (.int .i64) (.str)))) [.slice axp_1 xp.2.1.length cxp_1] xp.2.1) (hRxp_2 : Rep g (.slice (.slice (.str))) [.slice axp_2 xp.2.2.length cxp_2] xp.2.2)  (hp : effP xdo xa xp) : CallsG Tryd.prog 17 #[.int .i64 xdo, .int .i64 xa, .agg #[.slice axp_0 xp.1.length cxp_0, .slice axp_1 xp.2.1.length cxp_1, .slice axp_2 xp.2.2.length cxp_2]] g (.int .i64 (effS xdo xa xp)) :=
 (eff_ok xdo xa xp hRxp_0 hRxp_1 hRxp_2 _ (eff_F xdo xa xp hp)).gives (by rintro g' H' v _ ⟨r0, rfl, rfl, hK⟩; subst hK; rfl)
def movT (i : Int × Int) (p : JP) : Int × Int := if ((i.1 == 11) || (i.1 == 23)) = true then (1, 2) else if (i.1 == 12) = true then (i.2, 1) else if (i.1 == 13) = true then (((p.2.2.getD (Int.toNat i.2) default).length : Int), 1) else if (i.1 == 15) = true then (3, 1) else if (i.1 == 17) = true then (w6 (i.2 + 1), 1) else if (i.1 == 24) = true then (2, 3) else (0, 0)
def movU (i : Int × Int) (p : JP) : Int × Int := if ((i.1 == 8) || (i.1 == 14)) = true then (2, 1) else movT i p
def movW (i : Int × Int) (p : JP) : Int × Int := if movV0 i = true then (1, 0) else movU i p
def movX (i : Int × Int) (p : JP) : Int × Int := if ((i.1 == 3) || (i.1 == 7)) = true then (1, 1) else movW i p
def movS (i : Int × Int) (p : JP) : Int × Int := if ((i.1 == 1) || ((i.1 == 2) || (i.1 == 16))) = true then (0, 1) else movX i p
theorem mov_F (i : Int × Int) (p : JP) (hp : movP i p) : movF i p (fun a b => (a, b) = movS i p) := by
 have h63 : movj63 i p (fun a b => (a, b) = movT i p) := by
  unfold movT
  refine ⟨fun h => by rw [if_pos h], fun h => ⟨fun h1 => by rw [h, h1]; rfl, fun h1 => ⟨fun h3 => ?_, fun h2 => ⟨fun h3 => by rw [h, h1, h2, h3]; rfl, fun h3 => ⟨fun h4 => by rw [h, h1, h2, h3, h4]; rfl, fun h4 => ⟨fun h5 => by rw [h, h1, h2, h3, h4, h5]; rfl, fun h5 => by rw [h, h1, h2, h3, h4, h5]; rfl⟩⟩⟩⟩⟩⟩
  obtain ⟨q1, q2⟩ := hp h3
  exact ⟨q1, q2, by rw [h, h1, h3]; rfl⟩
 have h53 : movj53 i p (fun a b => (a, b) = movU i p) := by
  unfold movU
  refine ⟨fun h => by rw [if_pos h], fun h => ?_⟩
  rw [h]
  simp only [Bool.false_eq_true, if_false]
  repeat' (first | exact h63 | refine ⟨fun _ => ?_, fun _ => ?_⟩)
 have h31 : movj31 i p (fun a b => (a, b) = movW i p) := by
  unfold movW
  refine ⟨fun h => by rw [if_pos h], fun h => ?_⟩
  rw [h]
  simp only [Bool.false_eq_true, if_false]
  repeat' (first | exact h53 | refine ⟨fun _ => ?_, fun _ => ?_⟩)
 have h21 : movj21 i p (fun a b => (a, b) = movX i p) := by
  unfold movX
  refine ⟨fun h => by rw [if_pos h], fun h => ?_⟩
  rw [h]
  simp only [Bool.false_eq_true, if_false]
  repeat' (first | exact h31 | refine ⟨fun _ => ?_, fun _ => ?_⟩)
 have h7 : movj7 i p (fun a b => (a, b) = movS i p) := by
  unfold movS
  refine ⟨fun h => by rw [if_pos h], fun h => ?_⟩
  rw [h]
  simp only [Bool.false_eq_true, if_false]
  repeat' (first | exact h21 | refine ⟨fun _ => ?_, fun _ => ?_⟩)
 unfold movF
 repeat' (first | exact h7 | refine ⟨fun _ => ?_, fun _ => ?_⟩)
set_option linter.unusedVariables false in
theorem mov_c {g : Ghost} (xi : Int × Int) {axp_0 : Option Addr} {cxp_0 : Nat} {axp_1 : Option Addr} {cxp_1 : Nat} {axp_2 : Option Addr} {cxp_2 : Nat} (xp : (List (Int × Int × List (Int) × List (Int × Int))) × (List (Int × Int × List UInt8)) × List (List (List UInt8))) (hRxp_0 : Rep g (.slice (.pair (.int .i64) (.pair (.int .i64) (.pair (.slice (.int .i64)) (.slice (.pair (.int .i64) (.int .i64))))))) [.slice axp_0 xp.1.length cxp_0] xp.1) (hRxp_1 : Rep g (.slice (.pair (.int .i64) (.pair (.int .i64) (.str)))) [.slice axp_1 xp.2.1.length cxp_1] xp.2.1) (hRxp_2 : Rep g (.slice (.slice (.str))) [.slice axp_2 xp.2.2.length cxp_2] xp.2.2)  (hp : movP xi xp) : CallsG Tryd.prog 12 #[.agg #[.int .i64 xi.1, .int .i64 xi.2], .agg #[.slice axp_0 xp.1.length cxp_0, .slice axp_1 xp.2.1.length cxp_1, .slice axp_2 xp.2.2.length cxp_2]] g (.tuple #[.int .i64 (movS xi xp).1, .int .i64 (movS xi xp).2]) :=
 (mov_ok xi xp hRxp_0 hRxp_1 hRxp_2 _ (mov_F xi xp hp)).gives (by rintro g' H' v _ ⟨r0, r1, rfl, rfl, hK⟩; obtain ⟨rfl, rfl⟩ : r0 = (movS xi xp).1 ∧ r1 = (movS xi xp).2 := ⟨congrArg (fun z => z.1) hK, congrArg (fun z => z.2) hK⟩; rfl)
end
end Go.Proofs.YtanhbfhpnjjgcaaDoor.Cc
