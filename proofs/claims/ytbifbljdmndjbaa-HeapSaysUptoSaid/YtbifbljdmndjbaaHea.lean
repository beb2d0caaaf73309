/- Heaps: the program. -/
import Derived.Test.YtbifbljdmndjbaaSto
import Derived.Test.YtbifbljdmndjbaaMor
import Derived.Test.YtbifbljdmndjbaaCuo
import Derived.Test.YtbifbljdmndjbaaTnl
import Derived.Test.YtbifbljdmndjbaaFrk
import Derived.Test.YtbifbljdmndjbaaPl
import Derived.Test.YtbifbljdmndjbaaProg
namespace Go.Proofs.Ytbifbljdmndjbaa.Hp
open Go Go.Eng Go.RowKit
set_option linter.unusedVariables false
abbrev JV := Int × Int × List UInt8
abbrev JC := Int × (List (List UInt8)) × List (JV)
theorem mem_getD {α : Type} {l : List α} {i : Nat} (d : α) (h : i < l.length) : l.getD i d ∈ l := by
 rw [List.getD_eq_getElem?_getD, List.getElem?_eq_getElem h, Option.getD_some]; exact List.getElem_mem h
def hrefF (xv : JV) (K : Int → Prop) : Prop :=
 (((xv.1 == 4)) = true → K xv.2.1) ∧ (((xv.1 == 4)) = false → K (-1))
set_option maxHeartbeats 4000000 in
set_option maxRecDepth 100000 in
set_option linter.unusedVariables false in
theorem href_ok {g : Ghost} (xv : JV) (K : Int → Prop)
  (hF : hrefF xv K) : CallsH Try.prog 85 #[.agg #[.int .i64 xv.1, .int .i64 xv.2.1, .string ⟨⟨xv.2.2⟩⟩]] g [] (fun g' H' v => ∃ (r0 : Int), v = .int .i64 r0 ∧ H' = [] ∧ K r0) := by
 refine CallsH.enter 8 [(0, .agg #[.int .i64 xv.1, .int .i64 xv.2.1, .string ⟨⟨xv.2.2⟩⟩])] Try.func85 rfl (by kernel_rfl) (by kernel_rfl) (by kernel_rfl) fun w0 => ?_
 refine Ok.seq ?_
 refine Ok.region ?_
 refine Ok.op rfl (OpOk.box (v := .agg #[.int .i64 xv.1, .int .i64 xv.2.1, .string ⟨⟨xv.2.2⟩⟩]) (cs := #[.int .i64 xv.1, .int .i64 xv.2.1, .string ⟨⟨xv.2.2⟩⟩]) rfl (by kernel_rfl) rfl fun b1 => ?_)
 refine Ok.batch 1 [(1, .pointer (some ⟨b1, 0, none⟩))] (by kernel_rfl) ?_
 refine Ok.nil ?_
 refine Ok.thenN ?_
 refine Ok.seq ?_
 refine Ok.seq ?_
 refine Ok.region ?_
 refine Ok.batch 1 [(1, .pointer (some ⟨b1, 0, none⟩)), (3, .pointer (some ⟨b1, 0, none⟩))] (by kernel_rfl) ?_
 refine Ok.op rfl (OpOk.step (v := .int .i64 xv.1) (Yields.load 0 rfl rfl Try.underlying3 rfl (by kernel_rfl)) rfl rfl ?_)
 refine Ok.batch 1 [(1, .pointer (some ⟨b1, 0, none⟩)), (5, .bool (xv.1 == 4))] (by kernel_rfl) ?_
 refine Ok.nil ?_
 refine Ok.thenN ?_
 refine Ok.cond (b := (xv.1 == 4)) rfl (fun hc2 => ?_) (fun hc2 => ?_)
 ·replace hF := hF.1 hc2
  refine Ok.seq ?_
  refine Ok.region ?_
  refine Ok.batch 1 [(6, .pointer (some ⟨b1, 1, none⟩))] (by kernel_rfl) ?_
  refine Ok.op rfl (OpOk.step (v := .int .i64 xv.2.1) (Yields.load 0 rfl rfl Try.underlying3 rfl (by kernel_rfl)) rfl rfl ?_)
  refine Ok.batch 1 [(2, .int .i64 xv.2.1)] (by kernel_rfl) ?_
  refine Ok.nil ?_
  refine Ok.thenN ?_
  refine Ok.ret ?_
  refine Ok.thenR ?_
  exact Ok.resP (vs := [.int .i64 xv.2.1]) [] [] (by decide) rfl (.inl rfl) rfl (.cons (.tmp rfl) .nil) (Gext.refl w0 g) ⟨xv.2.1, rfl, rfl, hF⟩
 ·replace hF := hF.2 hc2
  refine Ok.skip ?_
  refine Ok.thenN ?_
  refine Ok.seq ?_
  refine Ok.region ?_
  refine Ok.batch 1 [(2, .int .i64 (-1))] (by kernel_rfl) ?_
  refine Ok.nil ?_
  refine Ok.thenN ?_
  refine Ok.ret ?_
  exact Ok.resP (vs := [.int .i64 (-1)]) [] [] (by decide) rfl (.inl rfl) rfl (.cons (.tmp rfl) .nil) (Gext.refl w0 g) ⟨(-1), rfl, rfl, hF⟩
def hrefM (xv : Int × Int × List UInt8) : Int := (if (xv.1 == 4) = true then xv.2.1 else (-1))
set_option linter.unusedSimpArgs false in
set_option linter.unusedVariables false in
theorem hrefF_A (xv : Int × Int × List UInt8) (P : Int → Prop) (h : P (hrefM xv)) : hrefF xv (fun k0 => P k0) := by
 unfold hrefM at h
 unfold hrefF
 refine ⟨fun hc0 => ?_, fun hc0 => ?_⟩
 ·rw [if_t hc0] at h
  have hd0 := hc0; try simp only [Bool.and_eq_true, Bool.or_eq_true, Bool.and_eq_false_iff, Bool.or_eq_false_iff, Bool.not_eq_true', Bool.not_eq_false', decide_eq_true_eq, decide_eq_false_iff_not, beq_iff_eq, beq_eq_false_iff_ne, ne_eq] at hd0
  exact h
 ·rw [if_f hc0] at h
  have hd0 := hc0; try simp only [Bool.and_eq_true, Bool.or_eq_true, Bool.and_eq_false_iff, Bool.or_eq_false_iff, Bool.not_eq_true', Bool.not_eq_false', decide_eq_true_eq, decide_eq_false_iff_not, beq_iff_eq, beq_eq_false_iff_ne, ne_eq] at hd0
  exact h
theorem href_F (xv : Int × Int × List UInt8) : hrefF xv (fun k0 => k0 = hrefM xv) :=
 hrefF_A xv (fun z => z = hrefM xv) rfl
set_option linter.unusedVariables false in
theorem href_c {g : Ghost} (xv : Int × Int × List UInt8)  : CallsG Try.prog 85 #[.agg #[.int .i64 xv.1, .int .i64 xv.2.1, .string ⟨⟨xv.2.2⟩⟩]] g (.int .i64 (hrefM xv)) :=
 (href_ok xv _ (href_F xv)).gives (by rintro g' H' v _ ⟨r0, rfl, rfl, hK⟩; subst hK; rfl)
def vwiF (xn : Int) (xlow : Int) (xhigh : Int) (K : Bool → Prop) : Prop :=
 K ((decide (xn ≥ xlow)) && (decide (xn ≤ xhigh)))
set_option maxHeartbeats 4000000 in
set_option maxRecDepth 100000 in
set_option linter.unusedVariables false in
theorem vwi_ok {g : Ghost} (xn : Int) (xlow : Int) (xhigh : Int) (K : Bool → Prop)
  (hF : vwiF xn xlow xhigh K) : CallsH Try.prog 108 #[.int .i64 xn, .int .i64 xlow, .int .i64 xhigh] g [] (fun g' H' v => ∃ (r0 : Bool), v = .bool r0 ∧ H' = [] ∧ K r0) := by
 refine CallsH.enter 15 [(0, .int .i64 xn), (1, .int .i64 xlow), (2, .int .i64 xhigh)] Try.func108 rfl (by kernel_rfl) (by kernel_rfl) (by kernel_rfl) fun w0 => ?_
 refine Ok.seq ?_
 refine Ok.region ?_
 refine Ok.batch 1 [(0, .int .i64 xn), (1, .int .i64 xlow), (2, .int .i64 xhigh)] (by kernel_rfl) ?_
 refine Ok.nil ?_
 refine Ok.thenN ?_
 refine Ok.seq ?_
 refine Ok.region ?_
 refine Ok.batch 4 [(0, .int .i64 xn), (2, .int .i64 xhigh), (10, .bool (decide (xn ≥ xlow)))] (by kernel_rfl) ?_
 refine Ok.midway 4 [(14, .bool ((decide (xn ≥ xlow)) && (decide (xn ≤ xhigh))))] (fun hR1 => ?_) ?_
 ·refine Ok.boolAt 10 (decide (xn ≥ xlow)) rfl (fun hc2 => ?_) (fun hc2 => ?_)
  ·skip
   refine Ok.batch 4 [(14, .bool (decide (xn ≤ xhigh)))] (by kernel_rfl) ?_
   refine Ok.reval 14 rfl (show (.bool (decide (xn ≤ xhigh)) : Value) = .bool ((decide (xn ≥ xlow)) && (decide (xn ≤ xhigh))) from congrArg Value.bool (mand_t hc2)) ?_
   refine Ok.batch 0 [(14, .bool ((decide (xn ≥ xlow)) && (decide (xn ≤ xhigh))))] (by kernel_rfl) ?_
   exact hR1
  ·skip
   refine Ok.batch 4 [(14, .bool false)] (by kernel_rfl) ?_
   refine Ok.reval 14 rfl (show (.bool false : Value) = .bool ((decide (xn ≥ xlow)) && (decide (xn ≤ xhigh))) from congrArg Value.bool (mand_f hc2)) ?_
   refine Ok.batch 0 [(14, .bool ((decide (xn ≥ xlow)) && (decide (xn ≤ xhigh))))] (by kernel_rfl) ?_
   exact hR1
 refine Ok.batch 1 [(6, .bool ((decide (xn ≥ xlow)) && (decide (xn ≤ xhigh))))] (by kernel_rfl) ?_
 refine Ok.nil ?_
 refine Ok.thenN ?_
 refine Ok.ret ?_
 exact Ok.resH (vs := [.bool ((decide (xn ≥ xlow)) && (decide (xn ≤ xhigh)))]) (.inl rfl) rfl (.cons (.tmp rfl) .nil) (Gext.refl w0 g) ⟨((decide (xn ≥ xlow)) && (decide (xn ≤ xhigh))), rfl, rfl, hF⟩
def vwiM (xn : Int) (xlow : Int) (xhigh : Int) : Bool := ((decide (xn ≥ xlow)) && (decide (xn ≤ xhigh)))
set_option linter.unusedSimpArgs false in
set_option linter.unusedVariables false in
theorem vwiF_A (xn : Int) (xlow : Int) (xhigh : Int) (P : Bool → Prop) (h : P (vwiM xn xlow xhigh)) : vwiF xn xlow xhigh (fun k0 => P k0) := by
 unfold vwiM at h
 unfold vwiF
 exact h
theorem vwi_F (xn : Int) (xlow : Int) (xhigh : Int) : vwiF xn xlow xhigh (fun k0 => k0 = vwiM xn xlow xhigh) :=
 vwiF_A xn xlow xhigh (fun z => z = vwiM xn xlow xhigh) rfl
set_option linter.unusedVariables false in
theorem vwi_c {g : Ghost} (xn : Int) (xlow : Int) (xhigh : Int)  : CallsG Try.prog 108 #[.int .i64 xn, .int .i64 xlow, .int .i64 xhigh] g (.bool (vwiM xn xlow xhigh)) :=
 (vwi_ok xn xlow xhigh _ (vwi_F xn xlow xhigh)).gives (by rintro g' H' v _ ⟨r0, rfl, rfl, hK⟩; subst hK; rfl)
def vchkV0 (xv : JV) : Bool :=
 ((vwiM xv.2.1 (-9007199254740992) 9007199254740992) && (xv.2.2 == ([] : List UInt8)))
def vchkj10 (xv : JV) (K : Bool → Prop) : Prop :=
 K ((xv.2.1 == 0) && (xv.2.2 == ([] : List UInt8)))
def vchkj16 (xv : JV) (K : Bool → Prop) : Prop :=
 K ((vwiM xv.2.1 0 1) && (xv.2.2 == ([] : List UInt8)))
def vchkj22 (xv : JV) (K : Bool → Prop) : Prop :=
 K (vchkV0 xv)
def vchkj28 (xv : JV) (K : Bool → Prop) : Prop :=
 K ((decide ((xv.2.2.length : Int) ≤ 2000)) && (xv.2.1 == 0))
def vchkj34 (xv : JV) (K : Bool → Prop) : Prop :=
 K ((decide (xv.2.1 ≥ 0)) && (xv.2.2 == ([] : List UInt8)))
def vchkF (xv : JV) (K : Bool → Prop) : Prop :=
 (((xv.1 == 0)) = true → (((xv.2.1 == 0)) = true → vchkj10 xv K) ∧ (((xv.2.1 == 0)) = false → vchkj10 xv K)) ∧ (((xv.1 == 0)) = false → (((xv.1 == 1)) = true → (((vwiM xv.2.1 0 1)) = true → vchkj16 xv K) ∧ (((vwiM xv.2.1 0 1)) = false → vchkj16 xv K)) ∧ (((xv.1 == 1)) = false → (((xv.1 == 2)) = true → (((vwiM xv.2.1 (-9007199254740992) 9007199254740992)) = true → vchkj22 xv K) ∧ (((vwiM xv.2.1 (-9007199254740992) 9007199254740992)) = false → vchkj22 xv K)) ∧ (((xv.1 == 2)) = false → (((xv.1 == 3)) = true → ((decide ((xv.2.2.length : Int) ≤ 2000)) = true → vchkj28 xv K) ∧ ((decide ((xv.2.2.length : Int) ≤ 2000)) = false → vchkj28 xv K)) ∧ (((xv.1 == 3)) = false → (((xv.1 == 4)) = true → ((decide (xv.2.1 ≥ 0)) = true → vchkj34 xv K) ∧ ((decide (xv.2.1 ≥ 0)) = false → vchkj34 xv K)) ∧ (((xv.1 == 4)) = false → (((xv.1 == 5)) = true → K (xv.2.1 == 0)) ∧ (((xv.1 == 5)) = false → K false))))))
set_option maxHeartbeats 4000000 in
set_option maxRecDepth 100000 in
set_option linter.unusedVariables false in
theorem vchk_ok {g : Ghost} (xv : JV) (K : Bool → Prop)
  (hF : vchkF xv K) : CallsH Try.prog 93 #[.agg #[.int .i64 xv.1, .int .i64 xv.2.1, .string ⟨⟨xv.2.2⟩⟩]] g [] (fun g' H' v => ∃ (r0 : Bool), v = .bool r0 ∧ H' = [] ∧ K r0) := by
 refine CallsH.enter 61 [(0, .agg #[.int .i64 xv.1, .int .i64 xv.2.1, .string ⟨⟨xv.2.2⟩⟩])] Try.func93 rfl (by kernel_rfl) (by kernel_rfl) (by kernel_rfl) fun w0 => ?_
 refine Ok.seq ?_
 refine Ok.region ?_
 refine Ok.op rfl (OpOk.box (v := .agg #[.int .i64 xv.1, .int .i64 xv.2.1, .string ⟨⟨xv.2.2⟩⟩]) (cs := #[.int .i64 xv.1, .int .i64 xv.2.1, .string ⟨⟨xv.2.2⟩⟩]) rfl (by kernel_rfl) rfl fun b1 => ?_)
 refine Ok.batch 1 [(1, .pointer (some ⟨b1, 0, none⟩))] (by kernel_rfl) ?_
 refine Ok.nil ?_
 refine Ok.thenN ?_
 refine Ok.seq ?_
 refine Ok.seq ?_
 refine Ok.region ?_
 refine Ok.batch 1 [(1, .pointer (some ⟨b1, 0, none⟩)), (3, .pointer (some ⟨b1, 0, none⟩))] (by kernel_rfl) ?_
 refine Ok.op rfl (OpOk.step (v := .int .i64 xv.1) (Yields.load 0 rfl rfl Try.underlying3 rfl (by kernel_rfl)) rfl rfl ?_)
 refine Ok.nil ?_
 refine Ok.thenN ?_
 refine Ok.block ?_
 refine Ok.seq ?_
 refine Ok.region ?_
 refine Ok.batch 2 [(1, .pointer (some ⟨b1, 0, none⟩)), (4, .int .i64 xv.1), (5, .bool (xv.1 == 0))] (by kernel_rfl) ?_
 refine Ok.nil ?_
 refine Ok.thenN ?_
 refine Ok.cond (b := (xv.1 == 0)) rfl (fun hc2 => ?_) (fun hc2 => ?_)
 ·replace hF := hF.1 hc2
  refine Ok.cut (fun a W => StA 61 [(2, .bool ((xv.2.1 == 0) && (xv.2.2 == ([] : List UInt8))))] a ∧ StW w0 [] g W ∧ vchkj10 xv K) ?_ ?_
  ·
   refine Ok.region ?_
   refine Ok.batch 1 [(1, .pointer (some ⟨b1, 0, none⟩)), (7, .pointer (some ⟨b1, 1, none⟩))] (by kernel_rfl) ?_
   refine Ok.op rfl (OpOk.step (v := .int .i64 xv.2.1) (Yields.load 0 rfl rfl Try.underlying3 rfl (by kernel_rfl)) rfl rfl ?_)
   refine Ok.batch 2 [(1, .pointer (some ⟨b1, 0, none⟩)), (10, .bool (xv.2.1 == 0))] (by kernel_rfl) ?_
   refine Ok.boolAt 10 ((xv.2.1 == 0)) rfl (fun hc3 => ?_) (fun hc3 => ?_)
   ·replace hF := hF.1 hc3
    refine Ok.batch 1 [(10, .bool true), (11, .pointer (some ⟨b1, 2, none⟩))] (by kernel_rfl) ?_
    refine Ok.opYes (j := 3) (d := 10) (want := true) (b := true) rfl (by kernel_rfl) (by kernel_rfl) rfl (OpOk.step (v := .string ⟨⟨xv.2.2⟩⟩) (Yields.load 0 rfl rfl Try.underlying9 rfl (by kernel_rfl)) rfl rfl ?_)
    refine Ok.opYes (j := 3) (d := 10) (want := true) (b := true) rfl (by kernel_rfl) (by kernel_rfl) rfl (OpOk.step (v := .bool (xv.2.2 == ([] : List UInt8))) (Yields.strCmp (f := .eql) (a := xv.2.2) (b := ([] : List UInt8)) (by kernel_rfl) (by kernel_rfl) rfl) rfl rfl ?_)
    refine Ok.batch 2 [(2, .bool (xv.2.2 == ([] : List UInt8)))] (by kernel_rfl) ?_
    refine Ok.nil ?_
    refine Ok.thenN ?_
    refine Ok.reval 2 rfl (show (.bool (xv.2.2 == ([] : List UInt8)) : Value) = .bool ((xv.2.1 == 0) && (xv.2.2 == ([] : List UInt8))) from congrArg (Value.bool) (mand_t hc3)) ?_
    exact fun a W hA hW => ⟨hA.sub (by kernel_rfl), hW.sub (.cons _ .slnil), hF⟩
   ·replace hF := hF.2 hc3
    refine Ok.batch 5 [(2, .bool false)] (by kernel_rfl) ?_
    refine Ok.nil ?_
    refine Ok.thenN ?_
    refine Ok.reval 2 rfl (show (.bool false : Value) = .bool ((xv.2.1 == 0) && (xv.2.2 == ([] : List UInt8))) from congrArg (Value.bool) (mand_f hc3)) ?_
    exact fun a W hA hW => ⟨hA.sub (by kernel_rfl), hW.sub (.cons _ .slnil), hF⟩
  ·
   clear hF
   rintro a W ⟨hA, hW, hF⟩
   refine (?_ : Ok _ _ _ _ _ _) a W hA hW
   clear hA hW
   refine Ok.ret ?_
   refine Ok.blockR ?_
   refine Ok.thenR ?_
   exact Ok.resH (vs := [.bool ((xv.2.1 == 0) && (xv.2.2 == ([] : List UInt8)))]) (.inl rfl) rfl (.cons (.tmp rfl) .nil) (Gext.refl w0 g) ⟨((xv.2.1 == 0) && (xv.2.2 == ([] : List UInt8))), rfl, rfl, hF⟩
 ·replace hF := hF.2 hc2
  refine Ok.seq ?_
  refine Ok.region ?_
  refine Ok.batch 2 [(1, .pointer (some ⟨b1, 0, none⟩)), (4, .int .i64 xv.1), (15, .bool (xv.1 == 1))] (by kernel_rfl) ?_
  refine Ok.nil ?_
  refine Ok.thenN ?_
  refine Ok.cond (b := (xv.1 == 1)) rfl (fun hc4 => ?_) (fun hc4 => ?_)
  ·replace hF := hF.1 hc4
   refine Ok.cut (fun a W => StA 61 [(2, .bool ((vwiM xv.2.1 0 1) && (xv.2.2 == ([] : List UInt8))))] a ∧ StW w0 [] g W ∧ vchkj16 xv K) ?_ ?_
   ·
    refine Ok.region ?_
    refine Ok.batch 1 [(1, .pointer (some ⟨b1, 0, none⟩)), (17, .pointer (some ⟨b1, 1, none⟩))] (by kernel_rfl) ?_
    refine Ok.op rfl (OpOk.step (v := .int .i64 xv.2.1) (Yields.load 0 rfl rfl Try.underlying3 rfl (by kernel_rfl)) rfl rfl ?_)
    refine Ok.op rfl (OpOk.callG (v := .bool (vwiM xv.2.1 0 1)) (enters (by kernel_rfl) (fun _ => by kernel_rfl)) (fun W hW => vwi_c xv.2.1 0 1) rfl ?_)
    refine Ok.batch 1 [(1, .pointer (some ⟨b1, 0, none⟩)), (20, .bool (vwiM xv.2.1 0 1))] (by kernel_rfl) ?_
    refine Ok.boolAt 20 ((vwiM xv.2.1 0 1)) rfl (fun hc5 => ?_) (fun hc5 => ?_)
    ·replace hF := hF.1 hc5
     refine Ok.batch 1 [(20, .bool true), (21, .pointer (some ⟨b1, 2, none⟩))] (by kernel_rfl) ?_
     refine Ok.opYes (j := 3) (d := 20) (want := true) (b := true) rfl (by kernel_rfl) (by kernel_rfl) rfl (OpOk.step (v := .string ⟨⟨xv.2.2⟩⟩) (Yields.load 0 rfl rfl Try.underlying9 rfl (by kernel_rfl)) rfl rfl ?_)
     refine Ok.opYes (j := 3) (d := 20) (want := true) (b := true) rfl (by kernel_rfl) (by kernel_rfl) rfl (OpOk.step (v := .bool (xv.2.2 == ([] : List UInt8))) (Yields.strCmp (f := .eql) (a := xv.2.2) (b := ([] : List UInt8)) (by kernel_rfl) (by kernel_rfl) rfl) rfl rfl ?_)
     refine Ok.batch 2 [(2, .bool (xv.2.2 == ([] : List UInt8)))] (by kernel_rfl) ?_
     refine Ok.nil ?_
     refine Ok.thenN ?_
     refine Ok.reval 2 rfl (show (.bool (xv.2.2 == ([] : List UInt8)) : Value) = .bool ((vwiM xv.2.1 0 1) && (xv.2.2 == ([] : List UInt8))) from congrArg (Value.bool) (mand_t hc5)) ?_
     exact fun a W hA hW => ⟨hA.sub (by kernel_rfl), hW.sub (.cons _ .slnil), hF⟩
    ·replace hF := hF.2 hc5
     refine Ok.batch 5 [(2, .bool false)] (by kernel_rfl) ?_
     refine Ok.nil ?_
     refine Ok.thenN ?_
     refine Ok.reval 2 rfl (show (.bool false : Value) = .bool ((vwiM xv.2.1 0 1) && (xv.2.2 == ([] : List UInt8))) from congrArg (Value.bool) (mand_f hc5)) ?_
     exact fun a W hA hW => ⟨hA.sub (by kernel_rfl), hW.sub (.cons _ .slnil), hF⟩
   ·
    clear hF
    rintro a W ⟨hA, hW, hF⟩
    refine (?_ : Ok _ _ _ _ _ _) a W hA hW
    clear hA hW
    refine Ok.ret ?_
    refine Ok.blockR ?_
    refine Ok.thenR ?_
    exact Ok.resH (vs := [.bool ((vwiM xv.2.1 0 1) && (xv.2.2 == ([] : List UInt8)))]) (.inl rfl) rfl (.cons (.tmp rfl) .nil) (Gext.refl w0 g) ⟨((vwiM xv.2.1 0 1) && (xv.2.2 == ([] : List UInt8))), rfl, rfl, hF⟩
  ·replace hF := hF.2 hc4
   refine Ok.seq ?_
   refine Ok.region ?_
   refine Ok.batch 2 [(1, .pointer (some ⟨b1, 0, none⟩)), (4, .int .i64 xv.1), (25, .bool (xv.1 == 2))] (by kernel_rfl) ?_
   refine Ok.nil ?_
   refine Ok.thenN ?_
   refine Ok.cond (b := (xv.1 == 2)) rfl (fun hc6 => ?_) (fun hc6 => ?_)
   ·replace hF := hF.1 hc6
    refine Ok.cut (fun a W => StA 61 [(2, .bool (vchkV0 xv))] a ∧ StW w0 [] g W ∧ vchkj22 xv K) ?_ ?_
    ·
     refine Ok.region ?_
     refine Ok.batch 1 [(1, .pointer (some ⟨b1, 0, none⟩)), (27, .pointer (some ⟨b1, 1, none⟩))] (by kernel_rfl) ?_
     refine Ok.op rfl (OpOk.step (v := .int .i64 xv.2.1) (Yields.load 0 rfl rfl Try.underlying3 rfl (by kernel_rfl)) rfl rfl ?_)
     refine Ok.op rfl (OpOk.callG (v := .bool (vwiM xv.2.1 (-9007199254740992) 9007199254740992)) (enters (by kernel_rfl) (fun _ => by kernel_rfl)) (fun W hW => vwi_c xv.2.1 (-9007199254740992) 9007199254740992) rfl ?_)
     refine Ok.batch 1 [(1, .pointer (some ⟨b1, 0, none⟩)), (30, .bool (vwiM xv.2.1 (-9007199254740992) 9007199254740992))] (by kernel_rfl) ?_
     refine Ok.boolAt 30 ((vwiM xv.2.1 (-9007199254740992) 9007199254740992)) rfl (fun hc7 => ?_) (fun hc7 => ?_)
     ·replace hF := hF.1 hc7
      refine Ok.batch 1 [(30, .bool true), (31, .pointer (some ⟨b1, 2, none⟩))] (by kernel_rfl) ?_
      refine Ok.opYes (j := 3) (d := 30) (want := true) (b := true) rfl (by kernel_rfl) (by kernel_rfl) rfl (OpOk.step (v := .string ⟨⟨xv.2.2⟩⟩) (Yields.load 0 rfl rfl Try.underlying9 rfl (by kernel_rfl)) rfl rfl ?_)
      refine Ok.opYes (j := 3) (d := 30) (want := true) (b := true) rfl (by kernel_rfl) (by kernel_rfl) rfl (OpOk.step (v := .bool (xv.2.2 == ([] : List UInt8))) (Yields.strCmp (f := .eql) (a := xv.2.2) (b := ([] : List UInt8)) (by kernel_rfl) (by kernel_rfl) rfl) rfl rfl ?_)
      refine Ok.batch 2 [(2, .bool (xv.2.2 == ([] : List UInt8)))] (by kernel_rfl) ?_
      refine Ok.nil ?_
      refine Ok.thenN ?_
      refine Ok.reval 2 rfl (show (.bool (xv.2.2 == ([] : List UInt8)) : Value) = .bool (vchkV0 xv) from congrArg (Value.bool) (mand_t hc7)) ?_
      exact fun a W hA hW => ⟨hA.sub (by kernel_rfl), hW.sub (.cons _ .slnil), hF⟩
     ·replace hF := hF.2 hc7
      refine Ok.batch 5 [(2, .bool false)] (by kernel_rfl) ?_
      refine Ok.nil ?_
      refine Ok.thenN ?_
      refine Ok.reval 2 rfl (show (.bool false : Value) = .bool (vchkV0 xv) from congrArg (Value.bool) (mand_f hc7)) ?_
      exact fun a W hA hW => ⟨hA.sub (by kernel_rfl), hW.sub (.cons _ .slnil), hF⟩
    ·
     clear hF
     rintro a W ⟨hA, hW, hF⟩
     refine (?_ : Ok _ _ _ _ _ _) a W hA hW
     clear hA hW
     refine Ok.ret ?_
     refine Ok.blockR ?_
     refine Ok.thenR ?_
     exact Ok.resH (vs := [.bool (vchkV0 xv)]) (.inl rfl) rfl (.cons (.tmp rfl) .nil) (Gext.refl w0 g) ⟨(vchkV0 xv), rfl, rfl, hF⟩
   ·replace hF := hF.2 hc6
    refine Ok.seq ?_
    refine Ok.region ?_
    refine Ok.batch 2 [(1, .pointer (some ⟨b1, 0, none⟩)), (4, .int .i64 xv.1), (35, .bool (xv.1 == 3))] (by kernel_rfl) ?_
    refine Ok.nil ?_
    refine Ok.thenN ?_
    refine Ok.cond (b := (xv.1 == 3)) rfl (fun hc8 => ?_) (fun hc8 => ?_)
    ·replace hF := hF.1 hc8
     refine Ok.cut (fun a W => StA 61 [(2, .bool ((decide ((xv.2.2.length : Int) ≤ 2000)) && (xv.2.1 == 0)))] a ∧ StW w0 [] g W ∧ vchkj28 xv K) ?_ ?_
     ·
      refine Ok.region ?_
      refine Ok.batch 1 [(1, .pointer (some ⟨b1, 0, none⟩)), (37, .pointer (some ⟨b1, 2, none⟩))] (by kernel_rfl) ?_
      refine Ok.op rfl (OpOk.step (v := .string ⟨⟨xv.2.2⟩⟩) (Yields.load 0 rfl rfl Try.underlying9 rfl (by kernel_rfl)) rfl rfl ?_)
      refine Ok.batch 3 [(1, .pointer (some ⟨b1, 0, none⟩)), (41, .bool (decide ((xv.2.2.length : Int) ≤ 2000)))] (by kernel_rfl) ?_
      refine Ok.boolAt 41 (decide ((xv.2.2.length : Int) ≤ 2000)) rfl (fun hc9 => ?_) (fun hc9 => ?_)
      ·replace hF := hF.1 hc9
       refine Ok.batch 1 [(41, .bool true), (42, .pointer (some ⟨b1, 1, none⟩))] (by kernel_rfl) ?_
       refine Ok.opYes (j := 4) (d := 41) (want := true) (b := true) rfl (by kernel_rfl) (by kernel_rfl) rfl (OpOk.step (v := .int .i64 xv.2.1) (Yields.load 0 rfl rfl Try.underlying3 rfl (by kernel_rfl)) rfl rfl ?_)
       refine Ok.batch 3 [(2, .bool (xv.2.1 == 0))] (by kernel_rfl) ?_
       refine Ok.nil ?_
       refine Ok.thenN ?_
       refine Ok.reval 2 rfl (show (.bool (xv.2.1 == 0) : Value) = .bool ((decide ((xv.2.2.length : Int) ≤ 2000)) && (xv.2.1 == 0)) from congrArg (Value.bool) (mand_t hc9)) ?_
       exact fun a W hA hW => ⟨hA.sub (by kernel_rfl), hW.sub (.cons _ .slnil), hF⟩
      ·replace hF := hF.2 hc9
       refine Ok.batch 5 [(2, .bool false)] (by kernel_rfl) ?_
       refine Ok.nil ?_
       refine Ok.thenN ?_
       refine Ok.reval 2 rfl (show (.bool false : Value) = .bool ((decide ((xv.2.2.length : Int) ≤ 2000)) && (xv.2.1 == 0)) from congrArg (Value.bool) (mand_f hc9)) ?_
       exact fun a W hA hW => ⟨hA.sub (by kernel_rfl), hW.sub (.cons _ .slnil), hF⟩
     ·
      clear hF
      rintro a W ⟨hA, hW, hF⟩
      refine (?_ : Ok _ _ _ _ _ _) a W hA hW
      clear hA hW
      refine Ok.ret ?_
      refine Ok.blockR ?_
      refine Ok.thenR ?_
      exact Ok.resH (vs := [.bool ((decide ((xv.2.2.length : Int) ≤ 2000)) && (xv.2.1 == 0))]) (.inl rfl) rfl (.cons (.tmp rfl) .nil) (Gext.refl w0 g) ⟨((decide ((xv.2.2.length : Int) ≤ 2000)) && (xv.2.1 == 0)), rfl, rfl, hF⟩
    ·replace hF := hF.2 hc8
     refine Ok.seq ?_
     refine Ok.region ?_
     refine Ok.batch 2 [(1, .pointer (some ⟨b1, 0, none⟩)), (4, .int .i64 xv.1), (46, .bool (xv.1 == 4))] (by kernel_rfl) ?_
     refine Ok.nil ?_
     refine Ok.thenN ?_
     refine Ok.cond (b := (xv.1 == 4)) rfl (fun hc10 => ?_) (fun hc10 => ?_)
     ·replace hF := hF.1 hc10
      refine Ok.cut (fun a W => StA 61 [(2, .bool ((decide (xv.2.1 ≥ 0)) && (xv.2.2 == ([] : List UInt8))))] a ∧ StW w0 [] g W ∧ vchkj34 xv K) ?_ ?_
      ·
       refine Ok.region ?_
       refine Ok.batch 1 [(1, .pointer (some ⟨b1, 0, none⟩)), (48, .pointer (some ⟨b1, 1, none⟩))] (by kernel_rfl) ?_
       refine Ok.op rfl (OpOk.step (v := .int .i64 xv.2.1) (Yields.load 0 rfl rfl Try.underlying3 rfl (by kernel_rfl)) rfl rfl ?_)
       refine Ok.batch 2 [(1, .pointer (some ⟨b1, 0, none⟩)), (51, .bool (decide (xv.2.1 ≥ 0)))] (by kernel_rfl) ?_
       refine Ok.boolAt 51 (decide (xv.2.1 ≥ 0)) rfl (fun hc11 => ?_) (fun hc11 => ?_)
       ·replace hF := hF.1 hc11
        refine Ok.batch 1 [(51, .bool true), (52, .pointer (some ⟨b1, 2, none⟩))] (by kernel_rfl) ?_
        refine Ok.opYes (j := 3) (d := 51) (want := true) (b := true) rfl (by kernel_rfl) (by kernel_rfl) rfl (OpOk.step (v := .string ⟨⟨xv.2.2⟩⟩) (Yields.load 0 rfl rfl Try.underlying9 rfl (by kernel_rfl)) rfl rfl ?_)
        refine Ok.opYes (j := 3) (d := 51) (want := true) (b := true) rfl (by kernel_rfl) (by kernel_rfl) rfl (OpOk.step (v := .bool (xv.2.2 == ([] : List UInt8))) (Yields.strCmp (f := .eql) (a := xv.2.2) (b := ([] : List UInt8)) (by kernel_rfl) (by kernel_rfl) rfl) rfl rfl ?_)
        refine Ok.batch 2 [(2, .bool (xv.2.2 == ([] : List UInt8)))] (by kernel_rfl) ?_
        refine Ok.nil ?_
        refine Ok.thenN ?_
        refine Ok.reval 2 rfl (show (.bool (xv.2.2 == ([] : List UInt8)) : Value) = .bool ((decide (xv.2.1 ≥ 0)) && (xv.2.2 == ([] : List UInt8))) from congrArg (Value.bool) (mand_t hc11)) ?_
        exact fun a W hA hW => ⟨hA.sub (by kernel_rfl), hW.sub (.cons _ .slnil), hF⟩
       ·replace hF := hF.2 hc11
        refine Ok.batch 5 [(2, .bool false)] (by kernel_rfl) ?_
        refine Ok.nil ?_
        refine Ok.thenN ?_
        refine Ok.reval 2 rfl (show (.bool false : Value) = .bool ((decide (xv.2.1 ≥ 0)) && (xv.2.2 == ([] : List UInt8))) from congrArg (Value.bool) (mand_f hc11)) ?_
        exact fun a W hA hW => ⟨hA.sub (by kernel_rfl), hW.sub (.cons _ .slnil), hF⟩
      ·
       clear hF
       rintro a W ⟨hA, hW, hF⟩
       refine (?_ : Ok _ _ _ _ _ _) a W hA hW
       clear hA hW
       refine Ok.ret ?_
       refine Ok.blockR ?_
       refine Ok.thenR ?_
       exact Ok.resH (vs := [.bool ((decide (xv.2.1 ≥ 0)) && (xv.2.2 == ([] : List UInt8)))]) (.inl rfl) rfl (.cons (.tmp rfl) .nil) (Gext.refl w0 g) ⟨((decide (xv.2.1 ≥ 0)) && (xv.2.2 == ([] : List UInt8))), rfl, rfl, hF⟩
     ·replace hF := hF.2 hc10
      refine Ok.seq ?_
      refine Ok.region ?_
      refine Ok.batch 2 [(1, .pointer (some ⟨b1, 0, none⟩)), (56, .bool (xv.1 == 5))] (by kernel_rfl) ?_
      refine Ok.nil ?_
      refine Ok.thenN ?_
      refine Ok.cond (b := (xv.1 == 5)) rfl (fun hc12 => ?_) (fun hc12 => ?_)
      ·replace hF := hF.1 hc12
       refine Ok.seq ?_
       refine Ok.region ?_
       refine Ok.batch 1 [(58, .pointer (some ⟨b1, 1, none⟩))] (by kernel_rfl) ?_
       refine Ok.op rfl (OpOk.step (v := .int .i64 xv.2.1) (Yields.load 0 rfl rfl Try.underlying3 rfl (by kernel_rfl)) rfl rfl ?_)
       refine Ok.batch 2 [(2, .bool (xv.2.1 == 0))] (by kernel_rfl) ?_
       refine Ok.nil ?_
       refine Ok.thenN ?_
       refine Ok.ret ?_
       refine Ok.blockR ?_
       refine Ok.thenR ?_
       exact Ok.resP (vs := [.bool (xv.2.1 == 0)]) [] [] (by decide) rfl (.inl rfl) rfl (.cons (.tmp rfl) .nil) (Gext.refl w0 g) ⟨(xv.2.1 == 0), rfl, rfl, hF⟩
      ·replace hF := hF.2 hc12
       refine Ok.skip ?_
       refine Ok.blockN ?_
       refine Ok.thenN ?_
       refine Ok.seq ?_
       refine Ok.region ?_
       refine Ok.batch 1 [(2, .bool false)] (by kernel_rfl) ?_
       refine Ok.nil ?_
       refine Ok.thenN ?_
       refine Ok.ret ?_
       exact Ok.resP (vs := [.bool false]) [] [] (by decide) rfl (.inl rfl) rfl (.cons (.tmp rfl) .nil) (Gext.refl w0 g) ⟨false, rfl, rfl, hF⟩
def vchkj10M (xv : Int × Int × List UInt8) : Bool := ((xv.2.1 == 0) && (xv.2.2 == ([] : List UInt8)))
set_option linter.unusedSimpArgs false in
set_option linter.unusedVariables false in
theorem vchkj10_A (xv : Int × Int × List UInt8) (P : Bool → Prop) (h : P (vchkj10M xv)) : vchkj10 xv (fun k0 => P k0) := by
 unfold vchkj10M at h
 unfold vchkj10
 exact h
def vchkj16M (xv : Int × Int × List UInt8) : Bool := ((vwiM xv.2.1 0 1) && (xv.2.2 == ([] : List UInt8)))
set_option linter.unusedSimpArgs false in
set_option linter.unusedVariables false in
theorem vchkj16_A (xv : Int × Int × List UInt8) (P : Bool → Prop) (h : P (vchkj16M xv)) : vchkj16 xv (fun k0 => P k0) := by
 unfold vchkj16M at h
 unfold vchkj16
 exact h
def vchkj22M (xv : Int × Int × List UInt8) : Bool := (vchkV0 xv)
set_option linter.unusedSimpArgs false in
set_option linter.unusedVariables false in
theorem vchkj22_A (xv : Int × Int × List UInt8) (P : Bool → Prop) (h : P (vchkj22M xv)) : vchkj22 xv (fun k0 => P k0) := by
 unfold vchkj22M at h
 unfold vchkj22
 exact h
def vchkj28M (xv : Int × Int × List UInt8) : Bool := ((decide ((xv.2.2.length : Int) ≤ 2000)) && (xv.2.1 == 0))
set_option linter.unusedSimpArgs false in
set_option linter.unusedVariables false in
theorem vchkj28_A (xv : Int × Int × List UInt8) (P : Bool → Prop) (h : P (vchkj28M xv)) : vchkj28 xv (fun k0 => P k0) := by
 unfold vchkj28M at h
 unfold vchkj28
 exact h
def vchkj34M (xv : Int × Int × List UInt8) : Bool := ((decide (xv.2.1 ≥ 0)) && (xv.2.2 == ([] : List UInt8)))
set_option linter.unusedSimpArgs false in
set_option linter.unusedVariables false in
theorem vchkj34_A (xv : Int × Int × List UInt8) (P : Bool → Prop) (h : P (vchkj34M xv)) : vchkj34 xv (fun k0 => P k0) := by
 unfold vchkj34M at h
 unfold vchkj34
 exact h
def vchkM (xv : Int × Int × List UInt8) : Bool := (if (xv.1 == 0) = true then (vchkj10M xv) else (if (xv.1 == 1) = true then (vchkj16M xv) else (if (xv.1 == 2) = true then (vchkj22M xv) else (if (xv.1 == 3) = true then (vchkj28M xv) else (if (xv.1 == 4) = true then (vchkj34M xv) else (if (xv.1 == 5) = true then (xv.2.1 == 0) else false))))))
set_option linter.unusedSimpArgs false in
set_option linter.unusedVariables false in
theorem vchkF_A (xv : Int × Int × List UInt8) (P : Bool → Prop) (h : P (vchkM xv)) : vchkF xv (fun k0 => P k0) := by
 unfold vchkM at h
 unfold vchkF
 refine ⟨fun hc0 => ?_, fun hc0 => ?_⟩
 ·rw [if_t hc0] at h
  have hd0 := hc0; try simp only [Bool.and_eq_true, Bool.or_eq_true, Bool.and_eq_false_iff, Bool.or_eq_false_iff, Bool.not_eq_true', Bool.not_eq_false', decide_eq_true_eq, decide_eq_false_iff_not, beq_iff_eq, beq_eq_false_iff_ne, ne_eq] at hd0
  refine ⟨fun hc1 => ?_, fun hc1 => ?_⟩
  ·skip
   have hd1 := hc1; try simp only [Bool.and_eq_true, Bool.or_eq_true, Bool.and_eq_false_iff, Bool.or_eq_false_iff, Bool.not_eq_true', Bool.not_eq_false', decide_eq_true_eq, decide_eq_false_iff_not, beq_iff_eq, beq_eq_false_iff_ne, ne_eq] at hd1
   exact vchkj10_A xv _ h
  ·skip
   have hd1 := hc1; try simp only [Bool.and_eq_true, Bool.or_eq_true, Bool.and_eq_false_iff, Bool.or_eq_false_iff, Bool.not_eq_true', Bool.not_eq_false', decide_eq_true_eq, decide_eq_false_iff_not, beq_iff_eq, beq_eq_false_iff_ne, ne_eq] at hd1
   exact vchkj10_A xv _ h
 ·rw [if_f hc0] at h
  have hd0 := hc0; try simp only [Bool.and_eq_true, Bool.or_eq_true, Bool.and_eq_false_iff, Bool.or_eq_false_iff, Bool.not_eq_true', Bool.not_eq_false', decide_eq_true_eq, decide_eq_false_iff_not, beq_iff_eq, beq_eq_false_iff_ne, ne_eq] at hd0
  refine ⟨fun hc1 => ?_, fun hc1 => ?_⟩
  ·rw [if_t hc1] at h
   have hd1 := hc1; try simp only [Bool.and_eq_true, Bool.or_eq_true, Bool.and_eq_false_iff, Bool.or_eq_false_iff, Bool.not_eq_true', Bool.not_eq_false', decide_eq_true_eq, decide_eq_false_iff_not, beq_iff_eq, beq_eq_false_iff_ne, ne_eq] at hd1
   refine ⟨fun hc2 => ?_, fun hc2 => ?_⟩
   ·skip
    exact vchkj16_A xv _ h
   ·skip
    exact vchkj16_A xv _ h
  ·rw [if_f hc1] at h
   have hd1 := hc1; try simp only [Bool.and_eq_true, Bool.or_eq_true, Bool.and_eq_false_iff, Bool.or_eq_false_iff, Bool.not_eq_true', Bool.not_eq_false', decide_eq_true_eq, decide_eq_false_iff_not, beq_iff_eq, beq_eq_false_iff_ne, ne_eq] at hd1
   refine ⟨fun hc2 => ?_, fun hc2 => ?_⟩
   ·rw [if_t hc2] at h
    have hd2 := hc2; try simp only [Bool.and_eq_true, Bool.or_eq_true, Bool.and_eq_false_iff, Bool.or_eq_false_iff, Bool.not_eq_true', Bool.not_eq_false', decide_eq_true_eq, decide_eq_false_iff_not, beq_iff_eq, beq_eq_false_iff_ne, ne_eq] at hd2
    refine ⟨fun hc3 => ?_, fun hc3 => ?_⟩
    ·skip
     exact vchkj22_A xv _ h
    ·skip
     exact vchkj22_A xv _ h
   ·rw [if_f hc2] at h
    have hd2 := hc2; try simp only [Bool.and_eq_true, Bool.or_eq_true, Bool.and_eq_false_iff, Bool.or_eq_false_iff, Bool.not_eq_true', Bool.not_eq_false', decide_eq_true_eq, decide_eq_false_iff_not, beq_iff_eq, beq_eq_false_iff_ne, ne_eq] at hd2
    refine ⟨fun hc3 => ?_, fun hc3 => ?_⟩
    ·rw [if_t hc3] at h
     have hd3 := hc3; try simp only [Bool.and_eq_true, Bool.or_eq_true, Bool.and_eq_false_iff, Bool.or_eq_false_iff, Bool.not_eq_true', Bool.not_eq_false', decide_eq_true_eq, decide_eq_false_iff_not, beq_iff_eq, beq_eq_false_iff_ne, ne_eq] at hd3
     refine ⟨fun hc4 => ?_, fun hc4 => ?_⟩
     ·skip
      have hd4 := of_decide_eq_true hc4
      exact vchkj28_A xv _ h
     ·skip
      have hd4 := of_decide_eq_false hc4
      exact vchkj28_A xv _ h
    ·rw [if_f hc3] at h
     have hd3 := hc3; try simp only [Bool.and_eq_true, Bool.or_eq_true, Bool.and_eq_false_iff, Bool.or_eq_false_iff, Bool.not_eq_true', Bool.not_eq_false', decide_eq_true_eq, decide_eq_false_iff_not, beq_iff_eq, beq_eq_false_iff_ne, ne_eq] at hd3
     refine ⟨fun hc4 => ?_, fun hc4 => ?_⟩
     ·rw [if_t hc4] at h
      have hd4 := hc4; try simp only [Bool.and_eq_true, Bool.or_eq_true, Bool.and_eq_false_iff, Bool.or_eq_false_iff, Bool.not_eq_true', Bool.not_eq_false', decide_eq_true_eq, decide_eq_false_iff_not, beq_iff_eq, beq_eq_false_iff_ne, ne_eq] at hd4
      refine ⟨fun hc5 => ?_, fun hc5 => ?_⟩
      ·skip
       have hd5 := of_decide_eq_true hc5
       exact vchkj34_A xv _ h
      ·skip
       have hd5 := of_decide_eq_false hc5
       exact vchkj34_A xv _ h
     ·rw [if_f hc4] at h
      have hd4 := hc4; try simp only [Bool.and_eq_true, Bool.or_eq_true, Bool.and_eq_false_iff, Bool.or_eq_false_iff, Bool.not_eq_true', Bool.not_eq_false', decide_eq_true_eq, decide_eq_false_iff_not, beq_iff_eq, beq_eq_false_iff_ne, ne_eq] at hd4
      refine ⟨fun hc5 => ?_, fun hc5 => ?_⟩
      ·rw [if_t hc5] at h
       have hd5 := hc5; try simp only [Bool.and_eq_true, Bool.or_eq_true, Bool.and_eq_false_iff, Bool.or_eq_false_iff, Bool.not_eq_true', Bool.not_eq_false', decide_eq_true_eq, decide_eq_false_iff_not, beq_iff_eq, beq_eq_false_iff_ne, ne_eq] at hd5
       exact h
      ·rw [if_f hc5] at h
       have hd5 := hc5; try simp only [Bool.and_eq_true, Bool.or_eq_true, Bool.and_eq_false_iff, Bool.or_eq_false_iff, Bool.not_eq_true', Bool.not_eq_false', decide_eq_true_eq, decide_eq_false_iff_not, beq_iff_eq, beq_eq_false_iff_ne, ne_eq] at hd5
       exact h
theorem vchk_F (xv : Int × Int × List UInt8) : vchkF xv (fun k0 => k0 = vchkM xv) :=
 vchkF_A xv (fun z => z = vchkM xv) rfl
set_option linter.unusedVariables false in
theorem vchk_c {g : Ghost} (xv : Int × Int × List UInt8)  : CallsG Try.prog 93 #[.agg #[.int .i64 xv.1, .int .i64 xv.2.1, .string ⟨⟨xv.2.2⟩⟩]] g (.bool (vchkM xv)) :=
 (vchk_ok xv _ (vchk_F xv)).gives (by rintro g' H' v _ ⟨r0, rfl, rfl, hK⟩; subst hK; rfl)
def hfitV0 (xh : List (Int × List (List UInt8) × List (JV))) (xv : JV) : Bool :=
 ((vchkM xv) && ((decide ((hrefM xv) < 0)) || ((decide ((hrefM xv) < (xh.length : Int))) && ((xh.getD (Int.toNat (hrefM xv)) default).1 != 0))))
def hfitj5 (xh : List (Int × List (List UInt8) × List (JV))) (xv : JV) (K : Bool → Prop) : Prop :=
 K (hfitV0 xh xv)
def hfitF (xh : List (Int × List (List UInt8) × List (JV))) (xv : JV) (K : Bool → Prop) : Prop :=
 (((vchkM xv)) = true → ((decide ((hrefM xv) < 0)) = true → hfitj5 xh xv K) ∧ ((decide ((hrefM xv) < 0)) = false → ((decide ((hrefM xv) < (xh.length : Int))) = true → (0 : Int) ≤ (hrefM xv) ∧ Int.toNat (hrefM xv) < xh.length ∧ hfitj5 xh xv K) ∧ ((decide ((hrefM xv) < (xh.length : Int))) = false → hfitj5 xh xv K))) ∧ (((vchkM xv)) = false → hfitj5 xh xv K)
set_option maxHeartbeats 4000000 in
set_option maxRecDepth 100000 in
set_option linter.unusedVariables false in
theorem hfit_ok {g : Ghost} {axh_0 : Option Addr} {cxh_0 : Nat} (xh : List (Int × List (List UInt8) × List (JV))) (xv : JV) (hRxh_0 : Rep g (.slice (.pair (.int .i64) (.pair (.slice (.str)) (.slice (.pair (.int .i64) (.pair (.int .i64) (.str))))))) [.slice axh_0 xh.length cxh_0] xh) (K : Bool → Prop)
  (hF : hfitF xh xv K) : CallsH Try.prog 80 #[.slice axh_0 xh.length cxh_0, .agg #[.int .i64 xv.1, .int .i64 xv.2.1, .string ⟨⟨xv.2.2⟩⟩]] g [] (fun g' H' v => ∃ (r0 : Bool), v = .bool r0 ∧ H' = [] ∧ K r0) := by
 refine CallsH.enter 28 [(0, .slice axh_0 xh.length cxh_0), (1, .agg #[.int .i64 xv.1, .int .i64 xv.2.1, .string ⟨⟨xv.2.2⟩⟩])] Try.func80 rfl (by kernel_rfl) (by kernel_rfl) (by kernel_rfl) fun w0 => ?_
 refine Ok.seq ?_
 refine Ok.region ?_
 refine Ok.op rfl (OpOk.box (v := .agg #[.int .i64 xv.1, .int .i64 xv.2.1, .string ⟨⟨xv.2.2⟩⟩]) (cs := #[.int .i64 xv.1, .int .i64 xv.2.1, .string ⟨⟨xv.2.2⟩⟩]) rfl (by kernel_rfl) rfl fun b1 => ?_)
 refine Ok.batch 1 [(0, .slice axh_0 xh.length cxh_0), (3, .pointer (some ⟨b1, 0, none⟩))] (by kernel_rfl) ?_
 refine Ok.nil ?_
 refine Ok.thenN ?_
 refine Ok.seq ?_
 refine Ok.region ?_
 refine Ok.op rfl (OpOk.step (v := .agg #[.int .i64 xv.1, .int .i64 xv.2.1, .string ⟨⟨xv.2.2⟩⟩]) (Yields.loadAgg 0 3 #[.int .i64 xv.1, .int .i64 xv.2.1, .string ⟨⟨xv.2.2⟩⟩] rfl rfl Try.underlying24 rfl (by kernel_rfl) (by kernel_rfl) (by kernel_rfl)) rfl rfl ?_)
 refine Ok.op rfl (OpOk.callG (v := .int .i64 (hrefM xv)) (enters (by kernel_rfl) (fun _ => by kernel_rfl)) (fun W hW => href_c xv) rfl ?_)
 refine Ok.batch 1 [(0, .slice axh_0 xh.length cxh_0), (3, .pointer (some ⟨b1, 0, none⟩)), (5, .int .i64 (hrefM xv))] (by kernel_rfl) ?_
 refine Ok.nil ?_
 refine Ok.thenN ?_
 refine Ok.cut (fun a W => StA 28 [(4, .bool (hfitV0 xh xv))] a ∧ StW w0 [] g W ∧ hfitj5 xh xv K) ?_ ?_
 ·
  refine Ok.region ?_
  refine Ok.op rfl (OpOk.step (v := .agg #[.int .i64 xv.1, .int .i64 xv.2.1, .string ⟨⟨xv.2.2⟩⟩]) (Yields.loadAgg 0 3 #[.int .i64 xv.1, .int .i64 xv.2.1, .string ⟨⟨xv.2.2⟩⟩] rfl rfl Try.underlying24 rfl (by kernel_rfl) (by kernel_rfl) (by kernel_rfl)) rfl rfl ?_)
  refine Ok.op rfl (OpOk.callG (v := .bool (vchkM xv)) (enters (by kernel_rfl) (fun _ => by kernel_rfl)) (fun W hW => vchk_c xv) rfl ?_)
  refine Ok.batch 1 [(0, .slice axh_0 xh.length cxh_0), (5, .int .i64 (hrefM xv)), (10, .bool (vchkM xv))] (by kernel_rfl) ?_
  refine Ok.boolAt 10 ((vchkM xv)) rfl (fun hc2 => ?_) (fun hc2 => ?_)
  ·replace hF := hF.1 hc2
   refine Ok.batch 3 [(0, .slice axh_0 xh.length cxh_0), (5, .int .i64 (hrefM xv)), (10, .bool true), (13, .bool (decide ((hrefM xv) < 0)))] (by kernel_rfl) ?_
   refine Ok.boolAt 13 (decide ((hrefM xv) < 0)) rfl (fun hc3 => ?_) (fun hc3 => ?_)
   ·replace hF := hF.1 hc3
    refine Ok.batch 15 [(4, .bool true)] (by kernel_rfl) ?_
    refine Ok.nil ?_
    refine Ok.thenN ?_
    refine Ok.reval 4 rfl (show (.bool true : Value) = .bool (hfitV0 xh xv) from congrArg (Value.bool) ((Eq.trans (mor_t hc3) (mand_t hc2)))) ?_
    exact fun a W hA hW => ⟨hA.sub (by kernel_rfl), hW.sub (.cons _ .slnil), hF⟩
   ·replace hF := hF.2 hc3
    refine Ok.batch 5 [(0, .slice axh_0 xh.length cxh_0), (5, .int .i64 (hrefM xv)), (10, .bool true), (13, .bool false), (18, .bool (decide ((hrefM xv) < (xh.length : Int))))] (by kernel_rfl) ?_
    refine Ok.boolAt 18 (decide ((hrefM xv) < (xh.length : Int))) rfl (fun hc4 => ?_) (fun hc4 => ?_)
    ·replace hF := hF.1 hc4
     refine Ok.batch 2 [(10, .bool true), (13, .bool false), (18, .bool true), (19, .slice axh_0 xh.length cxh_0), (20, .int .i64 (hrefM xv))] (by kernel_rfl) ?_
     obtain ⟨h06, h16, hF⟩ := hF
     have he6 := get_of (l := xh) (default : Int × List (List UInt8) × List (JV)) h16
     generalize hg6 : (xh.getD (Int.toNat (hrefM xv)) default) = e6 at he6 hF ⊢
     refine Ok.opYes (j := 10) (d := 18) (want := true) (b := true) rfl (by kernel_rfl) (by kernel_rfl) rfl (OpOk.indexRo (e := .pair (.int .i64) (.pair (.slice (.str)) (.slice (.pair (.int .i64) (.pair (.int .i64) (.str)))))) (i := (hrefM xv)) (el := e6) rfl rfl Try.underlying22 (by kernel_rfl) hRxh_0 h06 he6 rfl fun q5 o5 cs5 _ hat5 hr5 => ?_)
     obtain ⟨_, _, rfl, rfl, ⟨_, _, rfl, ⟨a5_1, c5_1, rfl, hm5_1, hr5_1⟩, ⟨a5_2, c5_2, rfl, hm5_2, hr5_2⟩⟩⟩ := hr5
     have hR5_1 : Rep g (.slice (.str)) [.slice a5_1 e6.2.1.length c5_1] e6.2.1 := ⟨a5_1, c5_1, rfl, hm5_1, hr5_1⟩
     have hR5_2 : Rep g (.slice (.pair (.int .i64) (.pair (.int .i64) (.str)))) [.slice a5_2 e6.2.2.length c5_2] e6.2.2 := ⟨a5_2, c5_2, rfl, hm5_2, hr5_2⟩
     replace hat5 : At g q5 o5 [.int .i64 e6.1, .slice a5_1 e6.2.1.length c5_1, .slice a5_2 e6.2.2.length c5_2] := hat5
     refine Ok.batch 1 [(10, .bool true), (13, .bool false), (18, .bool true), (22, .pointer (some ⟨q5, o5, none⟩))] (by kernel_rfl) ?_
     refine Ok.opYes (j := 10) (d := 18) (want := true) (b := true) rfl (by kernel_rfl) (by kernel_rfl) rfl (OpOk.step (v := .int .i64 e6.1) (Yields.loadRo 0 hat5 (by kernel_rfl) Try.underlying3 rfl (by kernel_rfl)) rfl rfl ?_)
     refine Ok.batch 5 [(4, .bool (e6.1 != 0))] (by kernel_rfl) ?_
     refine Ok.nil ?_
     refine Ok.thenN ?_
     subst hg6
     refine Ok.reval 4 rfl (show (.bool ((xh.getD (Int.toNat (hrefM xv)) default).1 != 0) : Value) = .bool (hfitV0 xh xv) from congrArg (Value.bool) ((Eq.trans ((Eq.trans (mand_t hc4) (mor_f hc3))) (mand_t hc2)))) ?_
     exact fun a W hA hW => ⟨hA.sub (by kernel_rfl), hW.sub (.cons _ .slnil), hF⟩
    ·replace hF := hF.2 hc4
     refine Ok.batch 10 [(4, .bool false)] (by kernel_rfl) ?_
     refine Ok.nil ?_
     refine Ok.thenN ?_
     refine Ok.reval 4 rfl (show (.bool false : Value) = .bool (hfitV0 xh xv) from congrArg (Value.bool) ((Eq.trans ((Eq.trans (mand_f hc4) (mor_f hc3))) (mand_t hc2)))) ?_
     exact fun a W hA hW => ⟨hA.sub (by kernel_rfl), hW.sub (.cons _ .slnil), hF⟩
  ·replace hF := hF.2 hc2
   refine Ok.batch 18 [(4, .bool false)] (by kernel_rfl) ?_
   refine Ok.nil ?_
   refine Ok.thenN ?_
   refine Ok.reval 4 rfl (show (.bool false : Value) = .bool (hfitV0 xh xv) from congrArg (Value.bool) (mand_f hc2)) ?_
   exact fun a W hA hW => ⟨hA.sub (by kernel_rfl), hW.sub (.cons _ .slnil), hF⟩
 ·
  clear hF
  rintro a W ⟨hA, hW, hF⟩
  refine (?_ : Ok _ _ _ _ _ _) a W hA hW
  clear hA hW
  refine Ok.ret ?_
  exact Ok.resH (vs := [.bool (hfitV0 xh xv)]) (.inl rfl) rfl (.cons (.tmp rfl) .nil) (Gext.refl w0 g) ⟨(hfitV0 xh xv), rfl, rfl, hF⟩
def hfitS (h : List JC) (v : JV) : Bool := hfitV0 h v
theorem hfit_F (h : List JC) (v : JV) : hfitF h v (fun r => r = hfitS h v) := by
 have j : hfitj5 h v (fun r => r = hfitS h v) := rfl
 exact ⟨fun _ => ⟨fun _ => j, fun h1 => ⟨fun h2 => ⟨by have := of_decide_eq_false h1; omega, by have a := of_decide_eq_false h1; have b := of_decide_eq_true h2; omega, j⟩, fun _ => j⟩⟩, fun _ => j⟩
set_option linter.unusedVariables false in
theorem hfit_c {g : Ghost} {axh_0 : Option Addr} {cxh_0 : Nat} (xh : List (Int × List (List UInt8) × List (Int × Int × List UInt8))) (xv : Int × Int × List UInt8) (hRxh_0 : Rep g (.slice (.pair (.int .i64) (.pair (.slice (.str)) (.slice (.pair (.int .i64) (.pair (.int .i64) (.str))))))) [.slice axh_0 xh.length cxh_0] xh)  : CallsG Try.prog 80 #[.slice axh_0 xh.length cxh_0, .agg #[.int .i64 xv.1, .int .i64 xv.2.1, .string ⟨⟨xv.2.2⟩⟩]] g (.bool (hfitS xh xv)) :=
 (hfit_ok xh xv hRxh_0 _ (hfit_F xh xv)).gives (by rintro g' H' v _ ⟨r0, rfl, rfl, hK⟩; subst hK; rfl)
def hrisl7b (xl : List (List UInt8)) (K : Bool → Prop) (x3l7 : Int) (C7 : Int → Prop) : Prop :=
 ((decide (x3l7 < (xl.length : Int))) = true → (0 : Int) ≤ (IntKind.wrap .i64 (x3l7 - 1)) ∧ Int.toNat (IntKind.wrap .i64 (x3l7 - 1)) < xl.length ∧ (0 : Int) ≤ x3l7 ∧ Int.toNat x3l7 < xl.length ∧ ((!(Op.bytesLess (xl.getD (Int.toNat (IntKind.wrap .i64 (x3l7 - 1))) default) (xl.getD (Int.toNat x3l7) default))) = true → K false) ∧ ((!(Op.bytesLess (xl.getD (Int.toNat (IntKind.wrap .i64 (x3l7 - 1))) default) (xl.getD (Int.toNat x3l7) default))) = false → C7 (IntKind.wrap .i64 (x3l7 + 1)))) ∧ ((decide (x3l7 < (xl.length : Int))) = false → K true)
def hrisl7 (xl : List (List UInt8)) (K : Bool → Prop) : Nat → Int → Prop
 | 0, _ => False
 | k + 1, x3l7 => hrisl7b xl K x3l7 (hrisl7 xl K k)
def hrisF (xl : List (List UInt8)) (K : Bool → Prop) : Prop :=
 ∃ k, hrisl7 xl K k 1
set_option maxHeartbeats 4000000 in
set_option maxRecDepth 100000 in
set_option linter.unusedVariables false in
theorem hris_ok {g : Ghost} {axl_0 : Option Addr} {cxl_0 : Nat} (xl : List (List UInt8)) (hRxl_0 : Rep g (.slice (.str)) [.slice axl_0 xl.length cxl_0] xl) (K : Bool → Prop)
  (hF : hrisF xl K) : CallsH Try.prog 86 #[.slice axl_0 xl.length cxl_0] g [] (fun g' H' v => ∃ (r0 : Bool), v = .bool r0 ∧ H' = [] ∧ K r0) := by
 refine CallsH.enter 20 [(0, .slice axl_0 xl.length cxl_0)] Try.func86 rfl (by kernel_rfl) (by kernel_rfl) (by kernel_rfl) fun w0 => ?_
 refine Ok.seq ?_
 refine Ok.region ?_
 refine Ok.batch 1 [(0, .slice axl_0 xl.length cxl_0)] (by kernel_rfl) ?_
 refine Ok.nil ?_
 refine Ok.thenN ?_
 refine Ok.seq ?_
 refine Ok.seq ?_
 refine Ok.region ?_
 refine Ok.batch 1 [(0, .slice axl_0 xl.length cxl_0), (3, .int .i64 1)] (by kernel_rfl) ?_
 refine Ok.nil ?_
 refine Ok.thenN ?_
 refine Ok.block ?_
 obtain ⟨k, hF⟩ := hF
 refine Ok.loop (fun k a W => ∃ (x3l7 : Int), StA 20 [(0, .slice axl_0 xl.length cxl_0), (3, .int .i64 x3l7)] a ∧ StW w0 [] g W ∧ hrisl7 xl K k x3l7) k ?_ ?_
 ·
  exact fun a W hA hW => ⟨1, hA.sub (by kernel_rfl), hW, hF⟩
 ·
  clear hF
  rintro k7 a W ⟨x3l7, hA, hW, hF⟩
  cases k7 with
  | zero => exact (hF : False).elim
  | succ k7 =>
   refine (?_ : Ok _ _ _ _ _ _) a W hA hW
   clear hA hW
   refine Ok.seq ?_
   refine Ok.seq ?_
   refine Ok.region ?_
   refine Ok.batch 4 [(0, .slice axl_0 xl.length cxl_0), (3, .int .i64 x3l7), (7, .bool (decide (x3l7 < (xl.length : Int))))] (by kernel_rfl) ?_
   refine Ok.nil ?_
   refine Ok.thenN ?_
   refine Ok.cond (b := decide (x3l7 < (xl.length : Int))) rfl (fun hc1 => ?_) (fun hc1 => ?_)
   ·replace hF := hF.1 hc1
    refine Ok.skip ?_
    refine Ok.thenN ?_
    refine Ok.seq ?_
    refine Ok.block ?_
    refine Ok.seq ?_
    refine Ok.quiet' (by kernel_rfl) (by kernel_rfl) ?_
    refine OkQ.batch 3 [(0, .slice axl_0 xl.length cxl_0), (3, .int .i64 x3l7), (10, .slice axl_0 xl.length cxl_0), (12, .int .i64 (IntKind.wrap .i64 (x3l7 - 1)))] (by kernel_rfl) ?_
    obtain ⟨h03, h13, hF⟩ := hF
    have he3 := get_of (l := xl) (default : List UInt8) h13
    generalize hg3 : (xl.getD (Int.toNat (IntKind.wrap .i64 (x3l7 - 1))) default) = e3 at he3 hF ⊢
    refine OkQ.op rfl (OpQ.indexRo (e := .str) (i := IntKind.wrap .i64 (x3l7 - 1)) (el := e3) rfl rfl Try.underlying70 (by kernel_rfl) hRxl_0 h03 he3 rfl fun q2 o2 cs2 _ hat2 hr2 => ?_)
    obtain rfl := hr2
    replace hat2 : At g q2 o2 [.string ⟨⟨e3⟩⟩] := hat2
    refine OkQ.op rfl (OpQ.step (v := .string ⟨⟨e3⟩⟩) (Yields.loadRo 0 hat2 (by kernel_rfl) Try.underlying9 rfl (by kernel_rfl)) rfl rfl ?_)
    refine OkQ.batch 2 [(0, .slice axl_0 xl.length cxl_0), (3, .int .i64 x3l7), (14, .string ⟨⟨e3⟩⟩), (15, .slice axl_0 xl.length cxl_0), (16, .int .i64 x3l7)] (by kernel_rfl) ?_
    obtain ⟨h05, h15, hF⟩ := hF
    have he5 := get_of (l := xl) (default : List UInt8) h15
    generalize hg5 : (xl.getD (Int.toNat x3l7) default) = e5 at he5 hF ⊢
    refine OkQ.op rfl (OpQ.indexRo (e := .str) (i := x3l7) (el := e5) rfl rfl Try.underlying70 (by kernel_rfl) hRxl_0 h05 he5 rfl fun q4 o4 cs4 _ hat4 hr4 => ?_)
    obtain rfl := hr4
    replace hat4 : At g q4 o4 [.string ⟨⟨e5⟩⟩] := hat4
    refine OkQ.op rfl (OpQ.step (v := .string ⟨⟨e5⟩⟩) (Yields.loadRo 0 hat4 (by kernel_rfl) Try.underlying9 rfl (by kernel_rfl)) rfl rfl ?_)
    refine OkQ.op rfl (OpQ.step (v := .bool (!(Op.bytesLess e3 e5))) (Yields.strCmp (f := .geq) (a := e3) (b := e5) (by kernel_rfl) (by kernel_rfl) rfl) rfl rfl ?_)
    refine OkQ.nil ?_
    refine Ok.thenN ?_
    refine Ok.cond (b := !(Op.bytesLess e3 e5)) rfl (fun hc6 => ?_) (fun hc6 => ?_)
    ·replace hF := hF.1 hc6
     refine Ok.seq ?_
     refine Ok.region ?_
     refine Ok.batch 1 [(2, .bool false)] (by kernel_rfl) ?_
     refine Ok.nil ?_
     refine Ok.thenN ?_
     refine Ok.ret ?_
     refine Ok.blockR ?_
     refine Ok.thenR ?_
     refine Ok.thenR ?_
     refine Ok.blockR ?_
     refine Ok.thenR ?_
     exact Ok.resH (vs := [.bool false]) (.inl rfl) rfl (.cons (.tmp rfl) .nil) (Gext.refl w0 g) ⟨false, rfl, rfl, hF⟩
    ·replace hF := hF.2 hc6
     refine Ok.skip ?_
     refine Ok.blockN ?_
     refine Ok.thenN ?_
     refine Ok.region ?_
     refine Ok.batch 3 [(0, .slice axl_0 xl.length cxl_0), (3, .int .i64 (IntKind.wrap .i64 (x3l7 + 1)))] (by kernel_rfl) ?_
     refine Ok.nil ?_
     refine Ok.thenN ?_
     subst hg5
     subst hg3
     exact fun a W hA hW => ⟨k7, Nat.lt_succ_self _, IntKind.wrap .i64 (x3l7 + 1), hA.sub (by kernel_rfl), hW, hF⟩
   ·replace hF := hF.2 hc1
    refine Ok.exit ?_
    refine Ok.thenE ?_
    refine Ok.thenE ?_
    refine Ok.blockHit ?_
    refine Ok.thenN ?_
    refine Ok.seq ?_
    refine Ok.region ?_
    refine Ok.batch 1 [(2, .bool true)] (by kernel_rfl) ?_
    refine Ok.nil ?_
    refine Ok.thenN ?_
    refine Ok.ret ?_
    exact Ok.resH (vs := [.bool true]) (.inl rfl) rfl (.cons (.tmp rfl) .nil) (Gext.refl w0 g) ⟨true, rfl, rfl, hF⟩
def hrisS : List (List UInt8) → Bool
 | a :: b :: r => Op.bytesLess a b && hrisS (b :: r)
 | _ => true
def hrisP (l : List (List UInt8)) : Prop := l.length ≤ 1000
theorem ris_short : ∀ {l : List (List UInt8)}, l.length ≤ 1 → hrisS l = true
 | [], _ => rfl
 | [_], _ => rfl
 | _ :: _ :: _, h => by simp at h
theorem ris_drop {l : List (List UInt8)} {i : Nat} (h : i + 1 < l.length) : hrisS (l.drop i) = (Op.bytesLess (l.getD i default) (l.getD (i + 1) default) && hrisS (l.drop (i + 1))) := by
 rw [drop_get (l := l) (k := i) default (by omega), drop_get (l := l) (k := i + 1) default h]; rfl
theorem hris_F (l : List (List UInt8)) (hp : hrisP l) : hrisF l (fun r => r = hrisS l) := by
 unfold hrisP at hp
 have loop : ∀ (k i : Nat), l.length ≤ i + 1 + k → hrisS l = hrisS (l.drop i) → hrisl7 l (fun r => r = hrisS l) (k + 1) ((i + 1 : Nat) : Int) := by
  intro k
  induction k with
  | zero =>
   intro i h he
   exact ⟨fun h2 => by have := of_decide_eq_true h2; omega, fun _ => by rw [he]; exact (ris_short (by rw [List.length_drop]; omega)).symm⟩
  | succ k ih =>
   intro i h he
   by_cases hi : i + 1 < l.length
   ·rw [ris_drop hi] at he
    rw [hrisl7]
    unfold hrisl7b
    have e1 : IntKind.wrap .i64 (((i + 1 : Nat) : Int) - 1) = (i : Int) := by rw [w64 (by omega)]; omega
    rw [e1, Int.toNat_natCast, Int.toNat_natCast]
    refine ⟨fun _ => ⟨by omega, by omega, by omega, by omega, fun hc => ?_, fun hc => ?_⟩, fun h2 => by have := of_decide_eq_false h2; omega⟩
    ·rw [Bool.not_eq_true'] at hc
     rw [hc, Bool.false_and] at he
     exact he.symm
    ·rw [Bool.not_eq_false'] at hc
     rw [hc, Bool.true_and] at he
     rw [w64 (by omega)]
     exact ih (i + 1) (by omega) he
   ·exact ⟨fun h2 => by have := of_decide_eq_true h2; omega, fun _ => by rw [he]; exact (ris_short (by rw [List.length_drop]; omega)).symm⟩
 exact ⟨l.length + 1, loop l.length 0 (by omega) rfl⟩
set_option linter.unusedVariables false in
theorem hris_c {g : Ghost} {axl_0 : Option Addr} {cxl_0 : Nat} (xl : List (List UInt8)) (hRxl_0 : Rep g (.slice (.str)) [.slice axl_0 xl.length cxl_0] xl)  (hp : hrisP xl) : CallsG Try.prog 86 #[.slice axl_0 xl.length cxl_0] g (.bool (hrisS xl)) :=
 (hris_ok xl hRxl_0 _ (hris_F xl hp)).gives (by rintro g' H' v _ ⟨r0, rfl, rfl, hK⟩; subst hK; rfl)
def hcl1F (xv : JV) (x1 : List (Int × List (List UInt8) × List (JV))) (K : Bool → Prop) : Prop :=
 K (!(hfitS x1 xv))
set_option maxHeartbeats 4000000 in
set_option maxRecDepth 100000 in
set_option linter.unusedVariables false in
theorem hcl1_ok {g : Ghost} (xv : JV) {bx1 ox1 : Nat} (x1 : List (Int × List (List UInt8) × List (JV))) (hPx1 : PtrTo g (.slice (.pair (.int .i64) (.pair (.slice (.str)) (.slice (.pair (.int .i64) (.pair (.int .i64) (.str))))))) bx1 ox1 x1) (K : Bool → Prop)
  (hF : hcl1F xv x1 K) : CallsH Try.prog 88 #[.agg #[.int .i64 xv.1, .int .i64 xv.2.1, .string ⟨⟨xv.2.2⟩⟩], .pointer (some ⟨bx1, ox1, none⟩)] g [] (fun g' H' v => ∃ (r0 : Bool), v = .bool r0 ∧ H' = [] ∧ K r0) := by
 refine CallsH.enter 8 [(0, .agg #[.int .i64 xv.1, .int .i64 xv.2.1, .string ⟨⟨xv.2.2⟩⟩]), (1, .pointer (some ⟨bx1, ox1, none⟩))] Try.func88 rfl (by kernel_rfl) (by kernel_rfl) (by kernel_rfl) fun w0 => ?_
 obtain ⟨csx1, _, hatx1, hrx1⟩ := hPx1
 obtain ⟨ax1_0, cx1_0, rfl, hmx1_0, hrx1_0⟩ := hrx1
 have hRx1_0 : Rep g (.slice (.pair (.int .i64) (.pair (.slice (.str)) (.slice (.pair (.int .i64) (.pair (.int .i64) (.str))))))) [.slice ax1_0 x1.length cx1_0] x1 := ⟨ax1_0, cx1_0, rfl, hmx1_0, hrx1_0⟩
 replace hatx1 : At g bx1 ox1 [.slice ax1_0 x1.length cx1_0] := hatx1
 refine Ok.seq ?_
 refine Ok.region ?_
 refine Ok.op rfl (OpOk.box (v := .agg #[.int .i64 xv.1, .int .i64 xv.2.1, .string ⟨⟨xv.2.2⟩⟩]) (cs := #[.int .i64 xv.1, .int .i64 xv.2.1, .string ⟨⟨xv.2.2⟩⟩]) rfl (by kernel_rfl) rfl fun b1 => ?_)
 refine Ok.batch 1 [(1, .pointer (some ⟨bx1, ox1, none⟩)), (2, .pointer (some ⟨b1, 0, none⟩))] (by kernel_rfl) ?_
 refine Ok.nil ?_
 refine Ok.thenN ?_
 refine Ok.seq ?_
 refine Ok.region ?_
 refine Ok.op rfl (OpOk.step (v := .slice ax1_0 x1.length cx1_0) (Yields.loadRo 0 hatx1 (by kernel_rfl) Try.underlying22 rfl (by kernel_rfl)) rfl rfl ?_)
 refine Ok.op rfl (OpOk.step (v := .agg #[.int .i64 xv.1, .int .i64 xv.2.1, .string ⟨⟨xv.2.2⟩⟩]) (Yields.loadAgg 0 3 #[.int .i64 xv.1, .int .i64 xv.2.1, .string ⟨⟨xv.2.2⟩⟩] rfl rfl Try.underlying24 rfl (by kernel_rfl) (by kernel_rfl) (by kernel_rfl)) rfl rfl ?_)
 refine Ok.op rfl (OpOk.callG (v := .bool (hfitS x1 xv)) (enters (by kernel_rfl) (fun _ => by kernel_rfl)) (fun W hW => hfit_c x1 xv (hRx1_0.mono hW.sees)) rfl ?_)
 refine Ok.batch 2 [(3, .bool (!(hfitS x1 xv)))] (by kernel_rfl) ?_
 refine Ok.nil ?_
 refine Ok.thenN ?_
 refine Ok.ret ?_
 exact Ok.resP (vs := [.bool (!(hfitS x1 xv))]) [] [] (by decide) rfl (.inl rfl) rfl (.cons (.tmp rfl) .nil) (Gext.refl w0 g) ⟨(!(hfitS x1 xv)), rfl, rfl, hF⟩
def hcl1M (xv : Int × Int × List UInt8) (x1 : List (Int × List (List UInt8) × List (Int × Int × List UInt8))) : Bool := (!(hfitS x1 xv))
set_option linter.unusedSimpArgs false in
set_option linter.unusedVariables false in
theorem hcl1F_A (xv : Int × Int × List UInt8) (x1 : List (Int × List (List UInt8) × List (Int × Int × List UInt8))) (P : Bool → Prop) (h : P (hcl1M xv x1)) : hcl1F xv x1 (fun k0 => P k0) := by
 unfold hcl1M at h
 unfold hcl1F
 exact h
theorem hcl1_F (xv : Int × Int × List UInt8) (x1 : List (Int × List (List UInt8) × List (Int × Int × List UInt8))) : hcl1F xv x1 (fun k0 => k0 = hcl1M xv x1) :=
 hcl1F_A xv x1 (fun z => z = hcl1M xv x1) rfl
set_option linter.unusedVariables false in
theorem hcl1_c {g : Ghost} (xv : Int × Int × List UInt8) {bx1 ox1 : Nat} (x1 : List (Int × List (List UInt8) × List (Int × Int × List UInt8))) (hPx1 : PtrTo g (.slice (.pair (.int .i64) (.pair (.slice (.str)) (.slice (.pair (.int .i64) (.pair (.int .i64) (.str))))))) bx1 ox1 x1)  : CallsG Try.prog 88 #[.agg #[.int .i64 xv.1, .int .i64 xv.2.1, .string ⟨⟨xv.2.2⟩⟩], .pointer (some ⟨bx1, ox1, none⟩)] g (.bool (hcl1M xv x1)) :=
 (hcl1_ok xv x1 hPx1 _ (hcl1_F xv x1)).gives (by rintro g' H' v _ ⟨r0, rfl, rfl, hK⟩; subst hK; rfl)
def vixl7b (xs : List (JV)) (xf : (JV) → Bool) (pxf : (JV) → Prop) (K : Int → Prop) (x8l7 : Int) (C7 : Int → Prop) : Prop :=
 ((decide (x8l7 < (xs.length : Int))) = true → (0 : Int) ≤ x8l7 ∧ Int.toNat x8l7 < xs.length ∧ pxf (xs.getD (Int.toNat x8l7) default) ∧ (((xf (xs.getD (Int.toNat x8l7) default))) = true → K x8l7) ∧ (((xf (xs.getD (Int.toNat x8l7) default))) = false → C7 (IntKind.wrap .i64 (x8l7 + 1)))) ∧ ((decide (x8l7 < (xs.length : Int))) = false → K (-1))
def vixl7 (xs : List (JV)) (xf : (JV) → Bool) (pxf : (JV) → Prop) (K : Int → Prop) : Nat → Int → Prop
 | 0, _ => False
 | k + 1, x8l7 => vixl7b xs xf pxf K x8l7 (vixl7 xs xf pxf K k)
def vixF (xs : List (JV)) (xf : (JV) → Bool) (pxf : (JV) → Prop) (K : Int → Prop) : Prop :=
 ∃ k, vixl7 xs xf pxf K k 0
set_option maxHeartbeats 4000000 in
set_option maxRecDepth 100000 in
set_option linter.unusedVariables false in
theorem vix_ok {g : Ghost} {axs_0 : Option Addr} {cxs_0 : Nat} (xs : List (JV)) {vxf : Value} (xf : (JV) → Bool) (pxf : (JV) → Prop) (hRxs_0 : Rep g (.slice (.pair (.int .i64) (.pair (.int .i64) (.str)))) [.slice axs_0 xs.length cxs_0] xs) (hfxf : ∀ (y0 : JV), pxf y0 → FnG Try.prog vxf #[.agg #[.int .i64 y0.1, .int .i64 y0.2.1, .string ⟨⟨y0.2.2⟩⟩]] g (.bool (xf y0))) (K : Int → Prop)
  (hF : vixF xs xf pxf K) : CallsH Try.prog 105 #[.slice axs_0 xs.length cxs_0, vxf] g [] (fun g' H' v => ∃ (r0 : Int), v = .int .i64 r0 ∧ H' = [] ∧ K r0) := by
 refine CallsH.enter 19 [(0, .slice axs_0 xs.length cxs_0), (1, vxf)] Try.func105 rfl (by kernel_rfl) (by kernel_rfl) (by kernel_rfl) fun w0 => ?_
 refine Ok.seq ?_
 refine Ok.region ?_
 refine Ok.batch 1 [(0, .slice axs_0 xs.length cxs_0), (1, vxf)] (by kernel_rfl) ?_
 refine Ok.nil ?_
 refine Ok.thenN ?_
 refine Ok.seq ?_
 refine Ok.seq ?_
 refine Ok.region ?_
 refine Ok.batch 3 [(0, .slice axs_0 xs.length cxs_0), (1, vxf), (7, .int .i64 (xs.length : Int)), (8, .int .i64 0)] (by kernel_rfl) ?_
 refine Ok.nil ?_
 refine Ok.thenN ?_
 refine Ok.block ?_
 obtain ⟨k, hF⟩ := hF
 refine Ok.loop (fun k a W => ∃ (x8l7 : Int), StA 19 [(0, .slice axs_0 xs.length cxs_0), (1, vxf), (7, .int .i64 (xs.length : Int)), (8, .int .i64 x8l7)] a ∧ StW w0 [] g W ∧ vixl7 xs xf pxf K k x8l7) k ?_ ?_
 ·
  exact fun a W hA hW => ⟨0, hA.sub (by kernel_rfl), hW, hF⟩
 ·
  clear hF
  rintro k7 a W ⟨x8l7, hA, hW, hF⟩
  cases k7 with
  | zero => exact (hF : False).elim
  | succ k7 =>
   refine (?_ : Ok _ _ _ _ _ _) a W hA hW
   clear hA hW
   refine Ok.seq ?_
   refine Ok.region ?_
   refine Ok.batch 1 [(0, .slice axs_0 xs.length cxs_0), (1, vxf), (7, .int .i64 (xs.length : Int)), (8, .int .i64 x8l7), (9, .bool (decide (x8l7 < (xs.length : Int))))] (by kernel_rfl) ?_
   refine Ok.nil ?_
   refine Ok.thenN ?_
   refine Ok.seq ?_
   refine Ok.cond (b := decide (x8l7 < (xs.length : Int))) rfl (fun hc1 => ?_) (fun hc1 => ?_)
   ·replace hF := hF.1 hc1
    refine Ok.skip ?_
    refine Ok.thenN ?_
    refine Ok.seq ?_
    refine Ok.block ?_
    refine Ok.seq ?_
    refine Ok.region ?_
    refine Ok.batch 2 [(0, .slice axs_0 xs.length cxs_0), (1, vxf), (5, .int .i64 x8l7), (7, .int .i64 (xs.length : Int)), (8, .int .i64 x8l7)] (by kernel_rfl) ?_
    refine Ok.nil ?_
    refine Ok.thenN ?_
    refine Ok.seq ?_
    refine Ok.region ?_
    refine Ok.batch 3 [(0, .slice axs_0 xs.length cxs_0), (1, vxf), (5, .int .i64 x8l7), (7, .int .i64 (xs.length : Int)), (8, .int .i64 x8l7), (11, vxf), (12, .slice axs_0 xs.length cxs_0), (13, .int .i64 x8l7)] (by kernel_rfl) ?_
    obtain ⟨h03, h13, hF⟩ := hF
    have he3 := get_of (l := xs) (default : JV) h13
    generalize hg3 : (xs.getD (Int.toNat x8l7) default) = e3 at he3 hF ⊢
    refine Ok.op rfl (OpOk.indexRo (e := .pair (.int .i64) (.pair (.int .i64) (.str))) (i := x8l7) (el := e3) rfl rfl Try.underlying29 (by kernel_rfl) hRxs_0 h03 he3 rfl fun q2 o2 cs2 _ hat2 hr2 => ?_)
    obtain ⟨_, _, rfl, rfl, ⟨_, _, rfl, rfl, rfl⟩⟩ := hr2
    replace hat2 : At g q2 o2 [.int .i64 e3.1, .int .i64 e3.2.1, .string ⟨⟨e3.2.2⟩⟩] := hat2
    refine Ok.op rfl (OpOk.step (v := .agg #[.int .i64 e3.1, .int .i64 e3.2.1, .string ⟨⟨e3.2.2⟩⟩]) (Yields.loadAggRo 0 3 #[.int .i64 e3.1, .int .i64 e3.2.1, .string ⟨⟨e3.2.2⟩⟩] hat2 (by kernel_rfl) Try.underlying24 rfl (by kernel_rfl) (by kernel_rfl) (by kernel_rfl)) rfl rfl ?_)
    obtain ⟨hq4, hF⟩ := hF
    refine Ok.op rfl (OpOk.apply (args := #[.agg #[.int .i64 e3.1, .int .i64 e3.2.1, .string ⟨⟨e3.2.2⟩⟩]]) (v := .bool (xf e3)) rfl (by kernel_rfl) (by kernel_rfl) (hfxf e3 hq4) rfl ?_)
    refine Ok.nil ?_
    refine Ok.thenN ?_
    refine Ok.cond (b := (xf e3)) rfl (fun hc5 => ?_) (fun hc5 => ?_)
    ·replace hF := hF.1 hc5
     refine Ok.seq ?_
     refine Ok.region ?_
     refine Ok.batch 2 [(4, .int .i64 x8l7)] (by kernel_rfl) ?_
     refine Ok.nil ?_
     refine Ok.thenN ?_
     refine Ok.ret ?_
     refine Ok.blockR ?_
     refine Ok.thenR ?_
     refine Ok.thenR ?_
     refine Ok.blockR ?_
     refine Ok.thenR ?_
     exact Ok.resH (vs := [.int .i64 x8l7]) (.inl rfl) rfl (.cons (.tmp rfl) .nil) (Gext.refl w0 g) ⟨x8l7, rfl, rfl, hF⟩
    ·replace hF := hF.2 hc5
     refine Ok.skip ?_
     refine Ok.blockN ?_
     refine Ok.thenN ?_
     refine Ok.region ?_
     refine Ok.batch 2 [(0, .slice axs_0 xs.length cxs_0), (1, vxf), (7, .int .i64 (xs.length : Int)), (8, .int .i64 (IntKind.wrap .i64 (x8l7 + 1)))] (by kernel_rfl) ?_
     refine Ok.nil ?_
     refine Ok.thenN ?_
     subst hg3
     exact fun a W hA hW => ⟨k7, Nat.lt_succ_self _, IntKind.wrap .i64 (x8l7 + 1), hA.sub (by kernel_rfl), hW, hF⟩
   ·replace hF := hF.2 hc1
    refine Ok.exit ?_
    refine Ok.thenE ?_
    refine Ok.thenE ?_
    refine Ok.blockHit ?_
    refine Ok.thenN ?_
    refine Ok.seq ?_
    refine Ok.region ?_
    refine Ok.batch 1 [(4, .int .i64 (-1))] (by kernel_rfl) ?_
    refine Ok.nil ?_
    refine Ok.thenN ?_
    refine Ok.ret ?_
    exact Ok.resH (vs := [.int .i64 (-1)]) (.inl rfl) rfl (.cons (.tmp rfl) .nil) (Gext.refl w0 g) ⟨(-1), rfl, rfl, hF⟩
def idxN {α : Type} (f : α → Bool) : List α → Nat → Int
 | [], _ => -1
 | x :: l, i => if f x = true then (i : Int) else idxN f l (i + 1)
def vixS (l : List JV) (f : JV → Bool) : Int := idxN f l 0
def vixP (l : List JV) (_ : JV → Bool) (p : JV → Prop) : Prop := l.length ≤ 1000000 ∧ ∀ y, p y
theorem idxN_any {α : Type} (f : α → Bool) : ∀ (l : List α) (i : Nat), decide (idxN f l i ≥ 0) = l.any f
 | [], _ => rfl
 | x :: l, i => by
  rw [idxN, List.any_cons, ← idxN_any f l (i + 1)]
  cases f x
  ·rfl
  ·rw [if_t rfl, decide_eq_true (by omega)]; rfl
theorem vix_F (l : List JV) (f : JV → Bool) (p : JV → Prop) (hp : vixP l f p) : vixF l f p (fun r => r = vixS l f) := by
 obtain ⟨hl, hp⟩ := hp
 have loop : ∀ (k i : Nat), i + k = l.length → vixS l f = idxN f (l.drop i) i → vixl7 l f p (fun r => r = vixS l f) (k + 1) (i : Int) := by
  intro k
  induction k with
  | zero =>
   intro i h h2
   rw [List.drop_of_length_le (by omega)] at h2
   exact ⟨fun h => by have := of_decide_eq_true h; omega, fun _ => h2.symm⟩
  | succ k ih =>
   intro i h h2
   rw [drop_get (l := l) default (by omega), idxN] at h2
   refine ⟨fun _ => ⟨by omega, by rw [Int.toNat_natCast]; omega, hp _, fun hc => ?_, fun hc => ?_⟩, fun h => by have := of_decide_eq_false h; omega⟩
   ·rw [Int.toNat_natCast] at hc
    rw [h2, if_t hc]
   ·rw [Int.toNat_natCast] at hc
    rw [if_f hc] at h2
    rw [w64 (by omega)]
    exact ih (i + 1) (by omega) h2
 exact ⟨_, loop l.length 0 (by omega) rfl⟩
set_option linter.unusedVariables false in
theorem vix_c {g : Ghost} {axs_0 : Option Addr} {cxs_0 : Nat} (xs : List (Int × Int × List UInt8)) {vxf : Value} (xf : (Int × Int × List UInt8) → Bool) (pxf : (Int × Int × List UInt8) → Prop) (hRxs_0 : Rep g (.slice (.pair (.int .i64) (.pair (.int .i64) (.str)))) [.slice axs_0 xs.length cxs_0] xs) (hfxf : ∀ (y0 : Int × Int × List UInt8), pxf y0 → FnG Try.prog vxf #[.agg #[.int .i64 y0.1, .int .i64 y0.2.1, .string ⟨⟨y0.2.2⟩⟩]] g (.bool (xf y0)))  (hp : vixP xs xf pxf) : CallsG Try.prog 105 #[.slice axs_0 xs.length cxs_0, vxf] g (.int .i64 (vixS xs xf)) :=
 (vix_ok xs xf pxf hRxs_0 hfxf _ (vix_F xs xf pxf hp)).gives (by rintro g' H' v _ ⟨r0, rfl, rfl, hK⟩; subst hK; rfl)
def vcfF (xs : List (JV)) (xf : (JV) → Bool) (pxf : (JV) → Prop) (K : Bool → Prop) : Prop :=
 vixP xs xf pxf ∧ K (decide ((vixS xs xf) ≥ 0))
set_option maxHeartbeats 4000000 in
set_option maxRecDepth 100000 in
set_option linter.unusedVariables false in
theorem vcf_ok {g : Ghost} {axs_0 : Option Addr} {cxs_0 : Nat} (xs : List (JV)) {vxf : Value} (xf : (JV) → Bool) (pxf : (JV) → Prop) (hRxs_0 : Rep g (.slice (.pair (.int .i64) (.pair (.int .i64) (.str)))) [.slice axs_0 xs.length cxs_0] xs) (hfxf : ∀ (y0 : JV), pxf y0 → FnG Try.prog vxf #[.agg #[.int .i64 y0.1, .int .i64 y0.2.1, .string ⟨⟨y0.2.2⟩⟩]] g (.bool (xf y0))) (K : Bool → Prop)
  (hF : vcfF xs xf pxf K) : CallsH Try.prog 87 #[.slice axs_0 xs.length cxs_0, vxf] g [] (fun g' H' v => ∃ (r0 : Bool), v = .bool r0 ∧ H' = [] ∧ K r0) := by
 refine CallsH.enter 9 [(0, .slice axs_0 xs.length cxs_0), (1, vxf)] Try.func87 rfl (by kernel_rfl) (by kernel_rfl) (by kernel_rfl) fun w0 => ?_
 refine Ok.seq ?_
 refine Ok.region ?_
 refine Ok.batch 1 [(0, .slice axs_0 xs.length cxs_0), (1, vxf)] (by kernel_rfl) ?_
 refine Ok.nil ?_
 refine Ok.thenN ?_
 refine Ok.seq ?_
 refine Ok.region ?_
 refine Ok.batch 2 [(5, .slice axs_0 xs.length cxs_0), (6, vxf)] (by kernel_rfl) ?_
 obtain ⟨hp1, hF⟩ := hF
 refine Ok.op rfl (OpOk.callG (v := .int .i64 (vixS xs xf)) (enters (by kernel_rfl) (fun _ => by kernel_rfl)) (fun W hW => vix_c xs xf pxf (hRxs_0.mono hW.sees) (fun y0 hq => (hfxf y0 hq).mono hW.sees) hp1) rfl ?_)
 refine Ok.batch 2 [(4, .bool (decide ((vixS xs xf) ≥ 0)))] (by kernel_rfl) ?_
 refine Ok.nil ?_
 refine Ok.thenN ?_
 refine Ok.ret ?_
 exact Ok.resH (vs := [.bool (decide ((vixS xs xf) ≥ 0))]) (.inl rfl) rfl (.cons (.tmp rfl) .nil) (Gext.refl w0 g) ⟨(decide ((vixS xs xf) ≥ 0)), rfl, rfl, hF⟩
def vcfS (l : List JV) (f : JV → Bool) : Bool := l.any f
theorem vcf_F (l : List JV) (f : JV → Bool) (p : JV → Prop) (hp : vixP l f p) : vcfF l f p (fun r => r = vcfS l f) := ⟨hp, idxN_any f l 0⟩
set_option linter.unusedVariables false in
theorem vcf_c {g : Ghost} {axs_0 : Option Addr} {cxs_0 : Nat} (xs : List (Int × Int × List UInt8)) {vxf : Value} (xf : (Int × Int × List UInt8) → Bool) (pxf : (Int × Int × List UInt8) → Prop) (hRxs_0 : Rep g (.slice (.pair (.int .i64) (.pair (.int .i64) (.str)))) [.slice axs_0 xs.length cxs_0] xs) (hfxf : ∀ (y0 : Int × Int × List UInt8), pxf y0 → FnG Try.prog vxf #[.agg #[.int .i64 y0.1, .int .i64 y0.2.1, .string ⟨⟨y0.2.2⟩⟩]] g (.bool (xf y0)))  (hp : vixP xs xf pxf) : CallsG Try.prog 87 #[.slice axs_0 xs.length cxs_0, vxf] g (.bool (vcfS xs xf)) :=
 (vcf_ok xs xf pxf hRxs_0 hfxf _ (vcf_F xs xf pxf hp)).gives (by rintro g' H' v _ ⟨r0, rfl, rfl, hK⟩; subst hK; rfl)
def hcelV0 (xc : Int × List (List UInt8) × List (JV)) : Int :=
 (if (xc.1 == 0) = true then 0 else (if ((xc.1 == 1) || (xc.1 == 3)) = true then 0 else (xc.2.2.length : Int)))
def hcelV1 (xh : List (Int × List (List UInt8) × List (JV))) (xc : Int × List (List UInt8) × List (JV)) : Bool :=
 (((xc.2.1.length : Int) == (hcelV0 xc)) && ((hrisS xc.2.1) && (!(vcfS xc.2.2 (fun y0 => hcl1M y0 xh)))))
def hcelj34 (xh : List (Int × List (List UInt8) × List (JV))) (xc : Int × List (List UInt8) × List (JV)) (K : Bool → Prop) : Prop :=
 K (hcelV1 xh xc)
def hcelj5 (xh : List (Int × List (List UInt8) × List (JV))) (xc : Int × List (List UInt8) × List (JV)) (K : Bool → Prop) : Prop :=
 ((((xc.2.1.length : Int) == (hcelV0 xc))) = true → hrisP xc.2.1 ∧ (((hrisS xc.2.1)) = true → vixP xc.2.2 (fun y0 => hcl1M y0 xh) (fun _ => True) ∧ hcelj34 xh xc K) ∧ (((hrisS xc.2.1)) = false → hcelj34 xh xc K)) ∧ ((((xc.2.1.length : Int) == (hcelV0 xc))) = false → hcelj34 xh xc K)
def hcelj19 (xh : List (Int × List (List UInt8) × List (JV))) (xc : Int × List (List UInt8) × List (JV)) (K : Bool → Prop) : Prop :=
 ((((xc.1 == 1) || (xc.1 == 3))) = true → hcelj5 xh xc K) ∧ ((((xc.1 == 1) || (xc.1 == 3))) = false → (((xc.1 == 2)) = true → hcelj5 xh xc K) ∧ (((xc.1 == 2)) = false → K false))
def hcelF (xh : List (Int × List (List UInt8) × List (JV))) (xc : Int × List (List UInt8) × List (JV)) (K : Bool → Prop) : Prop :=
 (((xc.1 == 0)) = true → ((decide ((xc.2.2.length : Int) > 0)) = true → K false) ∧ ((decide ((xc.2.2.length : Int) > 0)) = false → hcelj5 xh xc K)) ∧ (((xc.1 == 0)) = false → (((xc.1 == 1)) = true → hcelj19 xh xc K) ∧ (((xc.1 == 1)) = false → hcelj19 xh xc K))
set_option maxHeartbeats 4000000 in
set_option maxRecDepth 100000 in
set_option linter.unusedVariables false in
theorem hcel_ok {g : Ghost} {axh_0 : Option Addr} {cxh_0 : Nat} (xh : List (Int × List (List UInt8) × List (JV))) {axc_0 : Option Addr} {cxc_0 : Nat} {axc_1 : Option Addr} {cxc_1 : Nat} (xc : Int × List (List UInt8) × List (JV)) (hRxh_0 : Rep g (.slice (.pair (.int .i64) (.pair (.slice (.str)) (.slice (.pair (.int .i64) (.pair (.int .i64) (.str))))))) [.slice axh_0 xh.length cxh_0] xh) (hRxc_0 : Rep g (.slice (.str)) [.slice axc_0 xc.2.1.length cxc_0] xc.2.1) (hRxc_1 : Rep g (.slice (.pair (.int .i64) (.pair (.int .i64) (.str)))) [.slice axc_1 xc.2.2.length cxc_1] xc.2.2) (K : Bool → Prop)
  (hF : hcelF xh xc K) : CallsH Try.prog 62 #[.slice axh_0 xh.length cxh_0, .agg #[.int .i64 xc.1, .slice axc_0 xc.2.1.length cxc_0, .slice axc_1 xc.2.2.length cxc_1]] g [] (fun g' H' v => ∃ (r0 : Bool), v = .bool r0 ∧ H' = [] ∧ K r0) := by
 refine CallsH.enter 39 [(0, .slice axh_0 xh.length cxh_0), (1, .agg #[.int .i64 xc.1, .slice axc_0 xc.2.1.length cxc_0, .slice axc_1 xc.2.2.length cxc_1])] Try.func62 rfl (by kernel_rfl) (by kernel_rfl) (by kernel_rfl) fun w0 => ?_
 refine Ok.seq ?_
 refine Ok.region ?_
 refine Ok.op rfl (OpOk.box (v := .slice axh_0 xh.length cxh_0) (cs := #[.slice axh_0 xh.length cxh_0]) rfl (by kernel_rfl) rfl fun b1 => ?_)
 refine Ok.op rfl (OpOk.box (v := .agg #[.int .i64 xc.1, .slice axc_0 xc.2.1.length cxc_0, .slice axc_1 xc.2.2.length cxc_1]) (cs := #[.int .i64 xc.1, .slice axc_0 xc.2.1.length cxc_0, .slice axc_1 xc.2.2.length cxc_1]) rfl (by kernel_rfl) rfl fun b2 => ?_)
 refine Ok.batch 1 [(2, .pointer (some ⟨b1, 0, none⟩)), (3, .pointer (some ⟨b2, 0, none⟩))] (by kernel_rfl) ?_
 refine Ok.nil ?_
 refine Ok.thenN ?_
 refine Ok.seq ?_
 refine Ok.region ?_
 refine Ok.batch 1 [(2, .pointer (some ⟨b1, 0, none⟩)), (3, .pointer (some ⟨b2, 0, none⟩)), (5, .int .i64 0)] (by kernel_rfl) ?_
 refine Ok.nil ?_
 refine Ok.thenN ?_
 refine Ok.cut (fun a W => StA 39 [(2, .pointer (some ⟨b1, 0, none⟩)), (3, .pointer (some ⟨b2, 0, none⟩)), (5, .int .i64 (hcelV0 xc))] a ∧ StW w0 [.blk b2 (.cells #[.int .i64 xc.1, .slice axc_0 xc.2.1.length cxc_0, .slice axc_1 xc.2.2.length cxc_1] 72), .blk b1 (.cells #[.slice axh_0 xh.length cxh_0] 22)] g W ∧ hcelj5 xh xc K) ?_ ?_
 ·
  refine Ok.seq ?_
  refine Ok.region ?_
  refine Ok.batch 1 [(2, .pointer (some ⟨b1, 0, none⟩)), (3, .pointer (some ⟨b2, 0, none⟩)), (5, .int .i64 0), (6, .pointer (some ⟨b2, 0, none⟩))] (by kernel_rfl) ?_
  refine Ok.op rfl (OpOk.step (v := .int .i64 xc.1) (Yields.load 0 rfl rfl Try.underlying3 rfl (by kernel_rfl)) rfl rfl ?_)
  refine Ok.nil ?_
  refine Ok.thenN ?_
  refine Ok.block ?_
  refine Ok.seq ?_
  refine Ok.region ?_
  refine Ok.batch 2 [(2, .pointer (some ⟨b1, 0, none⟩)), (3, .pointer (some ⟨b2, 0, none⟩)), (5, .int .i64 0), (7, .int .i64 xc.1), (8, .bool (xc.1 == 0))] (by kernel_rfl) ?_
  refine Ok.nil ?_
  refine Ok.thenN ?_
  refine Ok.cond (b := (xc.1 == 0)) rfl (fun hc7 => ?_) (fun hc7 => ?_)
  ·replace hF := hF.1 hc7
   refine Ok.seq ?_
   refine Ok.region ?_
   refine Ok.batch 1 [(2, .pointer (some ⟨b1, 0, none⟩)), (3, .pointer (some ⟨b2, 0, none⟩)), (5, .int .i64 0), (10, .pointer (some ⟨b2, 2, none⟩))] (by kernel_rfl) ?_
   refine Ok.op rfl (OpOk.step (v := .slice axc_1 xc.2.2.length cxc_1) (Yields.load 0 rfl rfl Try.underlying29 rfl (by kernel_rfl)) rfl rfl ?_)
   refine Ok.batch 2 [(2, .pointer (some ⟨b1, 0, none⟩)), (3, .pointer (some ⟨b2, 0, none⟩)), (5, .int .i64 0), (13, .bool (decide ((xc.2.2.length : Int) > 0)))] (by kernel_rfl) ?_
   refine Ok.nil ?_
   refine Ok.thenN ?_
   refine Ok.cond (b := decide ((xc.2.2.length : Int) > 0)) rfl (fun hc8 => ?_) (fun hc8 => ?_)
   ·replace hF := hF.1 hc8
    refine Ok.seq ?_
    refine Ok.region ?_
    refine Ok.batch 1 [(4, .bool false)] (by kernel_rfl) ?_
    refine Ok.nil ?_
    refine Ok.thenN ?_
    refine Ok.ret ?_
    refine Ok.blockR ?_
    refine Ok.thenR ?_
    exact Ok.resP (vs := [.bool false]) [] [] (by decide) rfl (.inl rfl) rfl (.cons (.tmp rfl) .nil) (Gext.refl w0 g) ⟨false, rfl, rfl, hF⟩
   ·replace hF := hF.2 hc8
    refine Ok.skip ?_
    refine Ok.blockN ?_
    refine Ok.thenN ?_
    refine Ok.reval 5 rfl (show (.int .i64 0 : Value) = .int .i64 (hcelV0 xc) from congrArg (Value.int .i64) ((if_t hc7).symm)) ?_
    exact fun a W hA hW => ⟨hA.sub (by kernel_rfl), hW, hF⟩
  ·replace hF := hF.2 hc7
   refine Ok.cut (fun a W => StA 39 [(2, .pointer (some ⟨b1, 0, none⟩)), (3, .pointer (some ⟨b2, 0, none⟩)), (5, .int .i64 0), (7, .int .i64 xc.1), (14, .bool ((xc.1 == 1) || (xc.1 == 3)))] a ∧ StW w0 [.blk b2 (.cells #[.int .i64 xc.1, .slice axc_0 xc.2.1.length cxc_0, .slice axc_1 xc.2.2.length cxc_1] 72), .blk b1 (.cells #[.slice axh_0 xh.length cxh_0] 22)] g W ∧ hcelj19 xh xc K) ?_ ?_
   ·
    refine Ok.seq ?_
    refine Ok.region ?_
    refine Ok.batch 2 [(2, .pointer (some ⟨b1, 0, none⟩)), (3, .pointer (some ⟨b2, 0, none⟩)), (5, .int .i64 0), (7, .int .i64 xc.1), (14, .bool (xc.1 == 1))] (by kernel_rfl) ?_
    refine Ok.nil ?_
    refine Ok.thenN ?_
    refine Ok.cond (b := (xc.1 == 1)) rfl (fun hc11 => ?_) (fun hc11 => ?_)
    ·replace hF := hF.1 hc11
     refine Ok.skip ?_
     refine Ok.thenN ?_
     refine Ok.reval 14 rfl (show (.bool (xc.1 == 1) : Value) = .bool ((xc.1 == 1) || (xc.1 == 3)) from congrArg (Value.bool) ((Eq.trans (hc11) (mor_t hc11)))) ?_
     exact fun a W hA hW => ⟨hA.sub (by kernel_rfl), hW, hF⟩
    ·replace hF := hF.2 hc11
     refine Ok.region ?_
     refine Ok.batch 2 [(2, .pointer (some ⟨b1, 0, none⟩)), (3, .pointer (some ⟨b2, 0, none⟩)), (5, .int .i64 0), (7, .int .i64 xc.1), (14, .bool (xc.1 == 3))] (by kernel_rfl) ?_
     refine Ok.nil ?_
     refine Ok.thenN ?_
     refine Ok.reval 14 rfl (show (.bool (xc.1 == 3) : Value) = .bool ((xc.1 == 1) || (xc.1 == 3)) from congrArg (Value.bool) (mor_f hc11)) ?_
     exact fun a W hA hW => ⟨hA.sub (by kernel_rfl), hW, hF⟩
   ·
    clear hF
    rintro a W ⟨hA, hW, hF⟩
    refine (?_ : Ok _ _ _ _ _ _) a W hA hW
    clear hA hW
    refine Ok.cond (b := ((xc.1 == 1) || (xc.1 == 3))) rfl (fun hc9 => ?_) (fun hc9 => ?_)
    ·replace hF := hF.1 hc9
     refine Ok.skip ?_
     refine Ok.blockN ?_
     refine Ok.thenN ?_
     refine Ok.reval 5 rfl (show (.int .i64 0 : Value) = .int .i64 (hcelV0 xc) from congrArg (Value.int .i64) ((Eq.trans ((if_t hc9).symm) ((if_f hc7).symm)))) ?_
     exact fun a W hA hW => ⟨hA.sub (by kernel_rfl), hW, hF⟩
    ·replace hF := hF.2 hc9
     refine Ok.seq ?_
     refine Ok.region ?_
     refine Ok.batch 2 [(2, .pointer (some ⟨b1, 0, none⟩)), (3, .pointer (some ⟨b2, 0, none⟩)), (17, .bool (xc.1 == 2))] (by kernel_rfl) ?_
     refine Ok.nil ?_
     refine Ok.thenN ?_
     refine Ok.cond (b := (xc.1 == 2)) rfl (fun hc10 => ?_) (fun hc10 => ?_)
     ·replace hF := hF.1 hc10
      refine Ok.region ?_
      refine Ok.batch 1 [(2, .pointer (some ⟨b1, 0, none⟩)), (3, .pointer (some ⟨b2, 0, none⟩)), (19, .pointer (some ⟨b2, 2, none⟩))] (by kernel_rfl) ?_
      refine Ok.op rfl (OpOk.step (v := .slice axc_1 xc.2.2.length cxc_1) (Yields.load 0 rfl rfl Try.underlying29 rfl (by kernel_rfl)) rfl rfl ?_)
      refine Ok.batch 2 [(2, .pointer (some ⟨b1, 0, none⟩)), (3, .pointer (some ⟨b2, 0, none⟩)), (5, .int .i64 (xc.2.2.length : Int))] (by kernel_rfl) ?_
      refine Ok.nil ?_
      refine Ok.blockN ?_
      refine Ok.thenN ?_
      refine Ok.reval 5 rfl (show (.int .i64 (xc.2.2.length : Int) : Value) = .int .i64 (hcelV0 xc) from congrArg (Value.int .i64) ((Eq.trans ((if_f hc9).symm) ((if_f hc7).symm)))) ?_
      exact fun a W hA hW => ⟨hA.sub (by kernel_rfl), hW, hF⟩
     ·replace hF := hF.2 hc10
      refine Ok.seq ?_
      refine Ok.region ?_
      refine Ok.batch 1 [(4, .bool false)] (by kernel_rfl) ?_
      refine Ok.nil ?_
      refine Ok.thenN ?_
      refine Ok.ret ?_
      refine Ok.blockR ?_
      refine Ok.thenR ?_
      exact Ok.resP (vs := [.bool false]) [] [] (by decide) rfl (.inl rfl) rfl (.cons (.tmp rfl) .nil) (Gext.refl w0 g) ⟨false, rfl, rfl, hF⟩
 ·
  clear hF
  rintro a W ⟨hA, hW, hF⟩
  refine (?_ : Ok _ _ _ _ _ _) a W hA hW
  clear hA hW
  refine Ok.cut (fun a W => StA 39 [(4, .bool (hcelV1 xh xc))] a ∧ StW w0 [] g W ∧ hcelj34 xh xc K) ?_ ?_
  ·
   refine Ok.region ?_
   refine Ok.batch 1 [(2, .pointer (some ⟨b1, 0, none⟩)), (3, .pointer (some ⟨b2, 0, none⟩)), (5, .int .i64 (hcelV0 xc)), (22, .pointer (some ⟨b2, 1, none⟩))] (by kernel_rfl) ?_
   refine Ok.op rfl (OpOk.step (v := .slice axc_0 xc.2.1.length cxc_0) (Yields.load 0 rfl rfl Try.underlying70 rfl (by kernel_rfl)) rfl rfl ?_)
   refine Ok.batch 4 [(2, .pointer (some ⟨b1, 0, none⟩)), (3, .pointer (some ⟨b2, 0, none⟩)), (27, .bool ((xc.2.1.length : Int) == (hcelV0 xc)))] (by kernel_rfl) ?_
   refine Ok.boolAt 27 (((xc.2.1.length : Int) == (hcelV0 xc))) rfl (fun hc3 => ?_) (fun hc3 => ?_)
   ·replace hF := hF.1 hc3
    refine Ok.batch 1 [(2, .pointer (some ⟨b1, 0, none⟩)), (3, .pointer (some ⟨b2, 0, none⟩)), (27, .bool true), (28, .pointer (some ⟨b2, 1, none⟩))] (by kernel_rfl) ?_
    refine Ok.opYes (j := 5) (d := 27) (want := true) (b := true) rfl (by kernel_rfl) (by kernel_rfl) rfl (OpOk.step (v := .slice axc_0 xc.2.1.length cxc_0) (Yields.load 0 rfl rfl Try.underlying70 rfl (by kernel_rfl)) rfl rfl ?_)
    obtain ⟨hp4, hF⟩ := hF
    refine Ok.opYes (j := 5) (d := 27) (want := true) (b := true) rfl (by kernel_rfl) (by kernel_rfl) rfl (OpOk.callG (v := .bool (hrisS xc.2.1)) (enters (by kernel_rfl) (fun _ => by kernel_rfl)) (fun W hW => hris_c xc.2.1 (hRxc_0.mono hW.sees) hp4) rfl ?_)
    refine Ok.batch 2 [(2, .pointer (some ⟨b1, 0, none⟩)), (3, .pointer (some ⟨b2, 0, none⟩)), (32, .bool (hrisS xc.2.1))] (by kernel_rfl) ?_
    refine Ok.boolAt 32 ((hrisS xc.2.1)) rfl (fun hc5 => ?_) (fun hc5 => ?_)
    ·replace hF := hF.1 hc5
     refine Ok.batch 1 [(2, .pointer (some ⟨b1, 0, none⟩)), (32, .bool true), (33, .pointer (some ⟨b2, 2, none⟩))] (by kernel_rfl) ?_
     refine Ok.opYes (j := 10) (d := 32) (want := true) (b := true) rfl (by kernel_rfl) (by kernel_rfl) rfl (OpOk.step (v := .slice axc_1 xc.2.2.length cxc_1) (Yields.load 0 rfl rfl Try.underlying29 rfl (by kernel_rfl)) rfl rfl ?_)
     refine Ok.batch 1 [(32, .bool true), (34, .slice axc_1 xc.2.2.length cxc_1), (35, .func (.func 88) #[] #[.pointer (some ⟨b1, 0, none⟩)])] (by kernel_rfl) ?_
     obtain ⟨hp6, hF⟩ := hF
     refine Ok.opYes (j := 10) (d := 32) (want := true) (b := true) rfl (by kernel_rfl) (by kernel_rfl) rfl (OpOk.callG (v := .bool (vcfS xc.2.2 (fun y0 => hcl1M y0 xh))) (enters (by kernel_rfl) (fun _ => by kernel_rfl)) (fun W hW => vcf_c (vxf := .func (.func 88) #[] #[.pointer (some ⟨b1, 0, none⟩)]) xc.2.2 (fun y0 => hcl1M y0 xh) (fun _ => True) (hRxc_1.mono hW.sees) (fun y0 hq => ⟨88, _, fun _ => by kernel_rfl, hcl1_c y0 xh ⟨[.slice axh_0 xh.length cxh_0], rfl, (hW.seeBlk 1 rfl 0 [.slice axh_0 xh.length cxh_0] rfl), (hRxh_0.mono hW.sees)⟩⟩) hp6) rfl ?_)
     refine Ok.batch 3 [(4, .bool (!(vcfS xc.2.2 (fun y0 => hcl1M y0 xh))))] (by kernel_rfl) ?_
     refine Ok.nil ?_
     refine Ok.thenN ?_
     refine Ok.reval 4 rfl (show (.bool (!(vcfS xc.2.2 (fun y0 => hcl1M y0 xh))) : Value) = .bool (hcelV1 xh xc) from congrArg (Value.bool) ((Eq.trans (mand_t hc5) (mand_t hc3)))) ?_
     exact fun a W hA hW => ⟨hA.sub (by kernel_rfl), hW.sub (.cons _ (.cons _ .slnil)), hF⟩
    ·replace hF := hF.2 hc5
     refine Ok.batch 7 [(4, .bool false)] (by kernel_rfl) ?_
     refine Ok.nil ?_
     refine Ok.thenN ?_
     refine Ok.reval 4 rfl (show (.bool false : Value) = .bool (hcelV1 xh xc) from congrArg (Value.bool) ((Eq.trans (mand_f hc5) (mand_t hc3)))) ?_
     exact fun a W hA hW => ⟨hA.sub (by kernel_rfl), hW.sub (.cons _ (.cons _ .slnil)), hF⟩
   ·replace hF := hF.2 hc3
    refine Ok.batch 12 [(4, .bool false)] (by kernel_rfl) ?_
    refine Ok.nil ?_
    refine Ok.thenN ?_
    refine Ok.reval 4 rfl (show (.bool false : Value) = .bool (hcelV1 xh xc) from congrArg (Value.bool) (mand_f hc3)) ?_
    exact fun a W hA hW => ⟨hA.sub (by kernel_rfl), hW.sub (.cons _ (.cons _ .slnil)), hF⟩
  ·
   clear hF
   rintro a W ⟨hA, hW, hF⟩
   refine (?_ : Ok _ _ _ _ _ _) a W hA hW
   clear hA hW
   refine Ok.ret ?_
   exact Ok.resH (vs := [.bool (hcelV1 xh xc)]) (.inl rfl) rfl (.cons (.tmp rfl) .nil) (Gext.refl w0 g) ⟨(hcelV1 xh xc), rfl, rfl, hF⟩
def hcelS (h : List JC) (c : JC) : Bool := if (c.1 == 0) = true then (if decide ((c.2.2.length : Int) > 0) = true then false else hcelV1 h c) else if ((c.1 == 1) || (c.1 == 3)) = true then hcelV1 h c else if (c.1 == 2) = true then hcelV1 h c else false
def hcelP (_ : List JC) (c : JC) : Prop := c.2.2.length ≤ 200
theorem hcel_F (h : List JC) (c : JC) (hp : hcelP h c) : hcelF h c (fun r => r = hcelS h c) := by
 unfold hcelP at hp
 have hv : hcelV0 c ≤ 200 := by
  unfold hcelV0
  split
  ·omega
  ·split <;> omega
 have j5 : ∀ R, R = hcelV1 h c → hcelj5 h c (fun r => r = R) := fun R hR => by
  have j34 : hcelj34 h c (fun r => r = R) := hR.symm
  refine ⟨fun h1 => ⟨?_, fun _ => ⟨⟨by omega, fun _ => trivial⟩, j34⟩, fun _ => j34⟩, fun _ => j34⟩
  have := eq_of_beq h1
  unfold hrisP; omega
 have j19 : (c.1 == 0) = false → hcelj19 h c (fun r => r = hcelS h c) := fun h0 => by
  refine ⟨fun h1 => j5 _ ?_, fun h1 => ⟨fun h2 => j5 _ ?_, fun h2 => ?_⟩⟩
  ·unfold hcelS; rw [if_f h0, if_t h1]
  ·unfold hcelS; rw [if_f h0, if_f h1, if_t h2]
  ·unfold hcelS; rw [if_f h0, if_f h1, if_f h2]
 refine ⟨fun h0 => ⟨fun h1 => ?_, fun h1 => j5 _ ?_⟩, fun h0 => ⟨fun _ => j19 h0, fun _ => j19 h0⟩⟩
 ·unfold hcelS; rw [if_t h0, if_t h1]
 ·unfold hcelS; rw [if_t h0, if_f h1]
set_option linter.unusedVariables false in
theorem hcel_c {g : Ghost} {axh_0 : Option Addr} {cxh_0 : Nat} (xh : List (Int × List (List UInt8) × List (Int × Int × List UInt8))) {axc_0 : Option Addr} {cxc_0 : Nat} {axc_1 : Option Addr} {cxc_1 : Nat} (xc : Int × List (List UInt8) × List (Int × Int × List UInt8)) (hRxh_0 : Rep g (.slice (.pair (.int .i64) (.pair (.slice (.str)) (.slice (.pair (.int .i64) (.pair (.int .i64) (.str))))))) [.slice axh_0 xh.length cxh_0] xh) (hRxc_0 : Rep g (.slice (.str)) [.slice axc_0 xc.2.1.length cxc_0] xc.2.1) (hRxc_1 : Rep g (.slice (.pair (.int .i64) (.pair (.int .i64) (.str)))) [.slice axc_1 xc.2.2.length cxc_1] xc.2.2)  (hp : hcelP xh xc) : CallsG Try.prog 62 #[.slice axh_0 xh.length cxh_0, .agg #[.int .i64 xc.1, .slice axc_0 xc.2.1.length cxc_0, .slice axc_1 xc.2.2.length cxc_1]] g (.bool (hcelS xh xc)) :=
 (hcel_ok xh xc hRxh_0 hRxc_0 hRxc_1 _ (hcel_F xh xc hp)).gives (by rintro g' H' v _ ⟨r0, rfl, rfl, hK⟩; subst hK; rfl)
def hchkl38b (xh : List (Int × List (List UInt8) × List (JV))) (K : Int → Prop) (x23l38 : Int) (C38 : Int → Prop) : Prop :=
 ((decide (x23l38 < (xh.length : Int))) = true → (0 : Int) ≤ x23l38 ∧ Int.toNat x23l38 < xh.length ∧ hcelP xh (xh.getD (Int.toNat x23l38) default) ∧ ((!(hcelS xh (xh.getD (Int.toNat x23l38) default))) = true → K 3) ∧ ((!(hcelS xh (xh.getD (Int.toNat x23l38) default))) = false → C38 (IntKind.wrap .i64 (x23l38 + 1)))) ∧ ((decide (x23l38 < (xh.length : Int))) = false → K 0)
def hchkl38 (xh : List (Int × List (List UInt8) × List (JV))) (K : Int → Prop) : Nat → Int → Prop
 | 0, _ => False
 | k + 1, x23l38 => hchkl38b xh K x23l38 (hchkl38 xh K k)
def hchkl15b (xh : List (Int × List (List UInt8) × List (JV))) (K : Int → Prop) (x12l15 : Int) (C15 : Int → Prop) : Prop :=
 ((decide (x12l15 < (xh.length : Int))) = true → (0 : Int) ≤ x12l15 ∧ Int.toNat x12l15 < xh.length ∧ ((decide (((xh.getD (Int.toNat x12l15) default).2.2.length : Int) > 200)) = true → K 2) ∧ ((decide (((xh.getD (Int.toNat x12l15) default).2.2.length : Int) > 200)) = false → C15 (IntKind.wrap .i64 (x12l15 + 1)))) ∧ ((decide (x12l15 < (xh.length : Int))) = false → ∃ k, hchkl38 xh K k 0)
def hchkl15 (xh : List (Int × List (List UInt8) × List (JV))) (K : Int → Prop) : Nat → Int → Prop
 | 0, _ => False
 | k + 1, x12l15 => hchkl15b xh K x12l15 (hchkl15 xh K k)
def hchkF (xh : List (Int × List (List UInt8) × List (JV))) (K : Int → Prop) : Prop :=
 ((decide ((xh.length : Int) > 300)) = true → K 2) ∧ ((decide ((xh.length : Int) > 300)) = false → ∃ k, hchkl15 xh K k 0)
set_option maxHeartbeats 4000000 in
set_option maxRecDepth 100000 in
set_option linter.unusedVariables false in
theorem hchk_ok {g : Ghost} {axh_0 : Option Addr} {cxh_0 : Nat} (xh : List (Int × List (List UInt8) × List (JV))) (hRxh_0 : Rep g (.slice (.pair (.int .i64) (.pair (.slice (.str)) (.slice (.pair (.int .i64) (.pair (.int .i64) (.str))))))) [.slice axh_0 xh.length cxh_0] xh) (K : Int → Prop)
  (hF : hchkF xh K) : CallsH Try.prog 27 #[.slice axh_0 xh.length cxh_0] g [] (fun g' H' v => ∃ (r0 : Int), v = .int .i64 r0 ∧ H' = [] ∧ K r0) := by
 refine CallsH.enter 32 [(0, .slice axh_0 xh.length cxh_0)] Try.func27 rfl (by kernel_rfl) (by kernel_rfl) (by kernel_rfl) fun w0 => ?_
 refine Ok.seq ?_
 refine Ok.region ?_
 refine Ok.batch 1 [(0, .slice axh_0 xh.length cxh_0)] (by kernel_rfl) ?_
 refine Ok.nil ?_
 refine Ok.thenN ?_
 refine Ok.seq ?_
 refine Ok.seq ?_
 refine Ok.region ?_
 refine Ok.batch 3 [(0, .slice axh_0 xh.length cxh_0), (9, .bool (decide ((xh.length : Int) > 300)))] (by kernel_rfl) ?_
 refine Ok.nil ?_
 refine Ok.thenN ?_
 refine Ok.cond (b := decide ((xh.length : Int) > 300)) rfl (fun hc1 => ?_) (fun hc1 => ?_)
 ·replace hF := hF.1 hc1
  refine Ok.seq ?_
  refine Ok.region ?_
  refine Ok.batch 1 [(2, .int .i64 2)] (by kernel_rfl) ?_
  refine Ok.nil ?_
  refine Ok.thenN ?_
  refine Ok.ret ?_
  refine Ok.thenR ?_
  exact Ok.resH (vs := [.int .i64 2]) (.inl rfl) rfl (.cons (.tmp rfl) .nil) (Gext.refl w0 g) ⟨2, rfl, rfl, hF⟩
 ·replace hF := hF.2 hc1
  refine Ok.skip ?_
  refine Ok.thenN ?_
  refine Ok.seq ?_
  refine Ok.seq ?_
  refine Ok.region ?_
  refine Ok.batch 3 [(0, .slice axh_0 xh.length cxh_0), (10, .slice axh_0 xh.length cxh_0), (11, .int .i64 (xh.length : Int)), (12, .int .i64 0)] (by kernel_rfl) ?_
  refine Ok.nil ?_
  refine Ok.thenN ?_
  refine Ok.block ?_
  obtain ⟨k, hF⟩ := hF
  refine Ok.loop (fun k a W => ∃ (x12l15 : Int), StA 32 [(0, .slice axh_0 xh.length cxh_0), (10, .slice axh_0 xh.length cxh_0), (11, .int .i64 (xh.length : Int)), (12, .int .i64 x12l15)] a ∧ StW w0 [] g W ∧ hchkl15 xh K k x12l15) k ?_ ?_
  ·
   exact fun a W hA hW => ⟨0, hA.sub (by kernel_rfl), hW, hF⟩
  ·
   clear hF
   rintro k15 a W ⟨x12l15, hA, hW, hF⟩
   cases k15 with
   | zero => exact (hF : False).elim
   | succ k15 =>
    refine (?_ : Ok _ _ _ _ _ _) a W hA hW
    clear hA hW
    refine Ok.seq ?_
    refine Ok.region ?_
    refine Ok.batch 1 [(0, .slice axh_0 xh.length cxh_0), (10, .slice axh_0 xh.length cxh_0), (11, .int .i64 (xh.length : Int)), (12, .int .i64 x12l15), (13, .bool (decide (x12l15 < (xh.length : Int))))] (by kernel_rfl) ?_
    refine Ok.nil ?_
    refine Ok.thenN ?_
    refine Ok.seq ?_
    refine Ok.cond (b := decide (x12l15 < (xh.length : Int))) rfl (fun hc2 => ?_) (fun hc2 => ?_)
    ·replace hF := hF.1 hc2
     refine Ok.skip ?_
     refine Ok.thenN ?_
     refine Ok.seq ?_
     refine Ok.block ?_
     refine Ok.seq ?_
     refine Ok.region ?_
     obtain ⟨h04, h14, hF⟩ := hF
     have he4 := get_of (l := xh) (default : Int × List (List UInt8) × List (JV)) h14
     generalize hg4 : (xh.getD (Int.toNat x12l15) default) = e4 at he4 hF ⊢
     refine Ok.op rfl (OpOk.indexRo (e := .pair (.int .i64) (.pair (.slice (.str)) (.slice (.pair (.int .i64) (.pair (.int .i64) (.str)))))) (i := x12l15) (el := e4) rfl rfl Try.underlying22 (by kernel_rfl) hRxh_0 h04 he4 rfl fun q3 o3 cs3 _ hat3 hr3 => ?_)
     obtain ⟨_, _, rfl, rfl, ⟨_, _, rfl, ⟨a3_1, c3_1, rfl, hm3_1, hr3_1⟩, ⟨a3_2, c3_2, rfl, hm3_2, hr3_2⟩⟩⟩ := hr3
     have hR3_1 : Rep g (.slice (.str)) [.slice a3_1 e4.2.1.length c3_1] e4.2.1 := ⟨a3_1, c3_1, rfl, hm3_1, hr3_1⟩
     have hR3_2 : Rep g (.slice (.pair (.int .i64) (.pair (.int .i64) (.str)))) [.slice a3_2 e4.2.2.length c3_2] e4.2.2 := ⟨a3_2, c3_2, rfl, hm3_2, hr3_2⟩
     replace hat3 : At g q3 o3 [.int .i64 e4.1, .slice a3_1 e4.2.1.length c3_1, .slice a3_2 e4.2.2.length c3_2] := hat3
     refine Ok.op rfl (OpOk.step (v := .agg #[.int .i64 e4.1, .slice a3_1 e4.2.1.length c3_1, .slice a3_2 e4.2.2.length c3_2]) (Yields.loadAggRo 0 3 #[.int .i64 e4.1, .slice a3_1 e4.2.1.length c3_1, .slice a3_2 e4.2.2.length c3_2] hat3 (by kernel_rfl) Try.underlying72 rfl (by kernel_rfl) (by kernel_rfl) (by kernel_rfl)) rfl rfl ?_)
     refine Ok.op rfl (OpOk.alloc (z := .agg #[.int .i64 0, .slice none 0 0, .slice none 0 0]) (cs := #[.int .i64 0, .slice none 0 0, .slice none 0 0]) (by kernel_rfl) (by kernel_rfl) rfl fun b5 => ?_)
     refine Ok.op rfl (OpOk.store (k := 3) (v := .agg #[.int .i64 e4.1, .slice a3_1 e4.2.1.length c3_1, .slice a3_2 e4.2.2.length c3_2]) (H' := [.blk b5 (.cells #[.int .i64 e4.1, .slice a3_1 e4.2.1.length c3_1, .slice a3_2 e4.2.2.length c3_2] 72)]) 0 rfl rfl rfl (by kernel_rfl) (by kernel_rfl) (by kernel_rfl) (by kernel_rfl) (by kernel_rfl) ?_)
     refine Ok.nil ?_
     refine Ok.thenN ?_
     refine Ok.seq ?_
     refine Ok.region ?_
     refine Ok.batch 1 [(0, .slice axh_0 xh.length cxh_0), (10, .slice axh_0 xh.length cxh_0), (11, .int .i64 (xh.length : Int)), (12, .int .i64 x12l15), (16, .pointer (some ⟨b5, 2, none⟩))] (by kernel_rfl) ?_
     refine Ok.op rfl (OpOk.step (v := .slice a3_2 e4.2.2.length c3_2) (Yields.load 0 rfl rfl Try.underlying29 rfl (by kernel_rfl)) rfl rfl ?_)
     refine Ok.batch 2 [(0, .slice axh_0 xh.length cxh_0), (10, .slice axh_0 xh.length cxh_0), (11, .int .i64 (xh.length : Int)), (12, .int .i64 x12l15), (19, .bool (decide ((e4.2.2.length : Int) > 200)))] (by kernel_rfl) ?_
     refine Ok.nil ?_
     refine Ok.thenN ?_
     refine Ok.cond (b := decide ((e4.2.2.length : Int) > 200)) rfl (fun hc6 => ?_) (fun hc6 => ?_)
     ·replace hF := hF.1 hc6
      refine Ok.seq ?_
      refine Ok.region ?_
      refine Ok.batch 1 [(2, .int .i64 2)] (by kernel_rfl) ?_
      refine Ok.nil ?_
      refine Ok.thenN ?_
      refine Ok.ret ?_
      refine Ok.blockR ?_
      refine Ok.thenR ?_
      refine Ok.thenR ?_
      refine Ok.blockR ?_
      refine Ok.thenR ?_
      exact Ok.resP (vs := [.int .i64 2]) [] [] (by decide) rfl (.inl rfl) rfl (.cons (.tmp rfl) .nil) (Gext.refl w0 g) ⟨2, rfl, rfl, hF⟩
     ·replace hF := hF.2 hc6
      refine Ok.skip ?_
      refine Ok.blockN ?_
      refine Ok.thenN ?_
      refine Ok.region ?_
      refine Ok.batch 2 [(0, .slice axh_0 xh.length cxh_0), (10, .slice axh_0 xh.length cxh_0), (11, .int .i64 (xh.length : Int)), (12, .int .i64 (IntKind.wrap .i64 (x12l15 + 1)))] (by kernel_rfl) ?_
      refine Ok.nil ?_
      refine Ok.thenN ?_
      subst hg4
      exact fun a W hA hW => ⟨k15, Nat.lt_succ_self _, IntKind.wrap .i64 (x12l15 + 1), hA.sub (by kernel_rfl), hW.sub (.cons _ .slnil), hF⟩
    ·replace hF := hF.2 hc2
     refine Ok.exit ?_
     refine Ok.thenE ?_
     refine Ok.thenE ?_
     refine Ok.blockHit ?_
     refine Ok.thenN ?_
     refine Ok.seq ?_
     refine Ok.seq ?_
     refine Ok.region ?_
     refine Ok.batch 3 [(0, .slice axh_0 xh.length cxh_0), (21, .slice axh_0 xh.length cxh_0), (22, .int .i64 (xh.length : Int)), (23, .int .i64 0)] (by kernel_rfl) ?_
     refine Ok.nil ?_
     refine Ok.thenN ?_
     refine Ok.block ?_
     obtain ⟨k, hF⟩ := hF
     refine Ok.loop (fun k a W => ∃ (x23l38 : Int), StA 32 [(0, .slice axh_0 xh.length cxh_0), (21, .slice axh_0 xh.length cxh_0), (22, .int .i64 (xh.length : Int)), (23, .int .i64 x23l38)] a ∧ StW w0 [] g W ∧ hchkl38 xh K k x23l38) k ?_ ?_
     ·
      exact fun a W hA hW => ⟨0, hA.sub (by kernel_rfl), hW, hF⟩
     ·
      clear hF
      rintro k38 a W ⟨x23l38, hA, hW, hF⟩
      cases k38 with
      | zero => exact (hF : False).elim
      | succ k38 =>
       refine (?_ : Ok _ _ _ _ _ _) a W hA hW
       clear hA hW
       refine Ok.seq ?_
       refine Ok.region ?_
       refine Ok.batch 1 [(0, .slice axh_0 xh.length cxh_0), (21, .slice axh_0 xh.length cxh_0), (22, .int .i64 (xh.length : Int)), (23, .int .i64 x23l38), (24, .bool (decide (x23l38 < (xh.length : Int))))] (by kernel_rfl) ?_
       refine Ok.nil ?_
       refine Ok.thenN ?_
       refine Ok.seq ?_
       refine Ok.cond (b := decide (x23l38 < (xh.length : Int))) rfl (fun hc7 => ?_) (fun hc7 => ?_)
       ·replace hF := hF.1 hc7
        refine Ok.skip ?_
        refine Ok.thenN ?_
        refine Ok.seq ?_
        refine Ok.block ?_
        refine Ok.seq ?_
        refine Ok.region ?_
        obtain ⟨h09, h19, hF⟩ := hF
        have he9 := get_of (l := xh) (default : Int × List (List UInt8) × List (JV)) h19
        generalize hg9 : (xh.getD (Int.toNat x23l38) default) = e9 at he9 hF ⊢
        refine Ok.op rfl (OpOk.indexRo (e := .pair (.int .i64) (.pair (.slice (.str)) (.slice (.pair (.int .i64) (.pair (.int .i64) (.str)))))) (i := x23l38) (el := e9) rfl rfl Try.underlying22 (by kernel_rfl) hRxh_0 h09 he9 rfl fun q8 o8 cs8 _ hat8 hr8 => ?_)
        obtain ⟨_, _, rfl, rfl, ⟨_, _, rfl, ⟨a8_1, c8_1, rfl, hm8_1, hr8_1⟩, ⟨a8_2, c8_2, rfl, hm8_2, hr8_2⟩⟩⟩ := hr8
        have hR8_1 : Rep g (.slice (.str)) [.slice a8_1 e9.2.1.length c8_1] e9.2.1 := ⟨a8_1, c8_1, rfl, hm8_1, hr8_1⟩
        have hR8_2 : Rep g (.slice (.pair (.int .i64) (.pair (.int .i64) (.str)))) [.slice a8_2 e9.2.2.length c8_2] e9.2.2 := ⟨a8_2, c8_2, rfl, hm8_2, hr8_2⟩
        replace hat8 : At g q8 o8 [.int .i64 e9.1, .slice a8_1 e9.2.1.length c8_1, .slice a8_2 e9.2.2.length c8_2] := hat8
        refine Ok.op rfl (OpOk.step (v := .agg #[.int .i64 e9.1, .slice a8_1 e9.2.1.length c8_1, .slice a8_2 e9.2.2.length c8_2]) (Yields.loadAggRo 0 3 #[.int .i64 e9.1, .slice a8_1 e9.2.1.length c8_1, .slice a8_2 e9.2.2.length c8_2] hat8 (by kernel_rfl) Try.underlying72 rfl (by kernel_rfl) (by kernel_rfl) (by kernel_rfl)) rfl rfl ?_)
        refine Ok.op rfl (OpOk.alloc (z := .agg #[.int .i64 0, .slice none 0 0, .slice none 0 0]) (cs := #[.int .i64 0, .slice none 0 0, .slice none 0 0]) (by kernel_rfl) (by kernel_rfl) rfl fun b10 => ?_)
        refine Ok.op rfl (OpOk.store (k := 3) (v := .agg #[.int .i64 e9.1, .slice a8_1 e9.2.1.length c8_1, .slice a8_2 e9.2.2.length c8_2]) (H' := [.blk b10 (.cells #[.int .i64 e9.1, .slice a8_1 e9.2.1.length c8_1, .slice a8_2 e9.2.2.length c8_2] 72)]) 0 rfl rfl rfl (by kernel_rfl) (by kernel_rfl) (by kernel_rfl) (by kernel_rfl) (by kernel_rfl) ?_)
        refine Ok.nil ?_
        refine Ok.thenN ?_
        refine Ok.seq ?_
        refine Ok.region ?_
        refine Ok.batch 1 [(0, .slice axh_0 xh.length cxh_0), (6, .pointer (some ⟨b10, 0, none⟩)), (21, .slice axh_0 xh.length cxh_0), (22, .int .i64 (xh.length : Int)), (23, .int .i64 x23l38), (27, .slice axh_0 xh.length cxh_0)] (by kernel_rfl) ?_
        refine Ok.op rfl (OpOk.step (v := .agg #[.int .i64 e9.1, .slice a8_1 e9.2.1.length c8_1, .slice a8_2 e9.2.2.length c8_2]) (Yields.loadAgg 0 3 #[.int .i64 e9.1, .slice a8_1 e9.2.1.length c8_1, .slice a8_2 e9.2.2.length c8_2] rfl rfl Try.underlying72 rfl (by kernel_rfl) (by kernel_rfl) (by kernel_rfl)) rfl rfl ?_)
        obtain ⟨hp11, hF⟩ := hF
        refine Ok.op rfl (OpOk.callG (v := .bool (hcelS xh e9)) (enters (by kernel_rfl) (fun _ => by kernel_rfl)) (fun W hW => hcel_c xh e9 (hRxh_0.mono hW.sees) (hR8_1.mono hW.sees) (hR8_2.mono hW.sees) hp11) rfl ?_)
        refine Ok.batch 1 [(0, .slice axh_0 xh.length cxh_0), (21, .slice axh_0 xh.length cxh_0), (22, .int .i64 (xh.length : Int)), (23, .int .i64 x23l38), (30, .bool (!(hcelS xh e9)))] (by kernel_rfl) ?_
        refine Ok.nil ?_
        refine Ok.thenN ?_
        refine Ok.cond (b := !(hcelS xh e9)) rfl (fun hc12 => ?_) (fun hc12 => ?_)
        ·replace hF := hF.1 hc12
         refine Ok.seq ?_
         refine Ok.region ?_
         refine Ok.batch 1 [(2, .int .i64 3)] (by kernel_rfl) ?_
         refine Ok.nil ?_
         refine Ok.thenN ?_
         refine Ok.ret ?_
         refine Ok.blockR ?_
         refine Ok.thenR ?_
         refine Ok.thenR ?_
         refine Ok.blockR ?_
         refine Ok.thenR ?_
         exact Ok.resP (vs := [.int .i64 3]) [] [] (by decide) rfl (.inl rfl) rfl (.cons (.tmp rfl) .nil) (Gext.refl w0 g) ⟨3, rfl, rfl, hF⟩
        ·replace hF := hF.2 hc12
         refine Ok.skip ?_
         refine Ok.blockN ?_
         refine Ok.thenN ?_
         refine Ok.region ?_
         refine Ok.batch 2 [(0, .slice axh_0 xh.length cxh_0), (21, .slice axh_0 xh.length cxh_0), (22, .int .i64 (xh.length : Int)), (23, .int .i64 (IntKind.wrap .i64 (x23l38 + 1)))] (by kernel_rfl) ?_
         refine Ok.nil ?_
         refine Ok.thenN ?_
         subst hg9
         exact fun a W hA hW => ⟨k38, Nat.lt_succ_self _, IntKind.wrap .i64 (x23l38 + 1), hA.sub (by kernel_rfl), hW.sub (.cons _ .slnil), hF⟩
       ·replace hF := hF.2 hc7
        refine Ok.exit ?_
        refine Ok.thenE ?_
        refine Ok.thenE ?_
        refine Ok.blockHit ?_
        refine Ok.thenN ?_
        refine Ok.seq ?_
        refine Ok.region ?_
        refine Ok.batch 1 [(2, .int .i64 0)] (by kernel_rfl) ?_
        refine Ok.nil ?_
        refine Ok.thenN ?_
        refine Ok.ret ?_
        exact Ok.resH (vs := [.int .i64 0]) (.inl rfl) rfl (.cons (.tmp rfl) .nil) (Gext.refl w0 g) ⟨0, rfl, rfl, hF⟩
def bigC (c : JC) : Bool := decide ((c.2.2.length : Int) > 200)
def hchkS (h : List JC) : Int := if decide ((h.length : Int) > 300) = true then 2 else if h.any bigC = true then 2 else if h.all (hcelS h) = true then 0 else 3
theorem hchk_F (h : List JC) : hchkF h (fun r => r = hchkS h) := by
 refine ⟨fun h1 => by unfold hchkS; rw [if_t h1], fun h1 => ?_⟩
 have hl := of_decide_eq_false h1
 have cells : h.any bigC = false → ∀ (k i : Nat), i + k = h.length → h.all (hcelS h) = (h.drop i).all (hcelS h) → hchkl38 h (fun r => r = hchkS h) (k + 1) (i : Int) := by
  intro hb k
  have hR : hchkS h = if h.all (hcelS h) = true then 0 else 3 := by unfold hchkS; rw [if_f h1, if_f hb]
  induction k with
  | zero =>
   intro i hi he
   rw [List.drop_of_length_le (by omega)] at he
   exact ⟨fun h2 => by have := of_decide_eq_true h2; omega, fun _ => by rw [hR, he]; rfl⟩
  | succ k ih =>
   intro i hi he
   rw [drop_get (l := h) default (by omega), List.all_cons] at he
   refine ⟨fun _ => ⟨by omega, by omega, ?_, fun hc => ?_, fun hc => ?_⟩, fun h2 => by have := of_decide_eq_false h2; omega⟩
   ·rw [Int.toNat_natCast]
    have := List.any_eq_false.1 hb _ (mem_getD default (show i < h.length by omega))
    unfold bigC at this
    unfold hcelP
    simp at this ⊢; omega
   ·rw [Int.toNat_natCast, Bool.not_eq_true'] at hc
    rw [hc, Bool.false_and] at he
    rw [hR, he]; rfl
   ·rw [Int.toNat_natCast, Bool.not_eq_false'] at hc
    rw [hc, Bool.true_and] at he
    rw [w64 (by omega)]
    exact ih (i + 1) (by omega) he
 have sizes : ∀ (k i : Nat), i + k = h.length → h.any bigC = (h.drop i).any bigC → hchkl15 h (fun r => r = hchkS h) (k + 1) (i : Int) := by
  intro k
  induction k with
  | zero =>
   intro i hi he
   rw [List.drop_of_length_le (by omega)] at he
   exact ⟨fun h2 => by have := of_decide_eq_true h2; omega, fun _ => ⟨_, cells he h.length 0 (by omega) rfl⟩⟩
  | succ k ih =>
   intro i hi he
   rw [drop_get (l := h) default (by omega), List.any_cons] at he
   refine ⟨fun _ => ⟨by omega, by omega, fun hc => ?_, fun hc => ?_⟩, fun h2 => by have := of_decide_eq_false h2; omega⟩
   ·rw [Int.toNat_natCast] at hc
    rw [show bigC (h.getD i default) = true from hc, Bool.true_or] at he
    unfold hchkS; rw [if_f h1, if_t he]
   ·rw [Int.toNat_natCast] at hc
    rw [show bigC (h.getD i default) = false from hc, Bool.false_or] at he
    rw [w64 (by omega)]
    exact ih (i + 1) (by omega) he
 exact ⟨_, sizes h.length 0 (by omega) rfl⟩
set_option linter.unusedVariables false in
theorem hchk_c {g : Ghost} {axh_0 : Option Addr} {cxh_0 : Nat} (xh : List (Int × List (List UInt8) × List (Int × Int × List UInt8))) (hRxh_0 : Rep g (.slice (.pair (.int .i64) (.pair (.slice (.str)) (.slice (.pair (.int .i64) (.pair (.int .i64) (.str))))))) [.slice axh_0 xh.length cxh_0] xh)  : CallsG Try.prog 27 #[.slice axh_0 xh.length cxh_0] g (.int .i64 (hchkS xh)) :=
 (hchk_ok xh hRxh_0 _ (hchk_F xh)).gives (by rintro g' H' v _ ⟨r0, rfl, rfl, hK⟩; subst hK; rfl)
def haskl17b (xh : List (Int × List (List UInt8) × List (JV))) (xroots : List (JV)) (K : Int → Prop) (x15l17 : Int) (C17 : Int → Prop) : Prop :=
 ((decide (x15l17 < (xroots.length : Int))) = true → (0 : Int) ≤ x15l17 ∧ Int.toNat x15l17 < xroots.length ∧ ((!(hfitS xh (xroots.getD (Int.toNat x15l17) default))) = true → K 1) ∧ ((!(hfitS xh (xroots.getD (Int.toNat x15l17) default))) = false → C17 (IntKind.wrap .i64 (x15l17 + 1)))) ∧ ((decide (x15l17 < (xroots.length : Int))) = false → K 0)
def haskl17 (xh : List (Int × List (List UInt8) × List (JV))) (xroots : List (JV)) (K : Int → Prop) : Nat → Int → Prop
 | 0, _ => False
 | k + 1, x15l17 => haskl17b xh xroots K x15l17 (haskl17 xh xroots K k)
def haskF (xh : List (Int × List (List UInt8) × List (JV))) (xroots : List (JV)) (K : Int → Prop) : Prop :=
 ((((hchkS xh) != 0)) = true → K (hchkS xh)) ∧ ((((hchkS xh) != 0)) = false → ∃ k, haskl17 xh xroots K k 0)
set_option maxHeartbeats 4000000 in
set_option maxRecDepth 100000 in
set_option linter.unusedVariables false in
theorem hask_ok {g : Ghost} {axh_0 : Option Addr} {cxh_0 : Nat} (xh : List (Int × List (List UInt8) × List (JV))) {axroots_0 : Option Addr} {cxroots_0 : Nat} (xroots : List (JV)) (hRxh_0 : Rep g (.slice (.pair (.int .i64) (.pair (.slice (.str)) (.slice (.pair (.int .i64) (.pair (.int .i64) (.str))))))) [.slice axh_0 xh.length cxh_0] xh) (hRxroots_0 : Rep g (.slice (.pair (.int .i64) (.pair (.int .i64) (.str)))) [.slice axroots_0 xroots.length cxroots_0] xroots) (K : Int → Prop)
  (hF : haskF xh xroots K) : CallsH Try.prog 57 #[.slice axh_0 xh.length cxh_0, .slice axroots_0 xroots.length cxroots_0] g [] (fun g' H' v => ∃ (r0 : Int), v = .int .i64 r0 ∧ H' = [] ∧ K r0) := by
 refine CallsH.enter 24 [(0, .slice axh_0 xh.length cxh_0), (1, .slice axroots_0 xroots.length cxroots_0)] Try.func57 rfl (by kernel_rfl) (by kernel_rfl) (by kernel_rfl) fun w0 => ?_
 refine Ok.seq ?_
 refine Ok.region ?_
 refine Ok.batch 1 [(0, .slice axh_0 xh.length cxh_0), (1, .slice axroots_0 xroots.length cxroots_0)] (by kernel_rfl) ?_
 refine Ok.nil ?_
 refine Ok.thenN ?_
 refine Ok.seq ?_
 refine Ok.seq ?_
 refine Ok.region ?_
 refine Ok.batch 1 [(0, .slice axh_0 xh.length cxh_0), (1, .slice axroots_0 xroots.length cxroots_0), (8, .slice axh_0 xh.length cxh_0)] (by kernel_rfl) ?_
 refine Ok.op rfl (OpOk.callG (v := .int .i64 (hchkS xh)) (enters (by kernel_rfl) (fun _ => by kernel_rfl)) (fun W hW => hchk_c xh (hRxh_0.mono hW.sees)) rfl ?_)
 refine Ok.batch 1 [(0, .slice axh_0 xh.length cxh_0), (1, .slice axroots_0 xroots.length cxroots_0), (5, .int .i64 (hchkS xh))] (by kernel_rfl) ?_
 refine Ok.nil ?_
 refine Ok.thenN ?_
 refine Ok.seq ?_
 refine Ok.region ?_
 refine Ok.batch 2 [(0, .slice axh_0 xh.length cxh_0), (1, .slice axroots_0 xroots.length cxroots_0), (5, .int .i64 (hchkS xh)), (11, .bool ((hchkS xh) != 0))] (by kernel_rfl) ?_
 refine Ok.nil ?_
 refine Ok.thenN ?_
 refine Ok.cond (b := ((hchkS xh) != 0)) rfl (fun hc1 => ?_) (fun hc1 => ?_)
 ·replace hF := hF.1 hc1
  refine Ok.seq ?_
  refine Ok.region ?_
  refine Ok.batch 2 [(4, .int .i64 (hchkS xh))] (by kernel_rfl) ?_
  refine Ok.nil ?_
  refine Ok.thenN ?_
  refine Ok.ret ?_
  refine Ok.thenR ?_
  exact Ok.resH (vs := [.int .i64 (hchkS xh)]) (.inl rfl) rfl (.cons (.tmp rfl) .nil) (Gext.refl w0 g) ⟨(hchkS xh), rfl, rfl, hF⟩
 ·replace hF := hF.2 hc1
  refine Ok.skip ?_
  refine Ok.thenN ?_
  refine Ok.seq ?_
  refine Ok.seq ?_
  refine Ok.region ?_
  refine Ok.batch 3 [(0, .slice axh_0 xh.length cxh_0), (13, .slice axroots_0 xroots.length cxroots_0), (14, .int .i64 (xroots.length : Int)), (15, .int .i64 0)] (by kernel_rfl) ?_
  refine Ok.nil ?_
  refine Ok.thenN ?_
  refine Ok.block ?_
  obtain ⟨k, hF⟩ := hF
  refine Ok.loop (fun k a W => ∃ (x15l17 : Int), StA 24 [(0, .slice axh_0 xh.length cxh_0), (13, .slice axroots_0 xroots.length cxroots_0), (14, .int .i64 (xroots.length : Int)), (15, .int .i64 x15l17)] a ∧ StW w0 [] g W ∧ haskl17 xh xroots K k x15l17) k ?_ ?_
  ·
   exact fun a W hA hW => ⟨0, hA.sub (by kernel_rfl), hW, hF⟩
  ·
   clear hF
   rintro k17 a W ⟨x15l17, hA, hW, hF⟩
   cases k17 with
   | zero => exact (hF : False).elim
   | succ k17 =>
    refine (?_ : Ok _ _ _ _ _ _) a W hA hW
    clear hA hW
    refine Ok.seq ?_
    refine Ok.region ?_
    refine Ok.batch 1 [(0, .slice axh_0 xh.length cxh_0), (13, .slice axroots_0 xroots.length cxroots_0), (14, .int .i64 (xroots.length : Int)), (15, .int .i64 x15l17), (16, .bool (decide (x15l17 < (xroots.length : Int))))] (by kernel_rfl) ?_
    refine Ok.nil ?_
    refine Ok.thenN ?_
    refine Ok.seq ?_
    refine Ok.cond (b := decide (x15l17 < (xroots.length : Int))) rfl (fun hc2 => ?_) (fun hc2 => ?_)
    ·replace hF := hF.1 hc2
     refine Ok.skip ?_
     refine Ok.thenN ?_
     refine Ok.seq ?_
     refine Ok.block ?_
     refine Ok.seq ?_
     refine Ok.region ?_
     obtain ⟨h04, h14, hF⟩ := hF
     have he4 := get_of (l := xroots) (default : JV) h14
     generalize hg4 : (xroots.getD (Int.toNat x15l17) default) = e4 at he4 hF ⊢
     refine Ok.op rfl (OpOk.indexRo (e := .pair (.int .i64) (.pair (.int .i64) (.str))) (i := x15l17) (el := e4) rfl rfl Try.underlying29 (by kernel_rfl) hRxroots_0 h04 he4 rfl fun q3 o3 cs3 _ hat3 hr3 => ?_)
     obtain ⟨_, _, rfl, rfl, ⟨_, _, rfl, rfl, rfl⟩⟩ := hr3
     replace hat3 : At g q3 o3 [.int .i64 e4.1, .int .i64 e4.2.1, .string ⟨⟨e4.2.2⟩⟩] := hat3
     refine Ok.op rfl (OpOk.step (v := .agg #[.int .i64 e4.1, .int .i64 e4.2.1, .string ⟨⟨e4.2.2⟩⟩]) (Yields.loadAggRo 0 3 #[.int .i64 e4.1, .int .i64 e4.2.1, .string ⟨⟨e4.2.2⟩⟩] hat3 (by kernel_rfl) Try.underlying24 rfl (by kernel_rfl) (by kernel_rfl) (by kernel_rfl)) rfl rfl ?_)
     refine Ok.op rfl (OpOk.alloc (z := .agg #[.int .i64 0, .int .i64 0, .string ⟨⟨([] : List UInt8)⟩⟩]) (cs := #[.int .i64 0, .int .i64 0, .string ⟨⟨([] : List UInt8)⟩⟩]) (by kernel_rfl) (by kernel_rfl) rfl fun b5 => ?_)
     refine Ok.op rfl (OpOk.store (k := 3) (v := .agg #[.int .i64 e4.1, .int .i64 e4.2.1, .string ⟨⟨e4.2.2⟩⟩]) (H' := [.blk b5 (.cells #[.int .i64 e4.1, .int .i64 e4.2.1, .string ⟨⟨e4.2.2⟩⟩] 24)]) 0 rfl rfl rfl (by kernel_rfl) (by kernel_rfl) (by kernel_rfl) (by kernel_rfl) (by kernel_rfl) ?_)
     refine Ok.nil ?_
     refine Ok.thenN ?_
     refine Ok.seq ?_
     refine Ok.region ?_
     refine Ok.batch 1 [(0, .slice axh_0 xh.length cxh_0), (7, .pointer (some ⟨b5, 0, none⟩)), (13, .slice axroots_0 xroots.length cxroots_0), (14, .int .i64 (xroots.length : Int)), (15, .int .i64 x15l17), (19, .slice axh_0 xh.length cxh_0)] (by kernel_rfl) ?_
     refine Ok.op rfl (OpOk.step (v := .agg #[.int .i64 e4.1, .int .i64 e4.2.1, .string ⟨⟨e4.2.2⟩⟩]) (Yields.loadAgg 0 3 #[.int .i64 e4.1, .int .i64 e4.2.1, .string ⟨⟨e4.2.2⟩⟩] rfl rfl Try.underlying24 rfl (by kernel_rfl) (by kernel_rfl) (by kernel_rfl)) rfl rfl ?_)
     refine Ok.op rfl (OpOk.callG (v := .bool (hfitS xh e4)) (enters (by kernel_rfl) (fun _ => by kernel_rfl)) (fun W hW => hfit_c xh e4 (hRxh_0.mono hW.sees)) rfl ?_)
     refine Ok.batch 1 [(0, .slice axh_0 xh.length cxh_0), (13, .slice axroots_0 xroots.length cxroots_0), (14, .int .i64 (xroots.length : Int)), (15, .int .i64 x15l17), (22, .bool (!(hfitS xh e4)))] (by kernel_rfl) ?_
     refine Ok.nil ?_
     refine Ok.thenN ?_
     refine Ok.cond (b := !(hfitS xh e4)) rfl (fun hc6 => ?_) (fun hc6 => ?_)
     ·replace hF := hF.1 hc6
      refine Ok.seq ?_
      refine Ok.region ?_
      refine Ok.batch 1 [(4, .int .i64 1)] (by kernel_rfl) ?_
      refine Ok.nil ?_
      refine Ok.thenN ?_
      refine Ok.ret ?_
      refine Ok.blockR ?_
      refine Ok.thenR ?_
      refine Ok.thenR ?_
      refine Ok.blockR ?_
      refine Ok.thenR ?_
      exact Ok.resP (vs := [.int .i64 1]) [] [] (by decide) rfl (.inl rfl) rfl (.cons (.tmp rfl) .nil) (Gext.refl w0 g) ⟨1, rfl, rfl, hF⟩
     ·replace hF := hF.2 hc6
      refine Ok.skip ?_
      refine Ok.blockN ?_
      refine Ok.thenN ?_
      refine Ok.region ?_
      refine Ok.batch 2 [(0, .slice axh_0 xh.length cxh_0), (13, .slice axroots_0 xroots.length cxroots_0), (14, .int .i64 (xroots.length : Int)), (15, .int .i64 (IntKind.wrap .i64 (x15l17 + 1)))] (by kernel_rfl) ?_
      refine Ok.nil ?_
      refine Ok.thenN ?_
      subst hg4
      exact fun a W hA hW => ⟨k17, Nat.lt_succ_self _, IntKind.wrap .i64 (x15l17 + 1), hA.sub (by kernel_rfl), hW.sub (.cons _ .slnil), hF⟩
    ·replace hF := hF.2 hc2
     refine Ok.exit ?_
     refine Ok.thenE ?_
     refine Ok.thenE ?_
     refine Ok.blockHit ?_
     refine Ok.thenN ?_
     refine Ok.seq ?_
     refine Ok.region ?_
     refine Ok.batch 1 [(4, .int .i64 0)] (by kernel_rfl) ?_
     refine Ok.nil ?_
     refine Ok.thenN ?_
     refine Ok.ret ?_
     exact Ok.resH (vs := [.int .i64 0]) (.inl rfl) rfl (.cons (.tmp rfl) .nil) (Gext.refl w0 g) ⟨0, rfl, rfl, hF⟩
def haskS (h : List JC) (l : List JV) : Int := if (hchkS h != 0) = true then hchkS h else if l.all (hfitS h) = true then 0 else 1
def rcrP (h : List JC) : Prop := h.length ≤ maxLen ∧ ∀ c ∈ h, c.2.1.length ≤ maxLen ∧ c.2.2.length ≤ maxLen
def haskP (h : List JC) (l : List JV) : Prop := rcrP h ∧ l.length ≤ maxLen
theorem hask_F (h : List JC) (l : List JV) (hp : haskP h l) : haskF h l (fun r => r = haskS h l) := by
 have hl := hp.2
 rw [maxLen_eq] at hl
 refine ⟨fun h1 => by unfold haskS; rw [if_t h1], fun h1 => ?_⟩
 have hR : haskS h l = if l.all (hfitS h) = true then 0 else 1 := by unfold haskS; rw [if_f h1]
 have loop : ∀ (k i : Nat), i + k = l.length → l.all (hfitS h) = (l.drop i).all (hfitS h) → haskl17 h l (fun r => r = haskS h l) (k + 1) (i : Int) := by
  intro k
  induction k with
  | zero =>
   intro i hi he
   rw [List.drop_of_length_le (by omega)] at he
   exact ⟨fun h2 => by have := of_decide_eq_true h2; omega, fun _ => by rw [hR, he]; rfl⟩
  | succ k ih =>
   intro i hi he
   rw [drop_get (l := l) default (by omega), List.all_cons] at he
   refine ⟨fun _ => ⟨by omega, by omega, fun hc => ?_, fun hc => ?_⟩, fun h2 => by have := of_decide_eq_false h2; omega⟩
   ·rw [Int.toNat_natCast, Bool.not_eq_true'] at hc
    rw [hc, Bool.false_and] at he
    rw [hR, he]; rfl
   ·rw [Int.toNat_natCast, Bool.not_eq_false'] at hc
    rw [hc, Bool.true_and] at he
    rw [w64 (by omega)]
    exact ih (i + 1) (by omega) he
 exact ⟨_, loop l.length 0 (by omega) rfl⟩
set_option linter.unusedVariables false in
theorem hask_c {g : Ghost} {axh_0 : Option Addr} {cxh_0 : Nat} (xh : List (Int × List (List UInt8) × List (Int × Int × List UInt8))) {axroots_0 : Option Addr} {cxroots_0 : Nat} (xroots : List (Int × Int × List UInt8)) (hRxh_0 : Rep g (.slice (.pair (.int .i64) (.pair (.slice (.str)) (.slice (.pair (.int .i64) (.pair (.int .i64) (.str))))))) [.slice axh_0 xh.length cxh_0] xh) (hRxroots_0 : Rep g (.slice (.pair (.int .i64) (.pair (.int .i64) (.str)))) [.slice axroots_0 xroots.length cxroots_0] xroots)  (hp : haskP xh xroots) : CallsG Try.prog 57 #[.slice axh_0 xh.length cxh_0, .slice axroots_0 xroots.length cxroots_0] g (.int .i64 (haskS xh xroots)) :=
 (hask_ok xh xroots hRxh_0 hRxroots_0 _ (hask_F xh xroots hp)).gives (by rintro g' H' v _ ⟨r0, rfl, rfl, hK⟩; subst hK; rfl)
/-! coming to cells -/
abbrev W3 := List JC × List Int × List Int
abbrev SS := List Int × List Int
def comeN (h : List JC) : Nat → SS → JV → SS
 | 0, s, _ => s
 | k + 1, s, v => if (decide (hrefM v < 0) || decide (s.1.getD (hrefM v).toNat default ≥ 0)) = true then s else
   ((h.getD (hrefM v).toNat default).2.2).foldl (comeN h k) (s.1.set (hrefM v).toNat (s.2.length : Int), s.2 ++ [hrefM v])
/-- how many are not come to yet -/
def unv (l : List Int) : Nat := l.countP fun x => decide (x < 0)
theorem unv_set {l : List Int} {i : Nat} (x : Int) (h : i < l.length) (hi : l.getD i default < 0) (hx : 0 ≤ x) : unv (l.set i x) + 1 = unv l := by
 unfold unv
 rw [List.getD_eq_getElem?_getD, List.getElem?_eq_getElem h, Option.getD_some] at hi
 rw [List.countP_set h, decide_eq_true hi, decide_eq_false (show ¬ x < 0 by omega)]
 have : 1 ≤ l.countP fun x => decide (x < 0) := by
  rw [List.one_le_countP_iff]
  exact ⟨l[i], List.getElem_mem h, decide_eq_true hi⟩
 simp; omega
/-- a heap whose references lie in it -/
structure HV (h : List JC) : Prop where
 few : h.length ≤ 300
 small : ∀ c ∈ h, c.2.2.length ≤ 200 ∧ c.2.1.length ≤ 200
 refs : ∀ c ∈ h, ∀ v ∈ c.2.2, hrefM v < (h.length : Int)
structure Inv (h : List JC) (s : SS) : Prop where
 len : s.1.length = h.length
 cnt : s.2.length + unv s.1 = h.length
 ran : ∀ n ∈ s.2, 0 ≤ n ∧ n < (h.length : Int)
 lnk : ∀ n : Nat, n < h.length → s.1.getD n default = if (n : Int) ∈ s.2 then (s.2.idxOf (n : Int) : Int) else -1
theorem HV.kid {h : List JC} (H : HV h) {n : Nat} (hn : n < h.length) : ∀ v ∈ (h.getD n default).2.2, hrefM v < (h.length : Int) := fun v hv => H.refs _ (mem_getD default hn) v hv
theorem Inv.put {h : List JC} {s : SS} (I : Inv h s) {n : Nat} (hn : n < h.length) (hv : s.1.getD n default < 0) : Inv h (s.1.set n (s.2.length : Int), s.2 ++ [(n : Int)]) := by
 have hni : (n : Int) ∉ s.2 := fun hm => by
  have := I.lnk n hn
  rw [if_pos hm] at this; omega
 refine ⟨by rw [List.length_set]; exact I.len, ?_, fun m hm => ?_, fun m hm => ?_⟩
 ·have h1 := unv_set (l := s.1) (s.2.length : Int) (by rw [I.len]; exact hn) hv (by omega)
  have h2 := I.cnt
  show (s.2 ++ [(n : Int)]).length + unv (s.1.set n (s.2.length : Int)) = h.length
  rw [List.length_append, List.length_cons, List.length_nil]; omega
 ·rcases List.mem_append.1 hm with hm | hm
  ·exact I.ran m hm
  ·rw [List.mem_singleton] at hm; subst hm; omega
 ·rw [List.getD_eq_getElem?_getD, List.getElem?_set]
  by_cases he : n = m
  ·subst he
   rw [if_pos rfl, if_pos (by rw [I.len]; exact hn), if_pos (List.mem_append_right _ (List.mem_singleton.2 rfl)), List.idxOf_append, if_neg hni]
   simp
  ·rw [if_neg he, ← List.getD_eq_getElem?_getD, I.lnk m hm]
   by_cases hmm : (m : Int) ∈ s.2
   ·rw [if_pos hmm, if_pos (List.mem_append_left _ hmm), List.idxOf_append, if_pos hmm]
   ·have : (m : Int) ∉ s.2 ++ [(n : Int)] := fun hx => by
     rcases List.mem_append.1 hx with hx | hx
     ·exact hmm hx
     ·rw [List.mem_singleton] at hx; omega
    rw [if_neg hmm, if_neg this]
/-- what is kept by coming -/
theorem come_inv {h : List JC} (H : HV h) : ∀ (k : Nat) (s : SS) (v : JV), Inv h s → hrefM v < (h.length : Int) → Inv h (comeN h k s v) ∧ unv (comeN h k s v).1 ≤ unv s.1
 | 0, s, v, I, _ => ⟨I, Nat.le_refl _⟩
 | k + 1, s, v, I, hv => by
  rw [comeN]
  split
  ·exact ⟨I, Nat.le_refl _⟩
  ·rename_i hc
   rw [Bool.or_eq_true, decide_eq_true_eq, decide_eq_true_eq, not_or] at hc
   obtain ⟨n, hn⟩ : ∃ n : Nat, hrefM v = (n : Int) := ⟨(hrefM v).toNat, by omega⟩
   rw [hn] at hc hv ⊢
   rw [Int.toNat_natCast] at hc ⊢
   have hnl : n < h.length := by omega
   have I2 := I.put hnl (by omega)
   have hu := unv_set (l := s.1) (s.2.length : Int) (by rw [I.len]; exact hnl) (by omega) (by omega)
   have fold : ∀ (l : List JV) (t : SS), (∀ v ∈ l, hrefM v < (h.length : Int)) → Inv h t → Inv h (l.foldl (comeN h k) t) ∧ unv (l.foldl (comeN h k) t).1 ≤ unv t.1 := by
    intro l
    induction l with
    | nil => intro t _ J; exact ⟨J, Nat.le_refl _⟩
    | cons x l ih =>
     intro t hl J
     have h1 := come_inv H k t x J (hl x (List.mem_cons_self ..))
     have h2 := ih _ (fun v hv => hl v (List.mem_cons_of_mem _ hv)) h1.1
     exact ⟨h2.1, Nat.le_trans h2.2 h1.2⟩
   have := fold _ _ (H.kid hnl) I2
   exact ⟨this.1, Nat.le_trans this.2 (by show unv (s.1.set n (s.2.length : Int)) ≤ unv s.1; omega)⟩
theorem fold_inv {h : List JC} (H : HV h) (k : Nat) : ∀ (l : List JV) (t : SS), (∀ v ∈ l, hrefM v < (h.length : Int)) → Inv h t → Inv h (l.foldl (comeN h k) t) ∧ unv (l.foldl (comeN h k) t).1 ≤ unv t.1
 | [], t, _, J => ⟨J, Nat.le_refl _⟩
 | x :: l, t, hl, J => by
  have h1 := come_inv H k t x J (hl x (List.mem_cons_self ..))
  have h2 := fold_inv H k l _ (fun v hv => hl v (List.mem_cons_of_mem _ hv)) h1.1
  exact ⟨h2.1, Nat.le_trans h2.2 h1.2⟩
theorem come_fuel {h : List JC} (H : HV h) : ∀ (k k' : Nat) (s : SS) (v : JV), Inv h s → hrefM v < (h.length : Int) → unv s.1 < k → unv s.1 < k' → comeN h k s v = comeN h k' s v
 | 0, _, _, _, _, _, h, _ => by omega
 | _ + 1, 0, _, _, _, _, _, h => by omega
 | k + 1, k' + 1, s, v, I, hv, h1, h2 => by
  rw [comeN, comeN]
  split
  ·rfl
  ·rename_i hc
   rw [Bool.or_eq_true, decide_eq_true_eq, decide_eq_true_eq, not_or] at hc
   obtain ⟨n, hn⟩ : ∃ n : Nat, hrefM v = (n : Int) := ⟨(hrefM v).toNat, by omega⟩
   rw [hn] at hc hv ⊢
   rw [Int.toNat_natCast] at hc ⊢
   have hnl : n < h.length := by omega
   have I2 := I.put hnl (by omega)
   have hu := unv_set (l := s.1) (s.2.length : Int) (by rw [I.len]; exact hnl) (by omega) (by omega)
   have fold : ∀ (l : List JV) (t : SS), (∀ v ∈ l, hrefM v < (h.length : Int)) → Inv h t → unv t.1 < k → unv t.1 < k' → l.foldl (comeN h k) t = l.foldl (comeN h k') t := by
    intro l
    induction l with
    | nil => intro t _ _ _ _; rfl
    | cons x l ih =>
     intro t hl J q1 q2
     have e := come_fuel H k k' t x J (hl x (List.mem_cons_self ..)) q1 q2
     have h1 := come_inv H k t x J (hl x (List.mem_cons_self ..))
     rw [List.foldl_cons, List.foldl_cons, ← e]
     exact ih _ (fun v hv => hl v (List.mem_cons_of_mem _ hv)) h1.1 (by omega) (by omega)
   exact fold _ _ (H.kid hnl) I2 (by show unv (s.1.set n (s.2.length : Int)) < k; omega) (by show unv (s.1.set n (s.2.length : Int)) < k'; omega)
def come (h : List JC) (s : SS) (v : JV) : SS := comeN h (h.length + 1) s v
theorem come_eq {h : List JC} (H : HV h) {s : SS} {v : JV} (I : Inv h s) (hv : hrefM v < (h.length : Int)) : come h s v = if (decide (hrefM v < 0) || decide (s.1.getD (hrefM v).toNat default ≥ 0)) = true then s else
   ((h.getD (hrefM v).toNat default).2.2).foldl (come h) (s.1.set (hrefM v).toNat (s.2.length : Int), s.2 ++ [hrefM v]) := by
 unfold come
 have hc0 := I.cnt
 rw [come_fuel H (h.length + 1) (h.length + 1 + 1) s v I hv (by omega) (by omega), comeN]
theorem come_ok {h : List JC} (H : HV h) {s : SS} {v : JV} (I : Inv h s) (hv : hrefM v < (h.length : Int)) : Inv h (come h s v) ∧ unv (come h s v).1 ≤ unv s.1 := come_inv H _ s v I hv
theorem comes_ok {h : List JC} (H : HV h) {l : List JV} {s : SS} (hl : ∀ v ∈ l, hrefM v < (h.length : Int)) (I : Inv h s) : Inv h (l.foldl (come h) s) ∧ unv (l.foldl (come h) s).1 ≤ unv s.1 := fold_inv H _ l s hl I
def hcoS (w : W3) (v : JV) : W3 := (w.1, come w.1 w.2 v)
def hcoP (N : Nat) (w : W3) (v : JV) : Prop := HV w.1 ∧ Inv w.1 w.2 ∧ hrefM v < (w.1.length : Int) ∧ unv w.2.1 < N
theorem hco_0 (w : W3) (v : JV) : ¬ hcoP 0 w v := fun h => absurd h.2.2.2 (Nat.not_lt_zero _)
def hco_C (N : Nat) : Prop := ∀ (g : Ghost) {bxw : Nat} {axw_0 : Option Addr} {cxw_0 : Nat} {axw_1 : Option Addr} {cxw_1 : Nat} {xsxw_1 : List Value} {axw_2 : Option Addr} {cxw_2 : Nat} {xsxw_2 : List Value} (xw : (List (Int × List (List UInt8) × List (Int × Int × List UInt8))) × List (Int) × List (Int)) (xv : Int × Int × List UInt8) (hRxw_0 : Rep g (.slice (.pair (.int .i64) (.pair (.slice (.str)) (.slice (.pair (.int .i64) (.pair (.int .i64) (.str))))))) [.slice axw_0 xw.1.length cxw_0] xw.1) (hLxw_1 : RepL g (.int .i64) xsxw_1 xw.2.1) (hLxw_2 : RepL g (.int .i64) xsxw_2 xw.2.2)  (hp : hcoP N xw xv), CallsH Try.prog 81 #[.pointer (some ⟨bxw, 0, none⟩), .agg #[.int .i64 xv.1, .int .i64 xv.2.1, .string ⟨⟨xv.2.2⟩⟩]] g [.blk bxw (.cells #[.slice axw_0 xw.1.length cxw_0, .slice axw_1 xw.2.1.length cxw_1, .slice axw_2 xw.2.2.length cxw_2] 107), .own (.slice axw_1 xw.2.1.length cxw_1) 3 1 xw.2.1.length xsxw_1, .own (.slice axw_2 xw.2.2.length cxw_2) 3 1 xw.2.2.length xsxw_2] (fun g' H' v => ∃ (afxw_0 : Option Addr) (cfxw_0 : Nat), ∃ (afxw_1 : Option Addr) (cfxw_1 : Nat) (xsfxw_1 : List Value), ∃ (afxw_2 : Option Addr) (cfxw_2 : Nat) (xsfxw_2 : List Value), v = .tuple #[] ∧ Rep g' (.slice (.pair (.int .i64) (.pair (.slice (.str)) (.slice (.pair (.int .i64) (.pair (.int .i64) (.str))))))) [.slice afxw_0 (hcoS xw xv).1.length cfxw_0] (hcoS xw xv).1 ∧ RepL g' (.int .i64) xsfxw_1 (hcoS xw xv).2.1 ∧ RepL g' (.int .i64) xsfxw_2 (hcoS xw xv).2.2 ∧ H' = [.blk bxw (.cells #[.slice afxw_0 (hcoS xw xv).1.length cfxw_0, .slice afxw_1 (hcoS xw xv).2.1.length cfxw_1, .slice afxw_2 (hcoS xw xv).2.2.length cfxw_2] 107), .own (.slice afxw_1 (hcoS xw xv).2.1.length cfxw_1) 3 1 (hcoS xw xv).2.1.length xsfxw_1, .own (.slice afxw_2 (hcoS xw xv).2.2.length cfxw_2) 3 1 (hcoS xw xv).2.2.length xsfxw_2])
def hcoV0 (xw : (List (Int × List (List UInt8) × List (JV))) × List (Int) × List (Int)) (xv : JV) : Bool :=
 ((decide ((hrefM xv) < 0)) || (decide ((xw.2.1.getD (Int.toNat (hrefM xv)) default) ≥ 0)))
def hcol18b (N : Nat) (K : ((List (Int × List (List UInt8) × List (JV))) × List (Int) × List (Int)) → Prop) (e9 : Int × List (List UInt8) × List (JV)) (x51l18 : Int) (ybxw_0l18 : List (Int × List (List UInt8) × List (JV))) (yown_xw_1_0l18 : List (Int)) (yown_xw_2_0l18 : List (Int)) (C18 : Int → (List (Int × List (List UInt8) × List (JV))) → (List (Int)) → (List (Int)) → Prop) : Prop :=
 ((decide (x51l18 < (e9.2.2.length : Int))) = true → (0 : Int) ≤ x51l18 ∧ Int.toNat x51l18 < e9.2.2.length ∧ hcoP N (ybxw_0l18, yown_xw_1_0l18, yown_xw_2_0l18) (e9.2.2.getD (Int.toNat x51l18) default) ∧ C18 (IntKind.wrap .i64 (x51l18 + 1)) ((hcoS (ybxw_0l18, yown_xw_1_0l18, yown_xw_2_0l18) (e9.2.2.getD (Int.toNat x51l18) default)).1) (((hcoS (ybxw_0l18, yown_xw_1_0l18, yown_xw_2_0l18) (e9.2.2.getD (Int.toNat x51l18) default)).2).1) (((hcoS (ybxw_0l18, yown_xw_1_0l18, yown_xw_2_0l18) (e9.2.2.getD (Int.toNat x51l18) default)).2).2)) ∧ ((decide (x51l18 < (e9.2.2.length : Int))) = false → K (ybxw_0l18, yown_xw_1_0l18, yown_xw_2_0l18))
def hcol18 (N : Nat) (K : ((List (Int × List (List UInt8) × List (JV))) × List (Int) × List (Int)) → Prop) (e9 : Int × List (List UInt8) × List (JV)) : Nat → Int → (List (Int × List (List UInt8) × List (JV))) → (List (Int)) → (List (Int)) → Prop
 | 0, _, _, _, _ => False
 | k + 1, x51l18, ybxw_0l18, yown_xw_1_0l18, yown_xw_2_0l18 => hcol18b N K e9 x51l18 ybxw_0l18 yown_xw_1_0l18 yown_xw_2_0l18 (hcol18 N K e9 k)
def hcoj6 (N : Nat) (xw : (List (Int × List (List UInt8) × List (JV))) × List (Int) × List (Int)) (xv : JV) (K : ((List (Int × List (List UInt8) × List (JV))) × List (Int) × List (Int)) → Prop) : Prop :=
 (((hcoV0 xw xv)) = true → K xw) ∧ (((hcoV0 xw xv)) = false → (0 : Int) ≤ (hrefM xv) ∧ Int.toNat (hrefM xv) < xw.2.1.length ∧ (xw.2.2 ++ ([(hrefM xv)] : List (Int))).length ≤ 17592186044416 ∧ (0 : Int) ≤ (hrefM xv) ∧ Int.toNat (hrefM xv) < xw.1.length ∧ ∃ k, hcol18 N K (xw.1.getD (Int.toNat (hrefM xv)) default) k 0 xw.1 (xw.2.1.set (Int.toNat (hrefM xv)) (xw.2.2.length : Int)) (xw.2.2 ++ ([(hrefM xv)] : List (Int))))
def hcoF (N : Nat) (xw : (List (Int × List (List UInt8) × List (JV))) × List (Int) × List (Int)) (xv : JV) (K : ((List (Int × List (List UInt8) × List (JV))) × List (Int) × List (Int)) → Prop) : Prop :=
 ((decide ((hrefM xv) < 0)) = true → hcoj6 N xw xv K) ∧ ((decide ((hrefM xv) < 0)) = false → (0 : Int) ≤ (hrefM xv) ∧ Int.toNat (hrefM xv) < xw.2.1.length ∧ hcoj6 N xw xv K)
set_option maxHeartbeats 4000000 in
set_option maxRecDepth 100000 in
set_option linter.unusedVariables false in
theorem hco_ok {g : Ghost} (N : Nat) (ih_hco : hco_C N) {bxw : Nat} {axw_0 : Option Addr} {cxw_0 : Nat} {axw_1 : Option Addr} {cxw_1 : Nat} {xsxw_1 : List Value} {axw_2 : Option Addr} {cxw_2 : Nat} {xsxw_2 : List Value} (xw : (List (Int × List (List UInt8) × List (JV))) × List (Int) × List (Int)) (xv : JV) (hRxw_0 : Rep g (.slice (.pair (.int .i64) (.pair (.slice (.str)) (.slice (.pair (.int .i64) (.pair (.int .i64) (.str))))))) [.slice axw_0 xw.1.length cxw_0] xw.1) (hLxw_1 : RepL g (.int .i64) xsxw_1 xw.2.1) (hLxw_2 : RepL g (.int .i64) xsxw_2 xw.2.2) (K : ((List (Int × List (List UInt8) × List (JV))) × List (Int) × List (Int)) → Prop)
  (hF : hcoF N xw xv K) : CallsH Try.prog 81 #[.pointer (some ⟨bxw, 0, none⟩), .agg #[.int .i64 xv.1, .int .i64 xv.2.1, .string ⟨⟨xv.2.2⟩⟩]] g [.blk bxw (.cells #[.slice axw_0 xw.1.length cxw_0, .slice axw_1 xw.2.1.length cxw_1, .slice axw_2 xw.2.2.length cxw_2] 107), .own (.slice axw_1 xw.2.1.length cxw_1) 3 1 xw.2.1.length xsxw_1, .own (.slice axw_2 xw.2.2.length cxw_2) 3 1 xw.2.2.length xsxw_2] (fun g' H' v => ∃ (fxw : (List (Int × List (List UInt8) × List (JV))) × List (Int) × List (Int)), ∃ (afxw_0 : Option Addr) (cfxw_0 : Nat), ∃ (afxw_1 : Option Addr) (cfxw_1 : Nat) (xsfxw_1 : List Value), ∃ (afxw_2 : Option Addr) (cfxw_2 : Nat) (xsfxw_2 : List Value), v = .tuple #[] ∧ Rep g' (.slice (.pair (.int .i64) (.pair (.slice (.str)) (.slice (.pair (.int .i64) (.pair (.int .i64) (.str))))))) [.slice afxw_0 fxw.1.length cfxw_0] fxw.1 ∧ RepL g' (.int .i64) xsfxw_1 fxw.2.1 ∧ RepL g' (.int .i64) xsfxw_2 fxw.2.2 ∧ H' = [.blk bxw (.cells #[.slice afxw_0 fxw.1.length cfxw_0, .slice afxw_1 fxw.2.1.length cfxw_1, .slice afxw_2 fxw.2.2.length cfxw_2] 107), .own (.slice afxw_1 fxw.2.1.length cfxw_1) 3 1 fxw.2.1.length xsfxw_1, .own (.slice afxw_2 fxw.2.2.length cfxw_2) 3 1 fxw.2.2.length xsfxw_2] ∧ K fxw) := by
 refine CallsH.enter 59 [(0, .pointer (some ⟨bxw, 0, none⟩)), (1, .agg #[.int .i64 xv.1, .int .i64 xv.2.1, .string ⟨⟨xv.2.2⟩⟩])] Try.func81 rfl (by kernel_rfl) (by kernel_rfl) (by kernel_rfl) fun w0 => ?_
 refine Ok.seq ?_
 refine Ok.region ?_
 refine Ok.op rfl (OpOk.box (v := .agg #[.int .i64 xv.1, .int .i64 xv.2.1, .string ⟨⟨xv.2.2⟩⟩]) (cs := #[.int .i64 xv.1, .int .i64 xv.2.1, .string ⟨⟨xv.2.2⟩⟩]) rfl (by kernel_rfl) rfl fun b1 => ?_)
 refine Ok.nil ?_
 refine Ok.thenN ?_
 refine Ok.seq ?_
 refine Ok.region ?_
 refine Ok.op rfl (OpOk.step (v := .agg #[.int .i64 xv.1, .int .i64 xv.2.1, .string ⟨⟨xv.2.2⟩⟩]) (Yields.loadAgg 0 3 #[.int .i64 xv.1, .int .i64 xv.2.1, .string ⟨⟨xv.2.2⟩⟩] rfl rfl Try.underlying24 rfl (by kernel_rfl) (by kernel_rfl) (by kernel_rfl)) rfl rfl ?_)
 refine Ok.op rfl (OpOk.callG (v := .int .i64 (hrefM xv)) (enters (by kernel_rfl) (fun _ => by kernel_rfl)) (fun W hW => href_c xv) rfl ?_)
 refine Ok.batch 1 [(0, .pointer (some ⟨bxw, 0, none⟩)), (4, .int .i64 (hrefM xv))] (by kernel_rfl) ?_
 refine Ok.nil ?_
 refine Ok.thenN ?_
 refine Ok.seq ?_
 refine Ok.cut (fun a W => ∃ gj6 : Ghost, Gext w0 g gj6 ∧ StA 59 [(0, .pointer (some ⟨bxw, 0, none⟩)), (4, .int .i64 (hrefM xv)), (20, .bool (hcoV0 xw xv))] a ∧ StW w0 [.blk bxw (.cells #[.slice axw_0 xw.1.length cxw_0, .slice axw_1 xw.2.1.length cxw_1, .slice axw_2 xw.2.2.length cxw_2] 107), .own (.slice axw_1 xw.2.1.length cxw_1) 3 1 xw.2.1.length xsxw_1, .own (.slice axw_2 xw.2.2.length cxw_2) 3 1 xw.2.2.length xsxw_2] gj6 W ∧ hcoj6 N xw xv K) ?_ ?_
 ·
  refine Ok.region ?_
  refine Ok.batch 3 [(0, .pointer (some ⟨bxw, 0, none⟩)), (4, .int .i64 (hrefM xv)), (11, .bool (decide ((hrefM xv) < 0)))] (by kernel_rfl) ?_
  refine Ok.boolAt 11 (decide ((hrefM xv) < 0)) rfl (fun hc16 => ?_) (fun hc16 => ?_)
  ·replace hF := hF.1 hc16
   refine Ok.batch 9 [(0, .pointer (some ⟨bxw, 0, none⟩)), (4, .int .i64 (hrefM xv)), (20, .bool true)] (by kernel_rfl) ?_
   refine Ok.nil ?_
   refine Ok.thenN ?_
   refine Ok.reval 20 rfl (show (.bool true : Value) = .bool (hcoV0 xw xv) from congrArg (Value.bool) (mor_t hc16)) ?_
   exact fun a W hA hW => ⟨g, (Gext.refl w0 g), hA.sub (by kernel_rfl), hW.sub (.cons _ (.cons_cons _ (.cons_cons _ (.cons_cons _ .slnil)))), hF⟩
  ·replace hF := hF.2 hc16
   refine Ok.batch 3 [(0, .pointer (some ⟨bxw, 0, none⟩)), (4, .int .i64 (hrefM xv)), (11, .bool false), (14, .pointer (some ⟨bxw, 1, none⟩))] (by kernel_rfl) ?_
   refine Ok.opYes (j := 2) (d := 11) (want := false) (b := false) rfl (by kernel_rfl) (by kernel_rfl) rfl (OpOk.step (v := .slice axw_1 xw.2.1.length cxw_1) (Yields.load 1 rfl rfl Try.underlying61 rfl (by kernel_rfl)) rfl rfl ?_)
   refine Ok.batch 1 [(0, .pointer (some ⟨bxw, 0, none⟩)), (4, .int .i64 (hrefM xv)), (11, .bool false), (15, .slice axw_1 xw.2.1.length cxw_1), (16, .int .i64 (hrefM xv))] (by kernel_rfl) ?_
   obtain ⟨h018, h118, hF⟩ := hF
   have he18 := get_of (l := xw.2.1) (default : Int) h118
   generalize hg18 : (xw.2.1.getD (Int.toNat (hrefM xv)) default) = e18 at he18 hF ⊢
   refine Ok.opYes (j := 2) (d := 11) (want := false) (b := false) rfl (by kernel_rfl) (by kernel_rfl) rfl (OpOk.indexOwn (e := .int .i64) (q := (hrefM xv)) (el := e18) 2 rfl hLxw_1 rfl rfl Try.underlying61 (by kernel_rfl) (by kernel_rfl) h018 he18 rfl fun cs17 _ hr17 hc17 => ?_)
   obtain rfl := hr17
   replace hc17 : ∀ j v, ([.int .i64 e18] : List Value)[j]? = some v → xsxw_1[Int.toNat (hrefM xv) * 1 + j]? = some v := hc17
   refine Ok.opYes (j := 2) (d := 11) (want := false) (b := false) rfl (by kernel_rfl) (by kernel_rfl) rfl (OpOk.step (v := .int .i64 e18) (Yields.loadOwn 2 0 rfl hc17 rfl Try.underlying3 rfl (by kernel_rfl)) rfl rfl ?_)
   refine Ok.batch 2 [(0, .pointer (some ⟨bxw, 0, none⟩)), (4, .int .i64 (hrefM xv)), (20, .bool (decide (e18 ≥ 0)))] (by kernel_rfl) ?_
   refine Ok.nil ?_
   refine Ok.thenN ?_
   subst hg18
   refine Ok.reval 20 rfl (show (.bool (decide ((xw.2.1.getD (Int.toNat (hrefM xv)) default) ≥ 0)) : Value) = .bool (hcoV0 xw xv) from congrArg (Value.bool) (mor_f hc16)) ?_
   exact fun a W hA hW => ⟨g, (Gext.refl w0 g), hA.sub (by kernel_rfl), hW.sub (.cons _ (.cons_cons _ (.cons_cons _ (.cons_cons _ .slnil)))), hF⟩
 ·
  clear hF
  rintro a W ⟨gj6, hxj6, hA, hW, hF⟩
  refine (?_ : Ok _ _ _ _ _ _) a W hA hW
  clear hA hW
  replace hRxw_0 := hRxw_0.mono hxj6.1
  replace hLxw_1 := hLxw_1.mono hxj6.1
  replace hLxw_2 := hLxw_2.mono hxj6.1
  refine Ok.cond (b := (hcoV0 xw xv)) rfl (fun hc2 => ?_) (fun hc2 => ?_)
  ·replace hF := hF.1 hc2
   refine Ok.ret ?_
   refine Ok.thenR ?_
   exact Ok.resH (vs := []) (.inl rfl) rfl .nil hxj6 ⟨xw, axw_0, cxw_0, axw_1, cxw_1, xsxw_1, axw_2, cxw_2, xsxw_2, rfl, hRxw_0, hLxw_1, hLxw_2, rfl, hF⟩
  ·replace hF := hF.2 hc2
   refine Ok.skip ?_
   refine Ok.thenN ?_
   refine Ok.seq ?_
   refine Ok.mix [0, 1, 2, 3, 4, 5, 6, 7, 8, 9, 10] [] [.blk bxw (.cells #[.slice axw_0 xw.1.length cxw_0, .slice axw_1 xw.2.1.length cxw_1, .slice axw_2 xw.2.2.length cxw_2] 107), .own (.slice axw_2 xw.2.2.length cxw_2) 3 1 xw.2.2.length xsxw_2] [(0, true), (1, true), (2, true), (3, true), (4, true), (5, true), (6, true), (7, true), (8, true), (9, true), (10, true), (11, false)] (by kernel_rfl) (by kernel_rfl) (.cons_cons _ (.cons _ (.cons_cons _ .slnil))) ?_
   refine OkM.batch 3 [(0, .pointer (some ⟨bxw, 0, none⟩)), (4, .int .i64 (hrefM xv)), (23, .pointer (some ⟨bxw, 1, none⟩))] (by kernel_rfl) ?_
   refine OkM.head rfl rfl (show _ = [.blk bxw (.cells #[.slice axw_0 xw.1.length cxw_0, .slice axw_1 xw.2.1.length cxw_1, .slice axw_2 xw.2.2.length cxw_2] 107), .own (.slice axw_1 xw.2.1.length cxw_1) 3 1 xw.2.1.length xsxw_1, .own (.slice axw_2 xw.2.2.length cxw_2) 3 1 xw.2.2.length xsxw_2] from rfl) (OpQ.step (v := .slice axw_1 xw.2.1.length cxw_1) (Yields.load 0 rfl rfl Try.underlying61 rfl (by kernel_rfl)) rfl rfl ?_)
   refine OkM.batch 4 [(0, .pointer (some ⟨bxw, 0, none⟩)), (4, .int .i64 (hrefM xv)), (24, .slice axw_1 xw.2.1.length cxw_1), (25, .int .i64 (hrefM xv)), (28, .pointer (some ⟨bxw, 2, none⟩))] (by kernel_rfl) ?_
   refine OkM.head rfl rfl (show _ = [.blk bxw (.cells #[.slice axw_0 xw.1.length cxw_0, .slice axw_1 xw.2.1.length cxw_1, .slice axw_2 xw.2.2.length cxw_2] 107), .own (.slice axw_1 xw.2.1.length cxw_1) 3 1 xw.2.1.length xsxw_1, .own (.slice axw_2 xw.2.2.length cxw_2) 3 1 xw.2.2.length xsxw_2] from rfl) (OpQ.step (v := .slice axw_2 xw.2.2.length cxw_2) (Yields.load 0 rfl rfl Try.underlying61 rfl (by kernel_rfl)) rfl rfl ?_)
   refine OkM.batch 1 [(0, .pointer (some ⟨bxw, 0, none⟩)), (4, .int .i64 (hrefM xv)), (24, .slice axw_1 xw.2.1.length cxw_1), (25, .int .i64 (hrefM xv)), (30, .int .i64 (xw.2.2.length : Int))] (by kernel_rfl) ?_
   obtain ⟨h04, h14, hF⟩ := hF
   have he4 := get_of (l := xw.2.1) (default : Int) h14
   generalize hg4 : (xw.2.1.getD (Int.toNat (hrefM xv)) default) = e4 at he4 hF ⊢
   refine OkM.head rfl rfl (show _ = [.blk bxw (.cells #[.slice axw_0 xw.1.length cxw_0, .slice axw_1 xw.2.1.length cxw_1, .slice axw_2 xw.2.2.length cxw_2] 107), .own (.slice axw_1 xw.2.1.length cxw_1) 3 1 xw.2.1.length xsxw_1, .own (.slice axw_2 xw.2.2.length cxw_2) 3 1 xw.2.2.length xsxw_2] from rfl) (OpQ.indexOwn (e := .int .i64) (q := (hrefM xv)) (el := e4) 1 rfl hLxw_1 rfl rfl Try.underlying61 (by kernel_rfl) (by kernel_rfl) h04 he4 rfl fun cs3 _ hr3 hc3 => ?_)
   obtain rfl := hr3
   replace hc3 : ∀ j v, ([.int .i64 e4] : List Value)[j]? = some v → xsxw_1[Int.toNat (hrefM xv) * 1 + j]? = some v := hc3
   refine OkM.tail rfl rfl (OpOk.storeOwn (e := .int .i64) (q := Int.toNat (hrefM xv)) (cells := [.int .i64 e4]) (vs := [.int .i64 (xw.2.2.length : Int)]) (el' := (xw.2.2.length : Int)) 1 0 1 rfl hLxw_1 hc3 (by kernel_rfl) rfl rfl rfl (by kernel_rfl) (by kernel_rfl) (by kernel_rfl) (by kernel_rfl) (by kernel_rfl) (show Rep _ _ [.int .i64 (xw.2.2.length : Int)] _ from rfl) fun xs5 hL5 => ?_)
   rw [show xw.2.1.length = (xw.2.1.set (Int.toNat (hrefM xv)) (xw.2.2.length : Int)).length from (List.length_set ..).symm]
   refine OkM.leaf (i := 11) (show _ = [.blk bxw (.cells #[.slice axw_0 xw.1.length cxw_0, .slice axw_1 (xw.2.1.set (Int.toNat (hrefM xv)) (xw.2.2.length : Int)).length cxw_1, .slice axw_2 xw.2.2.length cxw_2] 107), .own (.slice axw_2 xw.2.2.length cxw_2) 3 1 xw.2.2.length xsxw_2] from rfl) (Gle.refl _) (.cons_cons _ (.cons _ (.cons_cons _ .slnil))) ?_
   refine OkM.nil ?_
   refine Ok.thenN ?_
   refine Ok.seq ?_
   refine Ok.region ?_
   refine Ok.batch 4 [(0, .pointer (some ⟨bxw, 0, none⟩)), (4, .int .i64 (hrefM xv)), (32, .pointer (some ⟨bxw, 0, none⟩)), (35, .pointer (some ⟨bxw, 2, none⟩))] (by kernel_rfl) ?_
   refine Ok.op rfl (OpOk.step (v := .slice axw_2 xw.2.2.length cxw_2) (Yields.load 0 rfl rfl Try.underlying61 rfl (by kernel_rfl)) rfl rfl ?_)
   refine Ok.batch 1 [(0, .pointer (some ⟨bxw, 0, none⟩)), (4, .int .i64 (hrefM xv)), (32, .pointer (some ⟨bxw, 0, none⟩)), (36, .slice axw_2 xw.2.2.length cxw_2), (37, .int .i64 (hrefM xv))] (by kernel_rfl) ?_
   have hL6 : RepL gj6 (.int .i64) ([.int .i64 (hrefM xv)] : List Value) ([(hrefM xv)] : List (Int)) := (RepL.consN (c := [.int .i64 (hrefM xv)]) rfl rfl)
   refine Ok.op rfl (OpOk.lit (E := 3) (.int .i64) ([(hrefM xv)] : List (Int)) ([.int .i64 (hrefM xv)] : List Value) (by kernel_rfl) (by kernel_rfl) rfl (by kernel_rfl) hL6 rfl fun b6 => ?_)
   obtain ⟨hb7, hF⟩ := hF
   refine Ok.op rfl (OpOk.append' (e := .int .i64) 8 17592186044416 3 0 rfl rfl rfl rfl hLxw_2 hL6 Try.underlying61 (by kernel_rfl) (by kernel_rfl) (by kernel_rfl) hb7 rfl fun a7 c7 xs7 hL7 => ?_)
   refine Ok.batch 2 [(0, .pointer (some ⟨bxw, 0, none⟩)), (4, .int .i64 (hrefM xv)), (39, .slice a7 (xw.2.2 ++ ([(hrefM xv)] : List (Int))).length c7), (41, .pointer (some ⟨bxw, 2, none⟩))] (by kernel_rfl) ?_
   refine Ok.op rfl (OpOk.store (k := 1) (v := .slice a7 (xw.2.2 ++ ([(hrefM xv)] : List (Int))).length c7) (H' := [.own (.slice (some ⟨b6, 0, none⟩) ([(hrefM xv)] : List (Int)).length 1) 3 1 ([(hrefM xv)] : List (Int)).length ([.int .i64 (hrefM xv)] : List Value), .blk bxw (.cells #[.slice axw_0 xw.1.length cxw_0, .slice axw_1 (xw.2.1.set (Int.toNat (hrefM xv)) (xw.2.2.length : Int)).length cxw_1, .slice a7 (xw.2.2 ++ ([(hrefM xv)] : List (Int))).length c7] 107), .own (.slice axw_1 (xw.2.1.set (Int.toNat (hrefM xv)) (xw.2.2.length : Int)).length cxw_1) 3 1 (xw.2.1.set (Int.toNat (hrefM xv)) (xw.2.2.length : Int)).length xs5, .own (.slice a7 (xw.2.2 ++ ([(hrefM xv)] : List (Int))).length c7) 3 1 (xw.2.2 ++ ([(hrefM xv)] : List (Int))).length xs7]) 1 rfl rfl rfl (by kernel_rfl) (by kernel_rfl) (by kernel_rfl) (by kernel_rfl) (by kernel_rfl) ?_)
   refine Ok.nil ?_
   refine Ok.thenN ?_
   refine Ok.seq ?_
   refine Ok.region ?_
   refine Ok.batch 3 [(0, .pointer (some ⟨bxw, 0, none⟩)), (4, .int .i64 (hrefM xv)), (44, .pointer (some ⟨bxw, 0, none⟩))] (by kernel_rfl) ?_
   refine Ok.op rfl (OpOk.step (v := .slice axw_0 xw.1.length cxw_0) (Yields.load 1 rfl rfl Try.underlying22 rfl (by kernel_rfl)) rfl rfl ?_)
   refine Ok.batch 1 [(0, .pointer (some ⟨bxw, 0, none⟩)), (45, .slice axw_0 xw.1.length cxw_0), (46, .int .i64 (hrefM xv))] (by kernel_rfl) ?_
   obtain ⟨h09, h19, hF⟩ := hF
   have he9 := get_of (l := xw.1) (default : Int × List (List UInt8) × List (JV)) h19
   generalize hg9 : (xw.1.getD (Int.toNat (hrefM xv)) default) = e9 at he9 hF ⊢
   refine Ok.op rfl (OpOk.indexRo (e := .pair (.int .i64) (.pair (.slice (.str)) (.slice (.pair (.int .i64) (.pair (.int .i64) (.str)))))) (i := (hrefM xv)) (el := e9) rfl rfl Try.underlying22 (by kernel_rfl) hRxw_0 h09 he9 rfl fun q8 o8 cs8 _ hat8 hr8 => ?_)
   obtain ⟨_, _, rfl, rfl, ⟨_, _, rfl, ⟨a8_1, c8_1, rfl, hm8_1, hr8_1⟩, ⟨a8_2, c8_2, rfl, hm8_2, hr8_2⟩⟩⟩ := hr8
   have hR8_1 : Rep gj6 (.slice (.str)) [.slice a8_1 e9.2.1.length c8_1] e9.2.1 := ⟨a8_1, c8_1, rfl, hm8_1, hr8_1⟩
   have hR8_2 : Rep gj6 (.slice (.pair (.int .i64) (.pair (.int .i64) (.str)))) [.slice a8_2 e9.2.2.length c8_2] e9.2.2 := ⟨a8_2, c8_2, rfl, hm8_2, hr8_2⟩
   replace hat8 : At gj6 q8 o8 [.int .i64 e9.1, .slice a8_1 e9.2.1.length c8_1, .slice a8_2 e9.2.2.length c8_2] := hat8
   refine Ok.batch 1 [(0, .pointer (some ⟨bxw, 0, none⟩)), (48, .pointer (some ⟨q8, o8 + 2, none⟩))] (by kernel_rfl) ?_
   refine Ok.op rfl (OpOk.step (v := .slice a8_2 e9.2.2.length c8_2) (Yields.loadRo 2 hat8 (by kernel_rfl) Try.underlying29 rfl (by kernel_rfl)) rfl rfl ?_)
   refine Ok.batch 2 [(0, .pointer (some ⟨bxw, 0, none⟩)), (49, .slice a8_2 e9.2.2.length c8_2), (50, .int .i64 (e9.2.2.length : Int)), (51, .int .i64 0)] (by kernel_rfl) ?_
   refine Ok.nil ?_
   refine Ok.thenN ?_
   refine Ok.block ?_
   obtain ⟨k, hF⟩ := hF
   refine Ok.loop (fun k a W => ∃ gl18 : Ghost, Gext w0 gj6 gl18 ∧ ∃ (x51l18 : Int) (aybxw_0l18 : Option Addr) (cybxw_0l18 : Nat) (ybxw_0l18 : List (Int × List (List UInt8) × List (JV))) (ayown_xw_1_0l18 : Option Addr) (cyown_xw_1_0l18 : Nat) (yown_xw_1_0l18 : List (Int)) (xsyown_xw_1_0l18 : List Value) (ayown_xw_2_0l18 : Option Addr) (cyown_xw_2_0l18 : Nat) (yown_xw_2_0l18 : List (Int)) (xsyown_xw_2_0l18 : List Value), Rep gl18 (.slice (.pair (.int .i64) (.pair (.slice (.str)) (.slice (.pair (.int .i64) (.pair (.int .i64) (.str))))))) [.slice aybxw_0l18 ybxw_0l18.length cybxw_0l18] ybxw_0l18 ∧ RepL gl18 (.int .i64) xsyown_xw_1_0l18 yown_xw_1_0l18 ∧ RepL gl18 (.int .i64) xsyown_xw_2_0l18 yown_xw_2_0l18 ∧ StA 59 [(0, .pointer (some ⟨bxw, 0, none⟩)), (49, .slice a8_2 e9.2.2.length c8_2), (50, .int .i64 (e9.2.2.length : Int)), (51, .int .i64 x51l18)] a ∧ StW w0 [.blk bxw (.cells #[.slice aybxw_0l18 ybxw_0l18.length cybxw_0l18, .slice ayown_xw_1_0l18 yown_xw_1_0l18.length cyown_xw_1_0l18, .slice ayown_xw_2_0l18 yown_xw_2_0l18.length cyown_xw_2_0l18] 107), .own (.slice ayown_xw_1_0l18 yown_xw_1_0l18.length cyown_xw_1_0l18) 3 1 yown_xw_1_0l18.length xsyown_xw_1_0l18, .own (.slice ayown_xw_2_0l18 yown_xw_2_0l18.length cyown_xw_2_0l18) 3 1 yown_xw_2_0l18.length xsyown_xw_2_0l18] gl18 W ∧ hcol18 N K e9 k x51l18 ybxw_0l18 yown_xw_1_0l18 yown_xw_2_0l18) k ?_ ?_
   ·
    exact fun a W hA hW => ⟨gj6, (Gext.refl w0 gj6), 0, axw_0, cxw_0, xw.1, axw_1, cxw_1, (xw.2.1.set (Int.toNat (hrefM xv)) (xw.2.2.length : Int)), xs5, a7, c7, (xw.2.2 ++ ([(hrefM xv)] : List (Int))), xs7, hRxw_0, hL5, hL7, hA.sub (by kernel_rfl), hW.sub (.cons _ (.cons_cons _ (.cons_cons _ (.cons_cons _ .slnil)))), hF⟩
   ·
    clear hF
    rintro k18 a W ⟨gl18, hxl18, x51l18, aybxw_0l18, cybxw_0l18, ybxw_0l18, ayown_xw_1_0l18, cyown_xw_1_0l18, yown_xw_1_0l18, xsyown_xw_1_0l18, ayown_xw_2_0l18, cyown_xw_2_0l18, yown_xw_2_0l18, xsyown_xw_2_0l18, hRybxw_0l18, hLyown_xw_1_0l18, hLyown_xw_2_0l18, hA, hW, hF⟩
    cases k18 with
    | zero => exact (hF : False).elim
    | succ k18 =>
     refine (?_ : Ok _ _ _ _ _ _) a W hA hW
     clear hA hW
     replace hR8_2 := hR8_2.mono hxl18.1
     refine Ok.seq ?_
     refine Ok.region ?_
     refine Ok.batch 1 [(0, .pointer (some ⟨bxw, 0, none⟩)), (49, .slice a8_2 e9.2.2.length c8_2), (50, .int .i64 (e9.2.2.length : Int)), (51, .int .i64 x51l18), (52, .bool (decide (x51l18 < (e9.2.2.length : Int))))] (by kernel_rfl) ?_
     refine Ok.nil ?_
     refine Ok.thenN ?_
     refine Ok.seq ?_
     refine Ok.cond (b := decide (x51l18 < (e9.2.2.length : Int))) rfl (fun hc10 => ?_) (fun hc10 => ?_)
     ·replace hF := hF.1 hc10
      refine Ok.skip ?_
      refine Ok.thenN ?_
      refine Ok.seq ?_
      refine Ok.block ?_
      refine Ok.seq ?_
      refine Ok.region ?_
      obtain ⟨h012, h112, hF⟩ := hF
      have he12 := get_of (l := e9.2.2) (default : JV) h112
      generalize hg12 : (e9.2.2.getD (Int.toNat x51l18) default) = e12 at he12 hF ⊢
      refine Ok.op rfl (OpOk.indexRo (e := .pair (.int .i64) (.pair (.int .i64) (.str))) (i := x51l18) (el := e12) rfl rfl Try.underlying29 (by kernel_rfl) hR8_2 h012 he12 rfl fun q11 o11 cs11 _ hat11 hr11 => ?_)
      obtain ⟨_, _, rfl, rfl, ⟨_, _, rfl, rfl, rfl⟩⟩ := hr11
      replace hat11 : At gl18 q11 o11 [.int .i64 e12.1, .int .i64 e12.2.1, .string ⟨⟨e12.2.2⟩⟩] := hat11
      refine Ok.op rfl (OpOk.step (v := .agg #[.int .i64 e12.1, .int .i64 e12.2.1, .string ⟨⟨e12.2.2⟩⟩]) (Yields.loadAggRo 0 3 #[.int .i64 e12.1, .int .i64 e12.2.1, .string ⟨⟨e12.2.2⟩⟩] hat11 (by kernel_rfl) Try.underlying24 rfl (by kernel_rfl) (by kernel_rfl) (by kernel_rfl)) rfl rfl ?_)
      refine Ok.op rfl (OpOk.alloc (z := .agg #[.int .i64 0, .int .i64 0, .string ⟨⟨([] : List UInt8)⟩⟩]) (cs := #[.int .i64 0, .int .i64 0, .string ⟨⟨([] : List UInt8)⟩⟩]) (by kernel_rfl) (by kernel_rfl) rfl fun b13 => ?_)
      refine Ok.op rfl (OpOk.store (k := 3) (v := .agg #[.int .i64 e12.1, .int .i64 e12.2.1, .string ⟨⟨e12.2.2⟩⟩]) (H' := [.blk b13 (.cells #[.int .i64 e12.1, .int .i64 e12.2.1, .string ⟨⟨e12.2.2⟩⟩] 24), .blk bxw (.cells #[.slice aybxw_0l18 ybxw_0l18.length cybxw_0l18, .slice ayown_xw_1_0l18 yown_xw_1_0l18.length cyown_xw_1_0l18, .slice ayown_xw_2_0l18 yown_xw_2_0l18.length cyown_xw_2_0l18] 107), .own (.slice ayown_xw_1_0l18 yown_xw_1_0l18.length cyown_xw_1_0l18) 3 1 yown_xw_1_0l18.length xsyown_xw_1_0l18, .own (.slice ayown_xw_2_0l18 yown_xw_2_0l18.length cyown_xw_2_0l18) 3 1 yown_xw_2_0l18.length xsyown_xw_2_0l18]) 0 rfl rfl rfl (by kernel_rfl) (by kernel_rfl) (by kernel_rfl) (by kernel_rfl) (by kernel_rfl) ?_)
      refine Ok.nil ?_
      refine Ok.thenN ?_
      refine Ok.region ?_
      refine Ok.batch 1 [(0, .pointer (some ⟨bxw, 0, none⟩)), (6, .pointer (some ⟨b13, 0, none⟩)), (49, .slice a8_2 e9.2.2.length c8_2), (50, .int .i64 (e9.2.2.length : Int)), (51, .int .i64 x51l18), (55, .pointer (some ⟨bxw, 0, none⟩))] (by kernel_rfl) ?_
      refine Ok.op rfl (OpOk.step (v := .agg #[.int .i64 e12.1, .int .i64 e12.2.1, .string ⟨⟨e12.2.2⟩⟩]) (Yields.loadAgg 0 3 #[.int .i64 e12.1, .int .i64 e12.2.1, .string ⟨⟨e12.2.2⟩⟩] rfl rfl Try.underlying24 rfl (by kernel_rfl) (by kernel_rfl) (by kernel_rfl)) rfl rfl ?_)
      obtain ⟨hp14, hF⟩ := hF
      refine Ok.entries [1, 2, 3, 0] [.blk bxw (.cells #[.slice aybxw_0l18 ybxw_0l18.length cybxw_0l18, .slice ayown_xw_1_0l18 yown_xw_1_0l18.length cyown_xw_1_0l18, .slice ayown_xw_2_0l18 yown_xw_2_0l18.length cyown_xw_2_0l18] 107), .own (.slice ayown_xw_1_0l18 yown_xw_1_0l18.length cyown_xw_1_0l18) 3 1 yown_xw_1_0l18.length xsyown_xw_1_0l18, .own (.slice ayown_xw_2_0l18 yown_xw_2_0l18.length cyown_xw_2_0l18) 3 1 yown_xw_2_0l18.length xsyown_xw_2_0l18, .blk b13 (.cells #[.int .i64 e12.1, .int .i64 e12.2.1, .string ⟨⟨e12.2.2⟩⟩] 24)] (by decide) rfl ?_
      refine Ok.op rfl (OpOk.callH [.blk bxw (.cells #[.slice aybxw_0l18 ybxw_0l18.length cybxw_0l18, .slice ayown_xw_1_0l18 yown_xw_1_0l18.length cyown_xw_1_0l18, .slice ayown_xw_2_0l18 yown_xw_2_0l18.length cyown_xw_2_0l18] 107), .own (.slice ayown_xw_1_0l18 yown_xw_1_0l18.length cyown_xw_1_0l18) 3 1 yown_xw_1_0l18.length xsyown_xw_1_0l18, .own (.slice ayown_xw_2_0l18 yown_xw_2_0l18.length cyown_xw_2_0l18) 3 1 yown_xw_2_0l18.length xsyown_xw_2_0l18] [.blk b13 (.cells #[.int .i64 e12.1, .int .i64 e12.2.1, .string ⟨⟨e12.2.2⟩⟩] 24)] (enters (by kernel_rfl) (fun _ => by kernel_rfl)) rfl (ih_hco _ (ybxw_0l18, yown_xw_1_0l18, yown_xw_2_0l18) e12 hRybxw_0l18 hLyown_xw_1_0l18 hLyown_xw_2_0l18 hp14) rfl fun g15 _ _ hx15 hV15 => ?_)
      obtain ⟨a15_0, c15_0, a15_2, c15_2, xs15_2, a15_5, c15_5, xs15_5, rfl, hR15_0, hL15_2, hL15_5, rfl⟩ := hV15
      replace hR8_2 := hR8_2.mono hx15.1
      refine Ok.nil ?_
      refine Ok.blockN ?_
      refine Ok.thenN ?_
      refine Ok.region ?_
      refine Ok.batch 2 [(0, .pointer (some ⟨bxw, 0, none⟩)), (49, .slice a8_2 e9.2.2.length c8_2), (50, .int .i64 (e9.2.2.length : Int)), (51, .int .i64 (IntKind.wrap .i64 (x51l18 + 1)))] (by kernel_rfl) ?_
      refine Ok.nil ?_
      refine Ok.thenN ?_
      subst hg12
      exact fun a W hA hW => ⟨k18, Nat.lt_succ_self _, g15, (hxl18.trans hx15), IntKind.wrap .i64 (x51l18 + 1), a15_0, c15_0, (hcoS (ybxw_0l18, yown_xw_1_0l18, yown_xw_2_0l18) (e9.2.2.getD (Int.toNat x51l18) default)).1, a15_2, c15_2, ((hcoS (ybxw_0l18, yown_xw_1_0l18, yown_xw_2_0l18) (e9.2.2.getD (Int.toNat x51l18) default)).2).1, xs15_2, a15_5, c15_5, ((hcoS (ybxw_0l18, yown_xw_1_0l18, yown_xw_2_0l18) (e9.2.2.getD (Int.toNat x51l18) default)).2).2, xs15_5, hR15_0, hL15_2, hL15_5, hA.sub (by kernel_rfl), hW.sub (.cons_cons _ (.cons_cons _ (.cons_cons _ (.cons _ .slnil)))), hF⟩
     ·replace hF := hF.2 hc10
      refine Ok.exit ?_
      refine Ok.thenE ?_
      refine Ok.thenE ?_
      refine Ok.blockHit ?_
      exact Ok.resH (vs := []) (.inr rfl) rfl .nil (hxj6.trans hxl18) ⟨(ybxw_0l18, yown_xw_1_0l18, yown_xw_2_0l18), aybxw_0l18, cybxw_0l18, ayown_xw_1_0l18, cyown_xw_1_0l18, xsyown_xw_1_0l18, ayown_xw_2_0l18, cyown_xw_2_0l18, xsyown_xw_2_0l18, rfl, hRybxw_0l18, hLyown_xw_1_0l18, hLyown_xw_2_0l18, rfl, hF⟩
theorem hco_F (N : Nat) (w : W3) (v : JV) (hp : hcoP (N + 1) w v) : hcoF N w v (fun r => r = hcoS w v) := by
 obtain ⟨h, s⟩ := w
 obtain ⟨H, I, hv, hN⟩ := hp
 simp only at H I hv hN
 have hR : hcoS (h, s) v = (h, come h s v) := rfl
 have hce := come_eq H I hv
 have h300 := H.few
 have j6 : hcoj6 N (h, s) v (fun r => r = hcoS (h, s) v) := by
  refine ⟨fun hc => ?_, fun hc => ?_⟩
  ·have hc' : (decide (hrefM v < 0) || decide (s.1.getD (hrefM v).toNat default ≥ 0)) = true := hc
   rw [if_t hc'] at hce
   rw [hR, hce]
  ·have hc' : (decide (hrefM v < 0) || decide (s.1.getD (hrefM v).toNat default ≥ 0)) = false := hc
   rw [if_f hc'] at hce
   rw [Bool.or_eq_false_iff, decide_eq_false_iff_not, decide_eq_false_iff_not] at hc'
   obtain ⟨n, hn⟩ : ∃ n : Nat, hrefM v = (n : Int) := ⟨(hrefM v).toNat, by omega⟩
   rw [hn] at hc' hv hce ⊢
   rw [Int.toNat_natCast] at hc' hce ⊢
   have hnl : n < h.length := by omega
   have I2 := I.put hnl (by omega)
   have hu := unv_set (l := s.1) (s.2.length : Int) (by rw [I.len]; exact hnl) (by omega) (by omega)
   have hcn := I.cnt
   have hkl : (h.getD n default).2.2.length ≤ 200 := (H.small _ (mem_getD default hnl)).1
   refine ⟨by omega, by show n < s.1.length; rw [I.len]; exact hnl, by show (s.2 ++ [(n : Int)]).length ≤ _; rw [List.length_append]; simp; omega, by omega, hnl, (h.getD n default).2.2.length + 1, ?_⟩
   have loop : ∀ (k i : Nat) (t : SS), i + k = (h.getD n default).2.2.length → Inv h t → unv t.1 < N → come h s v = ((h.getD n default).2.2.drop i).foldl (come h) t → hcol18 N (fun r => r = hcoS (h, s) v) (h.getD n default) (k + 1) (i : Int) h t.1 t.2 := by
    intro k
    induction k with
    | zero =>
     intro i t hi J _ he
     rw [List.drop_of_length_le (by omega)] at he
     refine ⟨fun h2 => by have := of_decide_eq_true h2; omega, fun _ => ?_⟩
     rw [hR, he]; rfl
    | succ k ih =>
     intro i t hi J hu2 he
     rw [drop_get (l := (h.getD n default).2.2) default (by omega), List.foldl_cons] at he
     have hk := H.kid hnl _ (mem_getD default (show i < (h.getD n default).2.2.length by omega))
     have ho := come_ok H J hk
     refine ⟨fun _ => ⟨by omega, by omega, ?_, ?_⟩, fun h2 => by have := of_decide_eq_false h2; omega⟩
     ·rw [Int.toNat_natCast]; exact ⟨H, J, hk, hu2⟩
     ·rw [Int.toNat_natCast, w64 (by omega)]
      exact ih (i + 1) (come h t ((h.getD n default).2.2.getD i default)) (by omega) ho.1 (by omega) he
   exact loop _ 0 (s.1.set n (s.2.length : Int), s.2 ++ [(n : Int)]) (by omega) I2 (by show unv (s.1.set n (s.2.length : Int)) < N; omega) hce
 refine ⟨fun _ => j6, fun hc => ⟨by have := of_decide_eq_false hc; omega, ?_, j6⟩⟩
 have := of_decide_eq_false hc
 show (hrefM v).toNat < s.1.length
 rw [I.len]; omega
set_option linter.unusedVariables false in
theorem hco_rec : ∀ N, hco_C N
 | 0 => (by intro g bxw axw_0 cxw_0 axw_1 cxw_1 xsxw_1 axw_2 cxw_2 xsxw_2 xw xv hRxw_0 hLxw_1 hLxw_2 hp; exact (hco_0 xw xv hp).elim)
 | N + 1 =>
  have ih := hco_rec N
  (by intro g bxw axw_0 cxw_0 axw_1 cxw_1 xsxw_1 axw_2 cxw_2 xsxw_2 xw xv hRxw_0 hLxw_1 hLxw_2 hp; exact (hco_ok N ih xw xv hRxw_0 hLxw_1 hLxw_2 _ (hco_F N xw xv hp)).mono (by rintro g' H' v _ ⟨fxw, afxw_0, cfxw_0, afxw_1, cfxw_1, xsfxw_1, afxw_2, cfxw_2, xsfxw_2, rfl, hRfxw_0, hLfxw_1, hLfxw_2, rfl, hK⟩; subst hK; exact ⟨afxw_0, cfxw_0, afxw_1, cfxw_1, xsfxw_1, afxw_2, cfxw_2, xsfxw_2, rfl, hRfxw_0, hLfxw_1, hLfxw_2, rfl⟩))
def hcoPE (xw : (List (Int × List (List UInt8) × List (Int × Int × List UInt8))) × List (Int) × List (Int)) (xv : Int × Int × List UInt8) : Prop := ∃ N, hcoP N xw xv
set_option linter.unusedVariables false in
theorem hco_c {g : Ghost} {bxw : Nat} {axw_0 : Option Addr} {cxw_0 : Nat} {axw_1 : Option Addr} {cxw_1 : Nat} {xsxw_1 : List Value} {axw_2 : Option Addr} {cxw_2 : Nat} {xsxw_2 : List Value} (xw : (List (Int × List (List UInt8) × List (Int × Int × List UInt8))) × List (Int) × List (Int)) (xv : Int × Int × List UInt8) (hRxw_0 : Rep g (.slice (.pair (.int .i64) (.pair (.slice (.str)) (.slice (.pair (.int .i64) (.pair (.int .i64) (.str))))))) [.slice axw_0 xw.1.length cxw_0] xw.1) (hLxw_1 : RepL g (.int .i64) xsxw_1 xw.2.1) (hLxw_2 : RepL g (.int .i64) xsxw_2 xw.2.2)  (hp : hcoPE xw xv) : CallsH Try.prog 81 #[.pointer (some ⟨bxw, 0, none⟩), .agg #[.int .i64 xv.1, .int .i64 xv.2.1, .string ⟨⟨xv.2.2⟩⟩]] g [.blk bxw (.cells #[.slice axw_0 xw.1.length cxw_0, .slice axw_1 xw.2.1.length cxw_1, .slice axw_2 xw.2.2.length cxw_2] 107), .own (.slice axw_1 xw.2.1.length cxw_1) 3 1 xw.2.1.length xsxw_1, .own (.slice axw_2 xw.2.2.length cxw_2) 3 1 xw.2.2.length xsxw_2] (fun g' H' v => ∃ (afxw_0 : Option Addr) (cfxw_0 : Nat), ∃ (afxw_1 : Option Addr) (cfxw_1 : Nat) (xsfxw_1 : List Value), ∃ (afxw_2 : Option Addr) (cfxw_2 : Nat) (xsfxw_2 : List Value), v = .tuple #[] ∧ Rep g' (.slice (.pair (.int .i64) (.pair (.slice (.str)) (.slice (.pair (.int .i64) (.pair (.int .i64) (.str))))))) [.slice afxw_0 (hcoS xw xv).1.length cfxw_0] (hcoS xw xv).1 ∧ RepL g' (.int .i64) xsfxw_1 (hcoS xw xv).2.1 ∧ RepL g' (.int .i64) xsfxw_2 (hcoS xw xv).2.2 ∧ H' = [.blk bxw (.cells #[.slice afxw_0 (hcoS xw xv).1.length cfxw_0, .slice afxw_1 (hcoS xw xv).2.1.length cfxw_1, .slice afxw_2 (hcoS xw xv).2.2.length cfxw_2] 107), .own (.slice afxw_1 (hcoS xw xv).2.1.length cfxw_1) 3 1 (hcoS xw xv).2.1.length xsfxw_1, .own (.slice afxw_2 (hcoS xw xv).2.2.length cfxw_2) 3 1 (hcoS xw xv).2.2.length xsfxw_2]) := by
 obtain ⟨N, hp⟩ := hp
 exact (hco_rec N) _ xw xv hRxw_0 hLxw_1 hLxw_2 hp
def vclj4 (K : (List (JV)) → Prop) (x0j4 : List (JV)) (x4j4 : Bool) : Prop :=
 ((x4j4) = true → K ([] : List (JV))) ∧ ((x4j4) = false → (([] : List (JV)) ++ x0j4).length ≤ 4398046511104 ∧ K (([] : List (JV)) ++ x0j4))
def vclF (xs : List (JV)) (K : (List (JV)) → Prop) : Prop :=
 (xs = [] → vclj4 K xs true) ∧ (vclj4 K xs false)
set_option maxHeartbeats 4000000 in
set_option maxRecDepth 100000 in
set_option linter.unusedVariables false in
theorem vcl_ok {g : Ghost} {axs_0 : Option Addr} {cxs_0 : Nat} (xs : List (JV)) (hRxs_0 : Rep g (.slice (.pair (.int .i64) (.pair (.int .i64) (.str)))) [.slice axs_0 xs.length cxs_0] xs) (K : (List (JV)) → Prop)
  (hF : vclF xs K) : CallsH Try.prog 63 #[.slice axs_0 xs.length cxs_0] g [] (fun g' H' v => ∃ (r0 : List (JV)), ∃ (ar0 : Option Addr) (cr0 : Nat) (xsr0 : List Value), v = .slice ar0 r0.length cr0 ∧ RepL g' (.pair (.int .i64) (.pair (.int .i64) (.str))) xsr0 r0 ∧ H' = [.own (.slice ar0 r0.length cr0) 24 3 r0.length xsr0] ∧ K r0) := by
 refine CallsH.enter 8 [(0, .slice axs_0 xs.length cxs_0)] Try.func63 rfl (by kernel_rfl) (by kernel_rfl) (by kernel_rfl) fun w0 => ?_
 refine Ok.seq ?_
 refine Ok.region ?_
 refine Ok.batch 1 [(0, .slice axs_0 xs.length cxs_0)] (by kernel_rfl) ?_
 refine Ok.nil ?_
 refine Ok.thenN ?_
 refine Ok.seq ?_
 refine Ok.cut (fun a W => ∃ gj4 : Ghost, Gext w0 g gj4 ∧ ∃ (ax0j4 : Option Addr) (cx0j4 : Nat) (x0j4 : List (JV)) (x4j4 : Bool), Rep gj4 (.slice (.pair (.int .i64) (.pair (.int .i64) (.str)))) [.slice ax0j4 x0j4.length cx0j4] x0j4 ∧ StA 8 [(0, .slice ax0j4 x0j4.length cx0j4), (4, .bool x4j4)] a ∧ StW w0 [] gj4 W ∧ vclj4 K x0j4 x4j4) ?_ ?_
 ·
  refine Ok.region ?_
  refine Ok.batch 1 [(0, .slice axs_0 xs.length cxs_0), (3, .slice axs_0 xs.length cxs_0)] (by kernel_rfl) ?_
  rcases optCases axs_0 with rfl | ⟨ad5, rfl⟩
  ·have hz5 := Rep.none_nil hRxs_0
   replace hF := hF.1 hz5
   refine Ok.op rfl (OpOk.step (v := .bool true) (Yields.eqNilAt rfl rfl Try.underlying29 (by kernel_rfl) rfl) rfl rfl ?_)
   refine Ok.nil ?_
   refine Ok.thenN ?_
   exact fun a W hA hW => ⟨g, (Gext.refl w0 g), none, cxs_0, xs, true, hRxs_0, hA.sub (by kernel_rfl), hW, hF⟩
  ·replace hF := hF.2
   refine Ok.op rfl (OpOk.step (v := .bool false) (Yields.eqNilAt rfl rfl Try.underlying29 (by kernel_rfl) rfl) rfl rfl ?_)
   refine Ok.nil ?_
   refine Ok.thenN ?_
   exact fun a W hA hW => ⟨g, (Gext.refl w0 g), (some ad5), cxs_0, xs, false, hRxs_0, hA.sub (by kernel_rfl), hW, hF⟩
 ·
  clear hF
  rintro a W ⟨gj4, hxj4, ax0j4, cx0j4, x0j4, x4j4, hRx0j4, hA, hW, hF⟩
  refine (?_ : Ok _ _ _ _ _ _) a W hA hW
  clear hA hW
  refine Ok.cond (b := x4j4) rfl (fun hc1 => ?_) (fun hc1 => ?_)
  ·replace hF := hF.1 hc1
   refine Ok.seq ?_
   refine Ok.region ?_
   refine Ok.batch 1 [(2, .slice none 0 0)] (by kernel_rfl) ?_
   have hL2 : RepL gj4 (.pair (.int .i64) (.pair (.int .i64) (.str))) [] [] := rfl
   refine Ok.ownNil 24 3 ?_
   refine Ok.nil ?_
   refine Ok.thenN ?_
   refine Ok.ret ?_
   refine Ok.thenR ?_
   exact Ok.resH (vs := [.slice none ([] : List (JV)).length 0]) (.inl rfl) rfl (.cons (.tmp rfl) .nil) hxj4 ⟨([] : List (JV)), none, 0, [], rfl, hL2, rfl, hF⟩
  ·replace hF := hF.2 hc1
   refine Ok.skip ?_
   refine Ok.thenN ?_
   refine Ok.seq ?_
   refine Ok.region ?_
   have hL3 : RepL gj4 (.pair (.int .i64) (.pair (.int .i64) (.str))) ([] : List Value) ([] : List (JV)) := rfl
   refine Ok.op rfl (OpOk.lit (E := 24) (.pair (.int .i64) (.pair (.int .i64) (.str))) ([] : List (JV)) ([] : List Value) (by kernel_rfl) (by kernel_rfl) rfl (by kernel_rfl) hL3 rfl fun b3 => ?_)
   refine Ok.batch 1 [(5, .slice (some ⟨b3, 0, none⟩) ([] : List (JV)).length 0), (6, .slice ax0j4 x0j4.length cx0j4)] (by kernel_rfl) ?_
   obtain ⟨hb4, hF⟩ := hF
   refine Ok.op rfl (OpOk.appendRo (e := .pair (.int .i64) (.pair (.int .i64) (.str))) 32 4398046511104 0 rfl rfl rfl hL3 hRx0j4 Try.underlying29 (by kernel_rfl) (by kernel_rfl) (by kernel_rfl) hb4 rfl fun a4 c4 xs4 hL4 => ?_)
   refine Ok.batch 1 [(2, .slice a4 (([] : List (JV)) ++ x0j4).length c4)] (by kernel_rfl) ?_
   refine Ok.nil ?_
   refine Ok.thenN ?_
   refine Ok.ret ?_
   exact Ok.resH (vs := [.slice a4 (([] : List (JV)) ++ x0j4).length c4]) (.inl rfl) rfl (.cons (.tmp rfl) .nil) hxj4 ⟨(([] : List (JV)) ++ x0j4), a4, c4, xs4, rfl, hL4, rfl, hF⟩
def vclS (l : List JV) : List JV := l
def vclP (l : List JV) : Prop := l.length ≤ 4398046511104
theorem vcl_F (l : List JV) (hp : vclP l) : vclF l (fun r => r = vclS l) := by
 unfold vclP at hp
 refine ⟨fun h => ⟨fun _ => by rw [h]; rfl, (fun h => by cases h)⟩, ⟨(fun h => by cases h), fun _ => ⟨by rw [List.nil_append]; exact hp, by rw [List.nil_append]; rfl⟩⟩⟩
set_option linter.unusedVariables false in
theorem vcl_c {g : Ghost} {axs_0 : Option Addr} {cxs_0 : Nat} (xs : List (Int × Int × List UInt8)) (hRxs_0 : Rep g (.slice (.pair (.int .i64) (.pair (.int .i64) (.str)))) [.slice axs_0 xs.length cxs_0] xs)  (hp : vclP xs) : CallsH Try.prog 63 #[.slice axs_0 xs.length cxs_0] g [] (fun g' H' v => ∃ (ar0 : Option Addr) (cr0 : Nat) (xsr0 : List Value), v = .slice ar0 (vclS xs).length cr0 ∧ RepL g' (.pair (.int .i64) (.pair (.int .i64) (.str))) xsr0 (vclS xs) ∧ H' = [.own (.slice ar0 (vclS xs).length cr0) 24 3 (vclS xs).length xsr0]) :=
 (vcl_ok xs hRxs_0 _ (vcl_F xs hp)).mono (by rintro g' H' v _ ⟨r0, ar0, cr0, xsr0, rfl, hLr0, rfl, hK⟩; subst hK; exact ⟨ar0, cr0, xsr0, rfl, hLr0, rfl⟩)
def sclj4 (K : (List (List UInt8)) → Prop) (x0j4 : List (List UInt8)) (x4j4 : Bool) : Prop :=
 ((x4j4) = true → K ([] : List (List UInt8))) ∧ ((x4j4) = false → (([] : List (List UInt8)) ++ x0j4).length ≤ 8796093022208 ∧ K (([] : List (List UInt8)) ++ x0j4))
def sclF (xs : List (List UInt8)) (K : (List (List UInt8)) → Prop) : Prop :=
 (xs = [] → sclj4 K xs true) ∧ (sclj4 K xs false)
set_option maxHeartbeats 4000000 in
set_option maxRecDepth 100000 in
set_option linter.unusedVariables false in
theorem scl_ok {g : Ghost} {axs_0 : Option Addr} {cxs_0 : Nat} (xs : List (List UInt8)) (hRxs_0 : Rep g (.slice (.str)) [.slice axs_0 xs.length cxs_0] xs) (K : (List (List UInt8)) → Prop)
  (hF : sclF xs K) : CallsH Try.prog 84 #[.slice axs_0 xs.length cxs_0] g [] (fun g' H' v => ∃ (r0 : List (List UInt8)), ∃ (ar0 : Option Addr) (cr0 : Nat) (xsr0 : List Value), v = .slice ar0 r0.length cr0 ∧ RepL g' (.str) xsr0 r0 ∧ H' = [.own (.slice ar0 r0.length cr0) 9 1 r0.length xsr0] ∧ K r0) := by
 refine CallsH.enter 8 [(0, .slice axs_0 xs.length cxs_0)] Try.func84 rfl (by kernel_rfl) (by kernel_rfl) (by kernel_rfl) fun w0 => ?_
 refine Ok.seq ?_
 refine Ok.region ?_
 refine Ok.batch 1 [(0, .slice axs_0 xs.length cxs_0)] (by kernel_rfl) ?_
 refine Ok.nil ?_
 refine Ok.thenN ?_
 refine Ok.seq ?_
 refine Ok.cut (fun a W => ∃ gj4 : Ghost, Gext w0 g gj4 ∧ ∃ (ax0j4 : Option Addr) (cx0j4 : Nat) (x0j4 : List (List UInt8)) (x4j4 : Bool), Rep gj4 (.slice (.str)) [.slice ax0j4 x0j4.length cx0j4] x0j4 ∧ StA 8 [(0, .slice ax0j4 x0j4.length cx0j4), (4, .bool x4j4)] a ∧ StW w0 [] gj4 W ∧ sclj4 K x0j4 x4j4) ?_ ?_
 ·
  refine Ok.region ?_
  refine Ok.batch 1 [(0, .slice axs_0 xs.length cxs_0), (3, .slice axs_0 xs.length cxs_0)] (by kernel_rfl) ?_
  rcases optCases axs_0 with rfl | ⟨ad5, rfl⟩
  ·have hz5 := Rep.none_nil hRxs_0
   replace hF := hF.1 hz5
   refine Ok.op rfl (OpOk.step (v := .bool true) (Yields.eqNilAt rfl rfl Try.underlying70 (by kernel_rfl) rfl) rfl rfl ?_)
   refine Ok.nil ?_
   refine Ok.thenN ?_
   exact fun a W hA hW => ⟨g, (Gext.refl w0 g), none, cxs_0, xs, true, hRxs_0, hA.sub (by kernel_rfl), hW, hF⟩
  ·replace hF := hF.2
   refine Ok.op rfl (OpOk.step (v := .bool false) (Yields.eqNilAt rfl rfl Try.underlying70 (by kernel_rfl) rfl) rfl rfl ?_)
   refine Ok.nil ?_
   refine Ok.thenN ?_
   exact fun a W hA hW => ⟨g, (Gext.refl w0 g), (some ad5), cxs_0, xs, false, hRxs_0, hA.sub (by kernel_rfl), hW, hF⟩
 ·
  clear hF
  rintro a W ⟨gj4, hxj4, ax0j4, cx0j4, x0j4, x4j4, hRx0j4, hA, hW, hF⟩
  refine (?_ : Ok _ _ _ _ _ _) a W hA hW
  clear hA hW
  refine Ok.cond (b := x4j4) rfl (fun hc1 => ?_) (fun hc1 => ?_)
  ·replace hF := hF.1 hc1
   refine Ok.seq ?_
   refine Ok.region ?_
   refine Ok.batch 1 [(2, .slice none 0 0)] (by kernel_rfl) ?_
   have hL2 : RepL gj4 (.str) [] [] := rfl
   refine Ok.ownNil 9 1 ?_
   refine Ok.nil ?_
   refine Ok.thenN ?_
   refine Ok.ret ?_
   refine Ok.thenR ?_
   exact Ok.resH (vs := [.slice none ([] : List (List UInt8)).length 0]) (.inl rfl) rfl (.cons (.tmp rfl) .nil) hxj4 ⟨([] : List (List UInt8)), none, 0, [], rfl, hL2, rfl, hF⟩
  ·replace hF := hF.2 hc1
   refine Ok.skip ?_
   refine Ok.thenN ?_
   refine Ok.seq ?_
   refine Ok.region ?_
   have hL3 : RepL gj4 (.str) ([] : List Value) ([] : List (List UInt8)) := rfl
   refine Ok.op rfl (OpOk.lit (E := 9) (.str) ([] : List (List UInt8)) ([] : List Value) (by kernel_rfl) (by kernel_rfl) rfl (by kernel_rfl) hL3 rfl fun b3 => ?_)
   refine Ok.batch 1 [(5, .slice (some ⟨b3, 0, none⟩) ([] : List (List UInt8)).length 0), (6, .slice ax0j4 x0j4.length cx0j4)] (by kernel_rfl) ?_
   obtain ⟨hb4, hF⟩ := hF
   refine Ok.op rfl (OpOk.appendRo (e := .str) 16 8796093022208 0 rfl rfl rfl hL3 hRx0j4 Try.underlying70 (by kernel_rfl) (by kernel_rfl) (by kernel_rfl) hb4 rfl fun a4 c4 xs4 hL4 => ?_)
   refine Ok.batch 1 [(2, .slice a4 (([] : List (List UInt8)) ++ x0j4).length c4)] (by kernel_rfl) ?_
   refine Ok.nil ?_
   refine Ok.thenN ?_
   refine Ok.ret ?_
   exact Ok.resH (vs := [.slice a4 (([] : List (List UInt8)) ++ x0j4).length c4]) (.inl rfl) rfl (.cons (.tmp rfl) .nil) hxj4 ⟨(([] : List (List UInt8)) ++ x0j4), a4, c4, xs4, rfl, hL4, rfl, hF⟩
def sclS (l : List (List UInt8)) : List (List UInt8) := l
def sclP (l : List (List UInt8)) : Prop := l.length ≤ 1000000
theorem scl_F (l : List (List UInt8)) (hp : sclP l) : sclF l (fun r => r = sclS l) := by
 unfold sclP at hp
 refine ⟨fun h => ⟨fun _ => by rw [h]; rfl, (fun h => by cases h)⟩, ⟨(fun h => by cases h), fun _ => ⟨by rw [List.nil_append]; omega, by rw [List.nil_append]; rfl⟩⟩⟩
set_option linter.unusedVariables false in
theorem scl_c {g : Ghost} {axs_0 : Option Addr} {cxs_0 : Nat} (xs : List (List UInt8)) (hRxs_0 : Rep g (.slice (.str)) [.slice axs_0 xs.length cxs_0] xs)  (hp : sclP xs) : CallsH Try.prog 84 #[.slice axs_0 xs.length cxs_0] g [] (fun g' H' v => ∃ (ar0 : Option Addr) (cr0 : Nat) (xsr0 : List Value), v = .slice ar0 (sclS xs).length cr0 ∧ RepL g' (.str) xsr0 (sclS xs) ∧ H' = [.own (.slice ar0 (sclS xs).length cr0) 9 1 (sclS xs).length xsr0]) :=
 (scl_ok xs hRxs_0 _ (scl_F xs hp)).mono (by rintro g' H' v _ ⟨r0, ar0, cr0, xsr0, rfl, hLr0, rfl, hK⟩; subst hK; exact ⟨ar0, cr0, xsr0, rfl, hLr0, rfl⟩)
def hcpF (xc : Int × List (List UInt8) × List (JV)) (K : (Int × List (List UInt8) × List (JV)) → Prop) : Prop :=
 sclP xc.2.1 ∧ vclP xc.2.2 ∧ K (xc.1, (sclS xc.2.1), (vclS xc.2.2))
set_option maxHeartbeats 4000000 in
set_option maxRecDepth 100000 in
set_option linter.unusedVariables false in
theorem hcp_ok {g : Ghost} {axc_0 : Option Addr} {cxc_0 : Nat} {axc_1 : Option Addr} {cxc_1 : Nat} (xc : Int × List (List UInt8) × List (JV)) (hRxc_0 : Rep g (.slice (.str)) [.slice axc_0 xc.2.1.length cxc_0] xc.2.1) (hRxc_1 : Rep g (.slice (.pair (.int .i64) (.pair (.int .i64) (.str)))) [.slice axc_1 xc.2.2.length cxc_1] xc.2.2) (K : (Int × List (List UInt8) × List (JV)) → Prop)
  (hF : hcpF xc K) : CallsH Try.prog 60 #[.agg #[.int .i64 xc.1, .slice axc_0 xc.2.1.length cxc_0, .slice axc_1 xc.2.2.length cxc_1]] g [] (fun g' H' v => ∃ (r0 : Int × List (List UInt8) × List (JV)), ∃ (ar0_0 : Option Addr) (cr0_0 : Nat), ∃ (ar0_1 : Option Addr) (cr0_1 : Nat), v = .agg #[.int .i64 r0.1, .slice ar0_0 r0.2.1.length cr0_0, .slice ar0_1 r0.2.2.length cr0_1] ∧ Rep g' (.slice (.str)) [.slice ar0_0 r0.2.1.length cr0_0] r0.2.1 ∧ Rep g' (.slice (.pair (.int .i64) (.pair (.int .i64) (.str)))) [.slice ar0_1 r0.2.2.length cr0_1] r0.2.2 ∧ H' = [] ∧ K r0) := by
 refine CallsH.enter 12 [(0, .agg #[.int .i64 xc.1, .slice axc_0 xc.2.1.length cxc_0, .slice axc_1 xc.2.2.length cxc_1])] Try.func60 rfl (by kernel_rfl) (by kernel_rfl) (by kernel_rfl) fun w0 => ?_
 refine Ok.seq ?_
 refine Ok.region ?_
 refine Ok.op rfl (OpOk.box (v := .agg #[.int .i64 xc.1, .slice axc_0 xc.2.1.length cxc_0, .slice axc_1 xc.2.2.length cxc_1]) (cs := #[.int .i64 xc.1, .slice axc_0 xc.2.1.length cxc_0, .slice axc_1 xc.2.2.length cxc_1]) rfl (by kernel_rfl) rfl fun b1 => ?_)
 refine Ok.op rfl (OpOk.alloc (z := .agg #[.int .i64 0, .slice none 0 0, .slice none 0 0]) (cs := #[.int .i64 0, .slice none 0 0, .slice none 0 0]) (by kernel_rfl) (by kernel_rfl) rfl fun b2 => ?_)
 refine Ok.nil ?_
 refine Ok.thenN ?_
 refine Ok.seq ?_
 refine Ok.mix [] [] [.blk b1 (.cells #[.int .i64 xc.1, .slice axc_0 xc.2.1.length cxc_0, .slice axc_1 xc.2.2.length cxc_1] 72)] [(0, true), (1, true), (2, true), (3, true), (5, true), (6, true), (4, false), (7, false), (8, true), (9, false)] (by kernel_rfl) (by kernel_rfl) (.cons _ (.cons_cons _ .slnil)) ?_
 refine OkM.batch 1 [(1, .pointer (some ⟨b1, 0, none⟩)), (2, .pointer (some ⟨b2, 0, none⟩)), (3, .pointer (some ⟨b1, 0, none⟩))] (by kernel_rfl) ?_
 refine OkM.head rfl rfl (show _ = [.blk b1 (.cells #[.int .i64 xc.1, .slice axc_0 xc.2.1.length cxc_0, .slice axc_1 xc.2.2.length cxc_1] 72)] from rfl) (OpQ.step (v := .int .i64 xc.1) (Yields.load 0 rfl rfl Try.underlying3 rfl (by kernel_rfl)) rfl rfl ?_)
 refine OkM.batch 1 [(1, .pointer (some ⟨b1, 0, none⟩)), (2, .pointer (some ⟨b2, 0, none⟩)), (4, .int .i64 xc.1), (5, .pointer (some ⟨b1, 1, none⟩))] (by kernel_rfl) ?_
 refine OkM.head rfl rfl (show _ = [.blk b1 (.cells #[.int .i64 xc.1, .slice axc_0 xc.2.1.length cxc_0, .slice axc_1 xc.2.2.length cxc_1] 72)] from rfl) (OpQ.step (v := .slice axc_0 xc.2.1.length cxc_0) (Yields.load 0 rfl rfl Try.underlying70 rfl (by kernel_rfl)) rfl rfl ?_)
 refine OkM.batch 1 [(2, .pointer (some ⟨b2, 0, none⟩)), (4, .int .i64 xc.1), (6, .slice axc_0 xc.2.1.length cxc_0), (8, .pointer (some ⟨b1, 2, none⟩))] (by kernel_rfl) ?_
 refine OkM.head rfl rfl (show _ = [.blk b1 (.cells #[.int .i64 xc.1, .slice axc_0 xc.2.1.length cxc_0, .slice axc_1 xc.2.2.length cxc_1] 72)] from rfl) (OpQ.step (v := .slice axc_1 xc.2.2.length cxc_1) (Yields.load 0 rfl rfl Try.underlying29 rfl (by kernel_rfl)) rfl rfl ?_)
 obtain ⟨hp3, hF⟩ := hF
 refine OkM.tail rfl rfl (OpOk.callH [] [.blk b2 (.cells #[.int .i64 0, .slice none 0 0, .slice none 0 0] 72), .blk b1 (.cells #[.int .i64 xc.1, .slice axc_0 xc.2.1.length cxc_0, .slice axc_1 xc.2.2.length cxc_1] 72)] (enters (by kernel_rfl) (fun _ => by kernel_rfl)) rfl (scl_c xc.2.1 hRxc_0 hp3) rfl fun g4 _ _ hx4 hV4 => ?_)
 obtain ⟨a4_0, c4_0, xs4_0, rfl, hL4_0, rfl⟩ := hV4
 replace hRxc_0 := hRxc_0.mono hx4.1
 replace hRxc_1 := hRxc_1.mono hx4.1
 refine OkM.leaf (i := 4) (show _ = [.blk b1 (.cells #[.int .i64 xc.1, .slice axc_0 xc.2.1.length cxc_0, .slice axc_1 xc.2.2.length cxc_1] 72)] from rfl) hx4.1 (.cons _ (.cons _ (.cons_cons _ .slnil))) ?_
 obtain ⟨hp5, hF⟩ := hF
 refine OkM.tail rfl rfl (OpOk.callH [] [.own (.slice a4_0 (sclS xc.2.1).length c4_0) 9 1 (sclS xc.2.1).length xs4_0, .blk b2 (.cells #[.int .i64 0, .slice none 0 0, .slice none 0 0] 72), .blk b1 (.cells #[.int .i64 xc.1, .slice axc_0 xc.2.1.length cxc_0, .slice axc_1 xc.2.2.length cxc_1] 72)] (enters (by kernel_rfl) (fun _ => by kernel_rfl)) rfl (vcl_c xc.2.2 hRxc_1 hp5) rfl fun g6 _ _ hx6 hV6 => ?_)
 obtain ⟨a6_0, c6_0, xs6_0, rfl, hL6_0, rfl⟩ := hV6
 replace hRxc_1 := hRxc_1.mono hx6.1
 replace hL4_0 := hL4_0.mono hx6.1
 replace hRxc_0 := hRxc_0.mono hx6.1
 refine OkM.leaf (i := 7) (show _ = [.blk b1 (.cells #[.int .i64 xc.1, .slice axc_0 xc.2.1.length cxc_0, .slice axc_1 xc.2.2.length cxc_1] 72)] from rfl) (hx4.trans hx6).1 (.cons _ (.cons _ (.cons _ (.cons_cons _ .slnil)))) ?_
 refine OkM.batch 1 [(2, .pointer (some ⟨b2, 0, none⟩)), (11, .agg #[.int .i64 xc.1, .slice a4_0 (sclS xc.2.1).length c4_0, .slice a6_0 (vclS xc.2.2).length c6_0])] (by kernel_rfl) ?_
 refine OkM.tail rfl rfl (OpOk.store (k := 3) (v := .agg #[.int .i64 xc.1, .slice a4_0 (sclS xc.2.1).length c4_0, .slice a6_0 (vclS xc.2.2).length c6_0]) (H' := [.own (.slice a6_0 (vclS xc.2.2).length c6_0) 24 3 (vclS xc.2.2).length xs6_0, .own (.slice a4_0 (sclS xc.2.1).length c4_0) 9 1 (sclS xc.2.1).length xs4_0, .blk b2 (.cells #[.int .i64 xc.1, .slice a4_0 (sclS xc.2.1).length c4_0, .slice a6_0 (vclS xc.2.2).length c6_0] 72), .blk b1 (.cells #[.int .i64 xc.1, .slice axc_0 xc.2.1.length cxc_0, .slice axc_1 xc.2.2.length cxc_1] 72)]) 2 rfl rfl rfl (by kernel_rfl) (by kernel_rfl) (by kernel_rfl) (by kernel_rfl) (by kernel_rfl) ?_)
 refine OkM.leaf (i := 9) (show _ = [.blk b1 (.cells #[.int .i64 xc.1, .slice axc_0 xc.2.1.length cxc_0, .slice axc_1 xc.2.2.length cxc_1] 72)] from rfl) (hx4.trans hx6).1 (.cons _ (.cons _ (.cons _ (.cons_cons _ .slnil)))) ?_
 refine OkM.nil ?_
 refine Ok.thenN ?_
 refine Ok.ret ?_
 refine Ok.freeze (H' := [.own (.slice a6_0 (vclS xc.2.2).length c6_0) 24 3 (vclS xc.2.2).length xs6_0, .blk b2 (.cells #[.int .i64 xc.1, .slice a4_0 (sclS xc.2.1).length c4_0, .slice a6_0 (vclS xc.2.2).length c6_0] 72), .blk b1 (.cells #[.int .i64 xc.1, .slice axc_0 xc.2.1.length cxc_0, .slice axc_1 xc.2.2.length cxc_1] 72)]) 1 rfl hL4_0 rfl fun g7 hx7 hRf7 => ?_
 replace hL6_0 := hL6_0.mono hx7.1
 replace hRxc_0 := hRxc_0.mono hx7.1
 replace hRxc_1 := hRxc_1.mono hx7.1
 refine Ok.freeze (H' := [.blk b2 (.cells #[.int .i64 xc.1, .slice a4_0 (sclS xc.2.1).length c4_0, .slice a6_0 (vclS xc.2.2).length c6_0] 72), .blk b1 (.cells #[.int .i64 xc.1, .slice axc_0 xc.2.1.length cxc_0, .slice axc_1 xc.2.2.length cxc_1] 72)]) 0 rfl hL6_0 rfl fun g8 hx8 hRf8 => ?_
 replace hRf7 := hRf7.mono hx8.1
 replace hRxc_0 := hRxc_0.mono hx8.1
 replace hRxc_1 := hRxc_1.mono hx8.1
 exact Ok.resP (vs := [.agg #[.int .i64 xc.1, .slice a4_0 (sclS xc.2.1).length c4_0, .slice a6_0 (vclS xc.2.2).length c6_0]]) [] [] (by decide) rfl (.inl rfl) rfl (.cons (.cellAgg 0 3 #[.int .i64 xc.1, .slice a4_0 (sclS xc.2.1).length c4_0, .slice a6_0 (vclS xc.2.2).length c6_0] rfl rfl Try.underlying72 rfl (by kernel_rfl) (by kernel_rfl) (by kernel_rfl)) .nil) (((hx4.trans hx6).trans hx7).trans hx8) ⟨(xc.1, (sclS xc.2.1), (vclS xc.2.2)), a4_0, c4_0, a6_0, c6_0, rfl, hRf7, hRf8, rfl, hF⟩
def hcpS (c : JC) : JC := c
def hcpP (c : JC) : Prop := c.2.1.length ≤ 200 ∧ c.2.2.length ≤ 200
theorem hcp_F (c : JC) (hp : hcpP c) : hcpF c (fun r => r = hcpS c) := ⟨by unfold sclP; have := hp.1; omega, by unfold vclP; have := hp.2; omega, rfl⟩
set_option linter.unusedVariables false in
theorem hcp_c {g : Ghost} {axc_0 : Option Addr} {cxc_0 : Nat} {axc_1 : Option Addr} {cxc_1 : Nat} (xc : Int × List (List UInt8) × List (Int × Int × List UInt8)) (hRxc_0 : Rep g (.slice (.str)) [.slice axc_0 xc.2.1.length cxc_0] xc.2.1) (hRxc_1 : Rep g (.slice (.pair (.int .i64) (.pair (.int .i64) (.str)))) [.slice axc_1 xc.2.2.length cxc_1] xc.2.2)  (hp : hcpP xc) : CallsH Try.prog 60 #[.agg #[.int .i64 xc.1, .slice axc_0 xc.2.1.length cxc_0, .slice axc_1 xc.2.2.length cxc_1]] g [] (fun g' H' v => ∃ (ar0_0 : Option Addr) (cr0_0 : Nat), ∃ (ar0_1 : Option Addr) (cr0_1 : Nat), v = .agg #[.int .i64 (hcpS xc).1, .slice ar0_0 (hcpS xc).2.1.length cr0_0, .slice ar0_1 (hcpS xc).2.2.length cr0_1] ∧ Rep g' (.slice (.str)) [.slice ar0_0 (hcpS xc).2.1.length cr0_0] (hcpS xc).2.1 ∧ Rep g' (.slice (.pair (.int .i64) (.pair (.int .i64) (.str)))) [.slice ar0_1 (hcpS xc).2.2.length cr0_1] (hcpS xc).2.2 ∧ H' = []) :=
 (hcp_ok xc hRxc_0 hRxc_1 _ (hcp_F xc hp)).mono (by rintro g' H' v _ ⟨r0, ar0_0, cr0_0, ar0_1, cr0_1, rfl, hRr0_0, hRr0_1, rfl, hK⟩; subst hK; exact ⟨ar0_0, cr0_0, ar0_1, cr0_1, rfl, hRr0_0, hRr0_1, rfl⟩)
/-! a right heap -/
theorem all_get {α : Type} {f : α → Bool} {l : List α} (h : l.all f = true) {x : α} (hx : x ∈ l) : f x = true := List.all_eq_true.1 h x hx
theorem fit_ref {h : List JC} {v : JV} (hf : hfitS h v = true) : hrefM v < (h.length : Int) := by
 unfold hfitS hfitV0 at hf
 rw [Bool.and_eq_true, Bool.or_eq_true, decide_eq_true_eq, Bool.and_eq_true, decide_eq_true_eq] at hf
 omega
theorem cel_any {h : List JC} {c : JC} (hc : hcelS h c = true) : hcelV1 h c = true := by
 unfold hcelS at hc
 split at hc
 ·split at hc
  ·cases hc
  ·exact hc
 ·split at hc
  ·exact hc
  ·split at hc
   ·exact hc
   ·cases hc
theorem hv_of {h : List JC} (hz : hchkS h = 0) : HV h := by
 unfold hchkS at hz
 split at hz
 ·cases hz
 ·rename_i h1
  split at hz
  ·cases hz
  ·rename_i h2
   split at hz
   ·rename_i h3
    have hs : ∀ c ∈ h, c.2.2.length ≤ 200 := fun c hc => by
     have h2 : h.any bigC = false := by simpa using h2
     have := List.any_eq_false.1 h2 c hc
     unfold bigC at this
     simp at this; omega
    refine ⟨by simp at h1; omega, fun c hc => ⟨hs c hc, ?_⟩, fun c hc v hv => ?_⟩
    ·have hh := cel_any (all_get h3 hc)
     have hs := hs c hc
     unfold hcelV1 hcelV0 at hh
     rw [Bool.and_eq_true] at hh
     have hh := eq_of_beq hh.1
     split at hh
     ·omega
     ·split at hh <;> omega
    ·have hh := cel_any (all_get h3 hc)
     unfold hcelV1 vcfS at hh
     rw [Bool.and_eq_true, Bool.and_eq_true, Bool.not_eq_true'] at hh
     have := List.any_eq_false.1 hh.2.2 v hv
     have hf : hfitS h v = true := by
      have : ¬ (!(hfitS h v)) = true := this
      simpa using this
     exact fit_ref hf
   ·cases hz
def start (h : List JC) : SS := (List.replicate h.length (-1), [])
theorem start_inv (h : List JC) : Inv h (start h) := by
 refine ⟨by simp [start], ?_, (fun n hn => by cases hn), fun n hn => ?_⟩
 ·have : unv (List.replicate h.length (-1 : Int)) = h.length := by
   unfold unv
   rw [List.countP_replicate, if_pos (by decide)]
  unfold start
  simp only [List.length_nil]; omega
 ·unfold start
  rw [if_neg (by simp), List.getD_eq_getElem?_getD, List.getElem?_replicate, if_pos hn]; rfl
def order (h : List JC) (l : List JV) : SS := l.foldl (come h) (start h)
def movV (to : List Int) (v : JV) : JV := if decide (hrefM v ≥ 0) = true then (v.1, to.getD (hrefM v).toNat default, v.2.2) else v
def movC (h : List JC) (to : List Int) (n : Int) : JC := ((h.getD n.toNat default).1, (h.getD n.toNat default).2.1, (h.getD n.toNat default).2.2.map (movV to))
def hMoV12 (yown5_0l26i21 : List (Int)) (x12l9i39 : Int) (yown28_0_0l9i39 : List (JV)) : List (JV) :=
 (if (decide ((hrefM (yown28_0_0l9i39.getD (Int.toNat x12l9i39) default)) ≥ 0)) = true then (yown28_0_0l9i39.set (Int.toNat x12l9i39) ((yown28_0_0l9i39.getD (Int.toNat x12l9i39) default).1, (yown5_0l26i21.getD (Int.toNat (hrefM (yown28_0_0l9i39.getD (Int.toNat x12l9i39) default))) default), (yown28_0_0l9i39.getD (Int.toNat x12l9i39) default).2.2)) else yown28_0_0l9i39)
def hMoV15 (yown5_0l26i21 : List (Int)) (x12l9i49 : Int) (yown42_0_0l9i49 : List (JV)) : List (JV) :=
 (if (decide ((hrefM (yown42_0_0l9i49.getD (Int.toNat x12l9i49) default)) ≥ 0)) = true then (yown42_0_0l9i49.set (Int.toNat x12l9i49) ((yown42_0_0l9i49.getD (Int.toNat x12l9i49) default).1, (yown5_0l26i21.getD (Int.toNat (hrefM (yown42_0_0l9i49.getD (Int.toNat x12l9i49) default))) default), (yown42_0_0l9i49.getD (Int.toNat x12l9i49) default).2.2)) else yown42_0_0l9i49)
def hMoj16i39 (yown5_0l26i21 : List (Int)) (x12l9i39 : Int) (yown28_0_0l9i39 : List (JV)) (C9x4 : Int → (List (JV)) → Prop) : Prop :=
 C9x4 (IntKind.wrap .i64 (x12l9i39 + 1)) (hMoV12 yown5_0l26i21 x12l9i39 yown28_0_0l9i39)
def hMol9x4b (xh : List (Int × List (List UInt8) × List (JV))) (yown6_0l26i21 : List (Int)) (yown5_0l26i21 : List (Int)) (x27l21 : Int) (e23 : Int × List (List UInt8) × List (JV)) (yown18_0l21 : List (Int × List (List UInt8) × List (JV))) (C21 : Int → (List (Int × List (List UInt8) × List (JV))) → Prop) (x12l9i39 : Int) (yown28_0_0l9i39 : List (JV)) (C9x4 : Int → (List (JV)) → Prop) : Prop :=
 ((decide (x12l9i39 < ((vclS (((hcpS e23).2).2)).length : Int))) = true → (0 : Int) ≤ x12l9i39 ∧ Int.toNat x12l9i39 < yown28_0_0l9i39.length ∧ ((decide ((hrefM (yown28_0_0l9i39.getD (Int.toNat x12l9i39) default)) ≥ 0)) = true → (0 : Int) ≤ (hrefM (yown28_0_0l9i39.getD (Int.toNat x12l9i39) default)) ∧ Int.toNat (hrefM (yown28_0_0l9i39.getD (Int.toNat x12l9i39) default)) < yown5_0l26i21.length ∧ hMoj16i39 yown5_0l26i21 x12l9i39 yown28_0_0l9i39 C9x4) ∧ ((decide ((hrefM (yown28_0_0l9i39.getD (Int.toNat x12l9i39) default)) ≥ 0)) = false → hMoj16i39 yown5_0l26i21 x12l9i39 yown28_0_0l9i39 C9x4)) ∧ ((decide (x12l9i39 < ((vclS (((hcpS e23).2).2)).length : Int))) = false → (yown18_0l21 ++ ([((hcpS e23).1, ((hcpS e23).2).1, yown28_0_0l9i39)] : List (Int × List (List UInt8) × List (JV)))).length ≤ 2513169434916 ∧ C21 (IntKind.wrap .i64 (x27l21 + 1)) (yown18_0l21 ++ ([((hcpS (xh.getD (Int.toNat (yown6_0l26i21.getD (Int.toNat x27l21) default)) default)).1, ((hcpS (xh.getD (Int.toNat (yown6_0l26i21.getD (Int.toNat x27l21) default)) default)).2).1, yown28_0_0l9i39)] : List (Int × List (List UInt8) × List (JV)))))
def hMol9x4 (xh : List (Int × List (List UInt8) × List (JV))) (yown6_0l26i21 : List (Int)) (yown5_0l26i21 : List (Int)) (x27l21 : Int) (e23 : Int × List (List UInt8) × List (JV)) (yown18_0l21 : List (Int × List (List UInt8) × List (JV))) (C21 : Int → (List (Int × List (List UInt8) × List (JV))) → Prop) : Nat → Int → (List (JV)) → Prop
 | 0, _, _ => False
 | k + 1, x12l9i39, yown28_0_0l9i39 => hMol9x4b xh yown6_0l26i21 yown5_0l26i21 x27l21 e23 yown18_0l21 C21 x12l9i39 yown28_0_0l9i39 (hMol9x4 xh yown6_0l26i21 yown5_0l26i21 x27l21 e23 yown18_0l21 C21 k)
def hMoj16i49 (yown5_0l26i21 : List (Int)) (x12l9i49 : Int) (yown42_0_0l9i49 : List (JV)) (C9x5 : Int → (List (JV)) → Prop) : Prop :=
 C9x5 (IntKind.wrap .i64 (x12l9i49 + 1)) (hMoV15 yown5_0l26i21 x12l9i49 yown42_0_0l9i49)
def hMol9x5b (xroots : List (JV)) (K : (List (Int × List (List UInt8) × List (JV))) → (List (JV)) → Int → Prop) (yown5_0l26i21 : List (Int)) (yown18_0l21 : List (Int × List (List UInt8) × List (JV))) (x12l9i49 : Int) (yown42_0_0l9i49 : List (JV)) (C9x5 : Int → (List (JV)) → Prop) : Prop :=
 ((decide (x12l9i49 < ((vclS xroots).length : Int))) = true → (0 : Int) ≤ x12l9i49 ∧ Int.toNat x12l9i49 < yown42_0_0l9i49.length ∧ ((decide ((hrefM (yown42_0_0l9i49.getD (Int.toNat x12l9i49) default)) ≥ 0)) = true → (0 : Int) ≤ (hrefM (yown42_0_0l9i49.getD (Int.toNat x12l9i49) default)) ∧ Int.toNat (hrefM (yown42_0_0l9i49.getD (Int.toNat x12l9i49) default)) < yown5_0l26i21.length ∧ hMoj16i49 yown5_0l26i21 x12l9i49 yown42_0_0l9i49 C9x5) ∧ ((decide ((hrefM (yown42_0_0l9i49.getD (Int.toNat x12l9i49) default)) ≥ 0)) = false → hMoj16i49 yown5_0l26i21 x12l9i49 yown42_0_0l9i49 C9x5)) ∧ ((decide (x12l9i49 < ((vclS xroots).length : Int))) = false → K yown18_0l21 yown42_0_0l9i49 0)
def hMol9x5 (xroots : List (JV)) (K : (List (Int × List (List UInt8) × List (JV))) → (List (JV)) → Int → Prop) (yown5_0l26i21 : List (Int)) (yown18_0l21 : List (Int × List (List UInt8) × List (JV))) : Nat → Int → (List (JV)) → Prop
 | 0, _, _ => False
 | k + 1, x12l9i49, yown42_0_0l9i49 => hMol9x5b xroots K yown5_0l26i21 yown18_0l21 x12l9i49 yown42_0_0l9i49 (hMol9x5 xroots K yown5_0l26i21 yown18_0l21 k)
def hMol21b (xh : List (Int × List (List UInt8) × List (JV))) (xroots : List (JV)) (K : (List (Int × List (List UInt8) × List (JV))) → (List (JV)) → Int → Prop) (yown6_0l26i21 : List (Int)) (yown5_0l26i21 : List (Int)) (x27l21 : Int) (yown18_0l21 : List (Int × List (List UInt8) × List (JV))) (C21 : Int → (List (Int × List (List UInt8) × List (JV))) → Prop) : Prop :=
 ((decide (x27l21 < (yown6_0l26i21.length : Int))) = true → (0 : Int) ≤ x27l21 ∧ Int.toNat x27l21 < yown6_0l26i21.length ∧ (0 : Int) ≤ (yown6_0l26i21.getD (Int.toNat x27l21) default) ∧ Int.toNat (yown6_0l26i21.getD (Int.toNat x27l21) default) < xh.length ∧ hcpP (xh.getD (Int.toNat (yown6_0l26i21.getD (Int.toNat x27l21) default)) default) ∧ vclP (((hcpS (xh.getD (Int.toNat (yown6_0l26i21.getD (Int.toNat x27l21) default)) default)).2).2) ∧ ∃ k, hMol9x4 xh yown6_0l26i21 yown5_0l26i21 x27l21 (xh.getD (Int.toNat (yown6_0l26i21.getD (Int.toNat x27l21) default)) default) yown18_0l21 C21 k 0 (vclS (((hcpS (xh.getD (Int.toNat (yown6_0l26i21.getD (Int.toNat x27l21) default)) default)).2).2))) ∧ ((decide (x27l21 < (yown6_0l26i21.length : Int))) = false → vclP xroots ∧ ∃ k, hMol9x5 xroots K yown5_0l26i21 yown18_0l21 k 0 (vclS xroots))
def hMol21 (xh : List (Int × List (List UInt8) × List (JV))) (xroots : List (JV)) (K : (List (Int × List (List UInt8) × List (JV))) → (List (JV)) → Int → Prop) (yown6_0l26i21 : List (Int)) (yown5_0l26i21 : List (Int)) : Nat → Int → (List (Int × List (List UInt8) × List (JV))) → Prop
 | 0, _, _ => False
 | k + 1, x27l21, yown18_0l21 => hMol21b xh xroots K yown6_0l26i21 yown5_0l26i21 x27l21 yown18_0l21 (hMol21 xh xroots K yown6_0l26i21 yown5_0l26i21 k)
def hMol26x2b (xh : List (Int × List (List UInt8) × List (JV))) (xroots : List (JV)) (K : (List (Int × List (List UInt8) × List (JV))) → (List (JV)) → Int → Prop) (x32l26i21 : Int) (yb7_0l26i21 : List (Int × List (List UInt8) × List (JV))) (yown6_0l26i21 : List (Int)) (yown5_0l26i21 : List (Int)) (C26x2 : Int → (List (Int × List (List UInt8) × List (JV))) → (List (Int)) → (List (Int)) → Prop) : Prop :=
 ((decide (x32l26i21 < (xroots.length : Int))) = true → (0 : Int) ≤ x32l26i21 ∧ Int.toNat x32l26i21 < xroots.length ∧ hcoPE (yb7_0l26i21, yown5_0l26i21, yown6_0l26i21) (xroots.getD (Int.toNat x32l26i21) default) ∧ C26x2 (IntKind.wrap .i64 (x32l26i21 + 1)) ((hcoS (yb7_0l26i21, yown5_0l26i21, yown6_0l26i21) (xroots.getD (Int.toNat x32l26i21) default)).1) (((hcoS (yb7_0l26i21, yown5_0l26i21, yown6_0l26i21) (xroots.getD (Int.toNat x32l26i21) default)).2).2) (((hcoS (yb7_0l26i21, yown5_0l26i21, yown6_0l26i21) (xroots.getD (Int.toNat x32l26i21) default)).2).1)) ∧ ((decide (x32l26i21 < (xroots.length : Int))) = false → ∃ k, hMol21 xh xroots K yown6_0l26i21 yown5_0l26i21 k 0 ([] : List (Int × List (List UInt8) × List (JV))))
def hMol26x2 (xh : List (Int × List (List UInt8) × List (JV))) (xroots : List (JV)) (K : (List (Int × List (List UInt8) × List (JV))) → (List (JV)) → Int → Prop) : Nat → Int → (List (Int × List (List UInt8) × List (JV))) → (List (Int)) → (List (Int)) → Prop
 | 0, _, _, _, _ => False
 | k + 1, x32l26i21, yb7_0l26i21, yown6_0l26i21, yown5_0l26i21 => hMol26x2b xh xroots K x32l26i21 yb7_0l26i21 yown6_0l26i21 yown5_0l26i21 (hMol26x2 xh xroots K k)
def hMol9x1b (xh : List (Int × List (List UInt8) × List (JV))) (xroots : List (JV)) (K : (List (Int × List (List UInt8) × List (JV))) → (List (JV)) → Int → Prop) (x20l9i21 : Int) (yown5_0l9i21 : List (Int)) (C9x1 : Int → (List (Int)) → Prop) : Prop :=
 ((decide (x20l9i21 < ((List.replicate (Int.toNat (xh.length : Int)) (0 : Int)).length : Int))) = true → (0 : Int) ≤ x20l9i21 ∧ Int.toNat x20l9i21 < yown5_0l9i21.length ∧ C9x1 (IntKind.wrap .i64 (x20l9i21 + 1)) (yown5_0l9i21.set (Int.toNat x20l9i21) (-1))) ∧ ((decide (x20l9i21 < ((List.replicate (Int.toNat (xh.length : Int)) (0 : Int)).length : Int))) = false → ∃ k, hMol26x2 xh xroots K k 0 xh ([] : List (Int)) yown5_0l9i21)
def hMol9x1 (xh : List (Int × List (List UInt8) × List (JV))) (xroots : List (JV)) (K : (List (Int × List (List UInt8) × List (JV))) → (List (JV)) → Int → Prop) : Nat → Int → (List (Int)) → Prop
 | 0, _, _ => False
 | k + 1, x20l9i21, yown5_0l9i21 => hMol9x1b xh xroots K x20l9i21 yown5_0l9i21 (hMol9x1 xh xroots K k)
def hMoF (xh : List (Int × List (List UInt8) × List (JV))) (xroots : List (JV)) (K : (List (Int × List (List UInt8) × List (JV))) → (List (JV)) → Int → Prop) : Prop :=
 haskP xh xroots ∧ ((((haskS xh xroots) != 0)) = true → K ([] : List (Int × List (List UInt8) × List (JV))) ([]) (haskS xh xroots)) ∧ ((((haskS xh xroots) != 0)) = false → (0 : Int) ≤ (xh.length : Int) ∧ (xh.length : Int) ≤ 17592186044416 ∧ ∃ k, hMol9x1 xh xroots K k 0 (List.replicate (Int.toNat (xh.length : Int)) (0 : Int)))
set_option maxHeartbeats 4000000 in
set_option maxRecDepth 100000 in
set_option linter.unusedVariables false in
theorem hMo_ok {g : Ghost} {axh_0 : Option Addr} {cxh_0 : Nat} (xh : List (Int × List (List UInt8) × List (JV))) {axroots_0 : Option Addr} {cxroots_0 : Nat} (xroots : List (JV)) (hRxh_0 : Rep g (.slice (.pair (.int .i64) (.pair (.slice (.str)) (.slice (.pair (.int .i64) (.pair (.int .i64) (.str))))))) [.slice axh_0 xh.length cxh_0] xh) (hRxroots_0 : Rep g (.slice (.pair (.int .i64) (.pair (.int .i64) (.str)))) [.slice axroots_0 xroots.length cxroots_0] xroots) (K : (List (Int × List (List UInt8) × List (JV))) → (List (JV)) → Int → Prop)
  (hF : hMoF xh xroots K) : CallsH Try.prog 26 #[.slice axh_0 xh.length cxh_0, .slice axroots_0 xroots.length cxroots_0] g [] (fun g' H' v => ∃ (r0 : List (Int × List (List UInt8) × List (JV))), ∃ (r1 : List (JV)), ∃ (r2 : Int), ∃ (ar0_0 : Option Addr) (cr0_0 : Nat), ∃ (ar1_0 : Option Addr) (cr1_0 : Nat), v = .tuple #[.slice ar0_0 r0.length cr0_0, .slice ar1_0 r1.length cr1_0, .int .i64 r2] ∧ Rep g' (.slice (.pair (.int .i64) (.pair (.slice (.str)) (.slice (.pair (.int .i64) (.pair (.int .i64) (.str))))))) [.slice ar0_0 r0.length cr0_0] r0 ∧ Rep g' (.slice (.pair (.int .i64) (.pair (.int .i64) (.str)))) [.slice ar1_0 r1.length cr1_0] r1 ∧ H' = [] ∧ K r0 r1 r2) := by
 refine CallsH.enter 50 [(0, .slice axh_0 xh.length cxh_0), (1, .slice axroots_0 xroots.length cxroots_0)] Try.func26 rfl (by kernel_rfl) (by kernel_rfl) (by kernel_rfl) fun w0 => ?_
 refine Ok.seq ?_
 refine Ok.region ?_
 refine Ok.batch 1 [(0, .slice axh_0 xh.length cxh_0), (1, .slice axroots_0 xroots.length cxroots_0)] (by kernel_rfl) ?_
 refine Ok.batch 2 [(0, .slice axh_0 xh.length cxh_0), (1, .slice axroots_0 xroots.length cxroots_0)] (by kernel_rfl) ?_
 refine Ok.nil ?_
 refine Ok.thenN ?_
 refine Ok.seq ?_
 refine Ok.seq ?_
 refine Ok.region ?_
 refine Ok.batch 2 [(0, .slice axh_0 xh.length cxh_0), (1, .slice axroots_0 xroots.length cxroots_0), (13, .slice axh_0 xh.length cxh_0), (14, .slice axroots_0 xroots.length cxroots_0)] (by kernel_rfl) ?_
 obtain ⟨hp1, hF⟩ := hF
 refine Ok.op rfl (OpOk.callG (v := .int .i64 (haskS xh xroots)) (enters (by kernel_rfl) (fun _ => by kernel_rfl)) (fun W hW => hask_c xh xroots (hRxh_0.mono hW.sees) (hRxroots_0.mono hW.sees) hp1) rfl ?_)
 refine Ok.batch 1 [(0, .slice axh_0 xh.length cxh_0), (1, .slice axroots_0 xroots.length cxroots_0), (7, .int .i64 (haskS xh xroots))] (by kernel_rfl) ?_
 refine Ok.nil ?_
 refine Ok.thenN ?_
 refine Ok.seq ?_
 refine Ok.region ?_
 refine Ok.batch 2 [(0, .slice axh_0 xh.length cxh_0), (1, .slice axroots_0 xroots.length cxroots_0), (7, .int .i64 (haskS xh xroots)), (17, .bool ((haskS xh xroots) != 0))] (by kernel_rfl) ?_
 refine Ok.nil ?_
 refine Ok.thenN ?_
 refine Ok.cond (b := ((haskS xh xroots) != 0)) rfl (fun hc2 => ?_) (fun hc2 => ?_)
 ·replace hF := hF.1 hc2
  refine Ok.seq ?_
  refine Ok.region ?_
  refine Ok.batch 2 [(4, .slice none 0 0), (18, .int .i64 (haskS xh xroots))] (by kernel_rfl) ?_
  have hL3 : RepL g (.pair (.int .i64) (.pair (.slice (.str)) (.slice (.pair (.int .i64) (.pair (.int .i64) (.str)))))) [] [] := rfl
  refine Ok.ownNil 72 3 ?_
  refine Ok.batch 2 [(4, .slice none ([] : List (Int × List (List UInt8) × List (JV))).length 0), (5, .slice none 0 0), (6, .int .i64 (haskS xh xroots))] (by kernel_rfl) ?_
  refine Ok.nil ?_
  refine Ok.thenN ?_
  refine Ok.ret ?_
  refine Ok.thenR ?_
  refine Ok.freeze (H' := []) 0 rfl hL3 rfl fun g4 hx4 hRf4 => ?_
  exact Ok.resH (vs := [.slice none ([] : List (Int × List (List UInt8) × List (JV))).length 0, .slice none 0 0, .int .i64 (haskS xh xroots)]) (.inl rfl) rfl (.cons (.tmp rfl) (.cons (.tmp rfl) (.cons (.tmp rfl) .nil))) hx4 ⟨([] : List (Int × List (List UInt8) × List (JV))), ([]), (haskS xh xroots), none, 0, none, 0, rfl, hRf4, Rep.nil, rfl, hF⟩
 ·replace hF := hF.2 hc2
  refine Ok.skip ?_
  refine Ok.thenN ?_
  refine Ok.seq ?_
  refine Ok.region ?_
  refine Ok.batch 2 [(0, .slice axh_0 xh.length cxh_0), (1, .slice axroots_0 xroots.length cxroots_0), (19, .slice axh_0 xh.length cxh_0), (20, .slice axroots_0 xroots.length cxroots_0)] (by kernel_rfl) ?_
  refine Ok.op rfl (OpOk.inline (args := #[.slice axh_0 xh.length cxh_0, .slice axroots_0 xroots.length cxroots_0]) 41 [(0, .slice axh_0 xh.length cxh_0), (1, .slice axroots_0 xroots.length cxroots_0)] (enters (by kernel_rfl) (fun _ => by kernel_rfl)) Try.func58 rfl rfl rfl rfl ?_)
  refine Ok.seq ?_
  refine Ok.region ?_
  refine Ok.batch 1 [(0, .slice axh_0 xh.length cxh_0), (1, .slice axroots_0 xroots.length cxroots_0)] (by kernel_rfl) ?_
  refine Ok.nil ?_
  refine Ok.thenN ?_
  refine Ok.seq ?_
  refine Ok.region ?_
  refine Ok.batch 3 [(1, .slice axroots_0 xroots.length cxroots_0), (9, .slice axh_0 xh.length cxh_0), (11, .int .i64 (xh.length : Int))] (by kernel_rfl) ?_
  obtain ⟨h05, h15, hF⟩ := hF
  refine Ok.op rfl (OpOk.makeZero (e := .int .i64) (E := 3) (nn := (xh.length : Int)) (y := 0) (z := .int .i64 0) 8 17592186044416 rfl rfl Try.underlying61 (by kernel_rfl) (by kernel_rfl) (by kernel_rfl) rfl h05 h15 rfl fun a5 c5 xs5 hL5 => ?_)
  refine Ok.batch 1 [(1, .slice axroots_0 xroots.length cxroots_0), (13, .agg #[.slice axh_0 xh.length cxh_0, .slice a5 (List.replicate (Int.toNat (xh.length : Int)) (0 : Int)).length c5, .slice none 0 0])] (by kernel_rfl) ?_
  have hL6 : RepL g (.int .i64) [] [] := rfl
  refine Ok.ownNil 3 1 ?_
  refine Ok.op rfl (OpOk.box (v := .agg #[.slice axh_0 xh.length cxh_0, .slice a5 (List.replicate (Int.toNat (xh.length : Int)) (0 : Int)).length c5, .slice none ([] : List (Int)).length 0]) (cs := #[.slice axh_0 xh.length cxh_0, .slice a5 (List.replicate (Int.toNat (xh.length : Int)) (0 : Int)).length c5, .slice none ([] : List (Int)).length 0]) rfl (by kernel_rfl) rfl fun b7 => ?_)
  refine Ok.batch 1 [(1, .slice axroots_0 xroots.length cxroots_0), (5, .pointer (some ⟨b7, 0, none⟩))] (by kernel_rfl) ?_
  refine Ok.nil ?_
  refine Ok.thenN ?_
  refine Ok.seq ?_
  refine Ok.seq ?_
  refine Ok.region ?_
  refine Ok.batch 3 [(1, .slice axroots_0 xroots.length cxroots_0), (5, .pointer (some ⟨b7, 0, none⟩)), (17, .pointer (some ⟨b7, 1, none⟩))] (by kernel_rfl) ?_
  refine Ok.op rfl (OpOk.step (v := .slice a5 (List.replicate (Int.toNat (xh.length : Int)) (0 : Int)).length c5) (Yields.load 0 rfl rfl Try.underlying61 rfl (by kernel_rfl)) rfl rfl ?_)
  refine Ok.batch 2 [(1, .slice axroots_0 xroots.length cxroots_0), (5, .pointer (some ⟨b7, 0, none⟩)), (19, .int .i64 ((List.replicate (Int.toNat (xh.length : Int)) (0 : Int)).length : Int)), (20, .int .i64 0)] (by kernel_rfl) ?_
  refine Ok.nil ?_
  refine Ok.thenN ?_
  refine Ok.block ?_
  obtain ⟨k, hF⟩ := hF
  refine Ok.loop (fun k a W => ∃ gl9i21 : Ghost, Gext w0 g gl9i21 ∧ ∃ (x20l9i21 : Int) (ayown5_0l9i21 : Option Addr) (cyown5_0l9i21 : Nat) (yown5_0l9i21 : List (Int)) (xsyown5_0l9i21 : List Value), RepL gl9i21 (.int .i64) xsyown5_0l9i21 yown5_0l9i21 ∧ StA 41 [(1, .slice axroots_0 xroots.length cxroots_0), (5, .pointer (some ⟨b7, 0, none⟩)), (19, .int .i64 ((List.replicate (Int.toNat (xh.length : Int)) (0 : Int)).length : Int)), (20, .int .i64 x20l9i21)] a ∧ StW w0 [.blk b7 (.cells #[.slice axh_0 xh.length cxh_0, .slice ayown5_0l9i21 yown5_0l9i21.length cyown5_0l9i21, .slice none ([] : List (Int)).length 0] 107), .own (.slice none ([] : List (Int)).length 0) 3 1 ([] : List (Int)).length ([]), .own (.slice ayown5_0l9i21 yown5_0l9i21.length cyown5_0l9i21) 3 1 yown5_0l9i21.length xsyown5_0l9i21] gl9i21 W ∧ hMol9x1 xh xroots K k x20l9i21 yown5_0l9i21) k ?_ ?_
  ·
   exact fun a W hA hW => ⟨g, (Gext.refl w0 g), 0, a5, c5, (List.replicate (Int.toNat (xh.length : Int)) (0 : Int)), xs5, hL5, hA.sub (by kernel_rfl), hW, hF⟩
  ·
   clear hF
   rintro k9x1 a W ⟨gl9i21, hxl9i21, x20l9i21, ayown5_0l9i21, cyown5_0l9i21, yown5_0l9i21, xsyown5_0l9i21, hLyown5_0l9i21, hA, hW, hF⟩
   cases k9x1 with
   | zero => exact (hF : False).elim
   | succ k9x1 =>
    refine (?_ : Ok _ _ _ _ _ _) a W hA hW
    clear hA hW
    replace hRxroots_0 := hRxroots_0.mono hxl9i21.1
    replace hRxh_0 := hRxh_0.mono hxl9i21.1
    replace hL6 := hL6.mono hxl9i21.1
    refine Ok.seq ?_
    refine Ok.region ?_
    refine Ok.batch 1 [(1, .slice axroots_0 xroots.length cxroots_0), (5, .pointer (some ⟨b7, 0, none⟩)), (19, .int .i64 ((List.replicate (Int.toNat (xh.length : Int)) (0 : Int)).length : Int)), (20, .int .i64 x20l9i21), (21, .bool (decide (x20l9i21 < ((List.replicate (Int.toNat (xh.length : Int)) (0 : Int)).length : Int))))] (by kernel_rfl) ?_
    refine Ok.nil ?_
    refine Ok.thenN ?_
    refine Ok.seq ?_
    refine Ok.cond (b := decide (x20l9i21 < ((List.replicate (Int.toNat (xh.length : Int)) (0 : Int)).length : Int))) rfl (fun hc8 => ?_) (fun hc8 => ?_)
    ·replace hF := hF.1 hc8
     refine Ok.skip ?_
     refine Ok.thenN ?_
     refine Ok.seq ?_
     refine Ok.block ?_
     refine Ok.seq ?_
     refine Ok.region ?_
     refine Ok.batch 2 [(1, .slice axroots_0 xroots.length cxroots_0), (5, .pointer (some ⟨b7, 0, none⟩)), (6, .int .i64 x20l9i21), (19, .int .i64 ((List.replicate (Int.toNat (xh.length : Int)) (0 : Int)).length : Int)), (20, .int .i64 x20l9i21)] (by kernel_rfl) ?_
     refine Ok.nil ?_
     refine Ok.thenN ?_
     refine Ok.region ?_
     refine Ok.batch 3 [(1, .slice axroots_0 xroots.length cxroots_0), (5, .pointer (some ⟨b7, 0, none⟩)), (6, .int .i64 x20l9i21), (19, .int .i64 ((List.replicate (Int.toNat (xh.length : Int)) (0 : Int)).length : Int)), (20, .int .i64 x20l9i21), (25, .pointer (some ⟨b7, 1, none⟩))] (by kernel_rfl) ?_
     refine Ok.op rfl (OpOk.step (v := .slice ayown5_0l9i21 yown5_0l9i21.length cyown5_0l9i21) (Yields.load 0 rfl rfl Try.underlying61 rfl (by kernel_rfl)) rfl rfl ?_)
     refine Ok.batch 1 [(1, .slice axroots_0 xroots.length cxroots_0), (5, .pointer (some ⟨b7, 0, none⟩)), (19, .int .i64 ((List.replicate (Int.toNat (xh.length : Int)) (0 : Int)).length : Int)), (20, .int .i64 x20l9i21), (26, .slice ayown5_0l9i21 yown5_0l9i21.length cyown5_0l9i21), (27, .int .i64 x20l9i21)] (by kernel_rfl) ?_
     obtain ⟨h010, h110, hF⟩ := hF
     have he10 := get_of (l := yown5_0l9i21) (default : Int) h110
     generalize hg10 : (yown5_0l9i21.getD (Int.toNat x20l9i21) default) = e10 at he10 hF ⊢
     refine Ok.op rfl (OpOk.indexOwn (e := .int .i64) (q := x20l9i21) (el := e10) 2 rfl hLyown5_0l9i21 rfl rfl Try.underlying61 (by kernel_rfl) (by kernel_rfl) h010 he10 rfl fun cs9 _ hr9 hc9 => ?_)
     obtain rfl := hr9
     replace hc9 : ∀ j v, ([.int .i64 e10] : List Value)[j]? = some v → xsyown5_0l9i21[Int.toNat x20l9i21 * 1 + j]? = some v := hc9
     refine Ok.op rfl (OpOk.storeOwn (e := .int .i64) (q := Int.toNat x20l9i21) (cells := [.int .i64 e10]) (vs := [.int .i64 (-1)]) (el' := -1) 2 0 1 rfl hLyown5_0l9i21 hc9 (by kernel_rfl) rfl rfl rfl (by kernel_rfl) (by kernel_rfl) (by kernel_rfl) (by kernel_rfl) (by kernel_rfl) (show Rep _ _ [.int .i64 (-1)] _ from rfl) fun xs11 hL11 => ?_)
     rw [show yown5_0l9i21.length = (yown5_0l9i21.set (Int.toNat x20l9i21) (-1)).length from (List.length_set ..).symm]
     refine Ok.nil ?_
     refine Ok.blockN ?_
     refine Ok.thenN ?_
     refine Ok.region ?_
     refine Ok.batch 2 [(1, .slice axroots_0 xroots.length cxroots_0), (5, .pointer (some ⟨b7, 0, none⟩)), (19, .int .i64 ((List.replicate (Int.toNat (xh.length : Int)) (0 : Int)).length : Int)), (20, .int .i64 (IntKind.wrap .i64 (x20l9i21 + 1)))] (by kernel_rfl) ?_
     refine Ok.nil ?_
     refine Ok.thenN ?_
     subst hg10
     exact fun a W hA hW => ⟨k9x1, Nat.lt_succ_self _, gl9i21, hxl9i21, IntKind.wrap .i64 (x20l9i21 + 1), ayown5_0l9i21, cyown5_0l9i21, (yown5_0l9i21.set (Int.toNat x20l9i21) (-1)), xs11, hL11, hA.sub (by kernel_rfl), hW, hF⟩
    ·replace hF := hF.2 hc8
     refine Ok.exit ?_
     refine Ok.thenE ?_
     refine Ok.thenE ?_
     refine Ok.blockHit ?_
     refine Ok.thenN ?_
     refine Ok.seq ?_
     refine Ok.seq ?_
     refine Ok.region ?_
     refine Ok.batch 3 [(5, .pointer (some ⟨b7, 0, none⟩)), (30, .slice axroots_0 xroots.length cxroots_0), (31, .int .i64 (xroots.length : Int)), (32, .int .i64 0)] (by kernel_rfl) ?_
     refine Ok.nil ?_
     refine Ok.thenN ?_
     refine Ok.block ?_
     obtain ⟨k, hF⟩ := hF
     refine Ok.loop (fun k a W => ∃ gl26i21 : Ghost, Gext w0 gl9i21 gl26i21 ∧ ∃ (x32l26i21 : Int) (ayb7_0l26i21 : Option Addr) (cyb7_0l26i21 : Nat) (yb7_0l26i21 : List (Int × List (List UInt8) × List (JV))) (ayown6_0l26i21 : Option Addr) (cyown6_0l26i21 : Nat) (yown6_0l26i21 : List (Int)) (xsyown6_0l26i21 : List Value) (ayown5_0l26i21 : Option Addr) (cyown5_0l26i21 : Nat) (yown5_0l26i21 : List (Int)) (xsyown5_0l26i21 : List Value), Rep gl26i21 (.slice (.pair (.int .i64) (.pair (.slice (.str)) (.slice (.pair (.int .i64) (.pair (.int .i64) (.str))))))) [.slice ayb7_0l26i21 yb7_0l26i21.length cyb7_0l26i21] yb7_0l26i21 ∧ RepL gl26i21 (.int .i64) xsyown6_0l26i21 yown6_0l26i21 ∧ RepL gl26i21 (.int .i64) xsyown5_0l26i21 yown5_0l26i21 ∧ StA 41 [(5, .pointer (some ⟨b7, 0, none⟩)), (30, .slice axroots_0 xroots.length cxroots_0), (31, .int .i64 (xroots.length : Int)), (32, .int .i64 x32l26i21)] a ∧ StW w0 [.blk b7 (.cells #[.slice ayb7_0l26i21 yb7_0l26i21.length cyb7_0l26i21, .slice ayown5_0l26i21 yown5_0l26i21.length cyown5_0l26i21, .slice ayown6_0l26i21 yown6_0l26i21.length cyown6_0l26i21] 107), .own (.slice ayown6_0l26i21 yown6_0l26i21.length cyown6_0l26i21) 3 1 yown6_0l26i21.length xsyown6_0l26i21, .own (.slice ayown5_0l26i21 yown5_0l26i21.length cyown5_0l26i21) 3 1 yown5_0l26i21.length xsyown5_0l26i21] gl26i21 W ∧ hMol26x2 xh xroots K k x32l26i21 yb7_0l26i21 yown6_0l26i21 yown5_0l26i21) k ?_ ?_
     ·
      exact fun a W hA hW => ⟨gl9i21, (Gext.refl w0 gl9i21), 0, axh_0, cxh_0, xh, none, 0, ([] : List (Int)), [], ayown5_0l9i21, cyown5_0l9i21, yown5_0l9i21, xsyown5_0l9i21, hRxh_0, hL6, hLyown5_0l9i21, hA.sub (by kernel_rfl), hW, hF⟩
     ·
      clear hF
      rintro k26x2 a W ⟨gl26i21, hxl26i21, x32l26i21, ayb7_0l26i21, cyb7_0l26i21, yb7_0l26i21, ayown6_0l26i21, cyown6_0l26i21, yown6_0l26i21, xsyown6_0l26i21, ayown5_0l26i21, cyown5_0l26i21, yown5_0l26i21, xsyown5_0l26i21, hRyb7_0l26i21, hLyown6_0l26i21, hLyown5_0l26i21, hA, hW, hF⟩
      cases k26x2 with
      | zero => exact (hF : False).elim
      | succ k26x2 =>
       refine (?_ : Ok _ _ _ _ _ _) a W hA hW
       clear hA hW
       replace hRxroots_0 := hRxroots_0.mono hxl26i21.1
       replace hRxh_0 := hRxh_0.mono hxl26i21.1
       refine Ok.seq ?_
       refine Ok.region ?_
       refine Ok.batch 1 [(5, .pointer (some ⟨b7, 0, none⟩)), (30, .slice axroots_0 xroots.length cxroots_0), (31, .int .i64 (xroots.length : Int)), (32, .int .i64 x32l26i21), (33, .bool (decide (x32l26i21 < (xroots.length : Int))))] (by kernel_rfl) ?_
       refine Ok.nil ?_
       refine Ok.thenN ?_
       refine Ok.seq ?_
       refine Ok.cond (b := decide (x32l26i21 < (xroots.length : Int))) rfl (fun hc12 => ?_) (fun hc12 => ?_)
       ·replace hF := hF.1 hc12
        refine Ok.skip ?_
        refine Ok.thenN ?_
        refine Ok.seq ?_
        refine Ok.block ?_
        refine Ok.seq ?_
        refine Ok.region ?_
        obtain ⟨h014, h114, hF⟩ := hF
        have he14 := get_of (l := xroots) (default : JV) h114
        generalize hg14 : (xroots.getD (Int.toNat x32l26i21) default) = e14 at he14 hF ⊢
        refine Ok.op rfl (OpOk.indexRo (e := .pair (.int .i64) (.pair (.int .i64) (.str))) (i := x32l26i21) (el := e14) rfl rfl Try.underlying29 (by kernel_rfl) hRxroots_0 h014 he14 rfl fun q13 o13 cs13 _ hat13 hr13 => ?_)
        obtain ⟨_, _, rfl, rfl, ⟨_, _, rfl, rfl, rfl⟩⟩ := hr13
        replace hat13 : At gl26i21 q13 o13 [.int .i64 e14.1, .int .i64 e14.2.1, .string ⟨⟨e14.2.2⟩⟩] := hat13
        refine Ok.op rfl (OpOk.step (v := .agg #[.int .i64 e14.1, .int .i64 e14.2.1, .string ⟨⟨e14.2.2⟩⟩]) (Yields.loadAggRo 0 3 #[.int .i64 e14.1, .int .i64 e14.2.1, .string ⟨⟨e14.2.2⟩⟩] hat13 (by kernel_rfl) Try.underlying24 rfl (by kernel_rfl) (by kernel_rfl) (by kernel_rfl)) rfl rfl ?_)
        refine Ok.op rfl (OpOk.alloc (z := .agg #[.int .i64 0, .int .i64 0, .string ⟨⟨([] : List UInt8)⟩⟩]) (cs := #[.int .i64 0, .int .i64 0, .string ⟨⟨([] : List UInt8)⟩⟩]) (by kernel_rfl) (by kernel_rfl) rfl fun b15 => ?_)
        refine Ok.op rfl (OpOk.store (k := 3) (v := .agg #[.int .i64 e14.1, .int .i64 e14.2.1, .string ⟨⟨e14.2.2⟩⟩]) (H' := [.blk b15 (.cells #[.int .i64 e14.1, .int .i64 e14.2.1, .string ⟨⟨e14.2.2⟩⟩] 24), .blk b7 (.cells #[.slice ayb7_0l26i21 yb7_0l26i21.length cyb7_0l26i21, .slice ayown5_0l26i21 yown5_0l26i21.length cyown5_0l26i21, .slice ayown6_0l26i21 yown6_0l26i21.length cyown6_0l26i21] 107), .own (.slice ayown6_0l26i21 yown6_0l26i21.length cyown6_0l26i21) 3 1 yown6_0l26i21.length xsyown6_0l26i21, .own (.slice ayown5_0l26i21 yown5_0l26i21.length cyown5_0l26i21) 3 1 yown5_0l26i21.length xsyown5_0l26i21]) 0 rfl rfl rfl (by kernel_rfl) (by kernel_rfl) (by kernel_rfl) (by kernel_rfl) (by kernel_rfl) ?_)
        refine Ok.nil ?_
        refine Ok.thenN ?_
        refine Ok.region ?_
        refine Ok.batch 1 [(5, .pointer (some ⟨b7, 0, none⟩)), (8, .pointer (some ⟨b15, 0, none⟩)), (30, .slice axroots_0 xroots.length cxroots_0), (31, .int .i64 (xroots.length : Int)), (32, .int .i64 x32l26i21), (36, .pointer (some ⟨b7, 0, none⟩))] (by kernel_rfl) ?_
        refine Ok.op rfl (OpOk.step (v := .agg #[.int .i64 e14.1, .int .i64 e14.2.1, .string ⟨⟨e14.2.2⟩⟩]) (Yields.loadAgg 0 3 #[.int .i64 e14.1, .int .i64 e14.2.1, .string ⟨⟨e14.2.2⟩⟩] rfl rfl Try.underlying24 rfl (by kernel_rfl) (by kernel_rfl) (by kernel_rfl)) rfl rfl ?_)
        obtain ⟨hp16, hF⟩ := hF
        refine Ok.entries [1, 3, 2, 0] [.blk b7 (.cells #[.slice ayb7_0l26i21 yb7_0l26i21.length cyb7_0l26i21, .slice ayown5_0l26i21 yown5_0l26i21.length cyown5_0l26i21, .slice ayown6_0l26i21 yown6_0l26i21.length cyown6_0l26i21] 107), .own (.slice ayown5_0l26i21 yown5_0l26i21.length cyown5_0l26i21) 3 1 yown5_0l26i21.length xsyown5_0l26i21, .own (.slice ayown6_0l26i21 yown6_0l26i21.length cyown6_0l26i21) 3 1 yown6_0l26i21.length xsyown6_0l26i21, .blk b15 (.cells #[.int .i64 e14.1, .int .i64 e14.2.1, .string ⟨⟨e14.2.2⟩⟩] 24)] (by decide) rfl ?_
        refine Ok.op rfl (OpOk.callH [.blk b7 (.cells #[.slice ayb7_0l26i21 yb7_0l26i21.length cyb7_0l26i21, .slice ayown5_0l26i21 yown5_0l26i21.length cyown5_0l26i21, .slice ayown6_0l26i21 yown6_0l26i21.length cyown6_0l26i21] 107), .own (.slice ayown5_0l26i21 yown5_0l26i21.length cyown5_0l26i21) 3 1 yown5_0l26i21.length xsyown5_0l26i21, .own (.slice ayown6_0l26i21 yown6_0l26i21.length cyown6_0l26i21) 3 1 yown6_0l26i21.length xsyown6_0l26i21] [.blk b15 (.cells #[.int .i64 e14.1, .int .i64 e14.2.1, .string ⟨⟨e14.2.2⟩⟩] 24)] (enters (by kernel_rfl) (fun _ => by kernel_rfl)) rfl (hco_c (yb7_0l26i21, yown5_0l26i21, yown6_0l26i21) e14 hRyb7_0l26i21 hLyown5_0l26i21 hLyown6_0l26i21 hp16) rfl fun g17 _ _ hx17 hV17 => ?_)
        obtain ⟨a17_0, c17_0, a17_2, c17_2, xs17_2, a17_5, c17_5, xs17_5, rfl, hR17_0, hL17_2, hL17_5, rfl⟩ := hV17
        replace hRxroots_0 := hRxroots_0.mono hx17.1
        replace hRxh_0 := hRxh_0.mono hx17.1
        refine Ok.nil ?_
        refine Ok.blockN ?_
        refine Ok.thenN ?_
        refine Ok.region ?_
        refine Ok.batch 2 [(5, .pointer (some ⟨b7, 0, none⟩)), (30, .slice axroots_0 xroots.length cxroots_0), (31, .int .i64 (xroots.length : Int)), (32, .int .i64 (IntKind.wrap .i64 (x32l26i21 + 1)))] (by kernel_rfl) ?_
        refine Ok.nil ?_
        refine Ok.thenN ?_
        subst hg14
        exact fun a W hA hW => ⟨k26x2, Nat.lt_succ_self _, g17, (hxl26i21.trans hx17), IntKind.wrap .i64 (x32l26i21 + 1), a17_0, c17_0, (hcoS (yb7_0l26i21, yown5_0l26i21, yown6_0l26i21) (xroots.getD (Int.toNat x32l26i21) default)).1, a17_5, c17_5, ((hcoS (yb7_0l26i21, yown5_0l26i21, yown6_0l26i21) (xroots.getD (Int.toNat x32l26i21) default)).2).2, xs17_5, a17_2, c17_2, ((hcoS (yb7_0l26i21, yown5_0l26i21, yown6_0l26i21) (xroots.getD (Int.toNat x32l26i21) default)).2).1, xs17_2, hR17_0, hL17_5, hL17_2, hA.sub (by kernel_rfl), hW.pick [0, 2, 1] _ (by decide) rfl, hF⟩
       ·replace hF := hF.2 hc12
        refine Ok.exit ?_
        refine Ok.thenE ?_
        refine Ok.thenE ?_
        refine Ok.blockHit ?_
        refine Ok.thenN ?_
        refine Ok.seq ?_
        refine Ok.region ?_
        refine Ok.batch 2 [(4, .pointer (some ⟨b7, 0, none⟩))] (by kernel_rfl) ?_
        refine Ok.nil ?_
        refine Ok.thenN ?_
        refine Ok.ret ?_
        refine Ok.back (vs := [.pointer (some ⟨b7, 0, none⟩)]) (.inl rfl) rfl (.cons (.tmp rfl) .nil) rfl ?_
        refine Ok.batch 1 [(0, .slice axh_0 xh.length cxh_0), (1, .slice axroots_0 xroots.length cxroots_0), (8, .pointer (some ⟨b7, 0, none⟩))] (by kernel_rfl) ?_
        refine Ok.nil ?_
        refine Ok.thenN ?_
        refine Ok.seq ?_
        refine Ok.region ?_
        refine Ok.batch 1 [(0, .slice axh_0 xh.length cxh_0), (1, .slice axroots_0 xroots.length cxroots_0), (8, .pointer (some ⟨b7, 0, none⟩)), (9, .slice none 0 0)] (by kernel_rfl) ?_
        have hL18 : RepL gl26i21 (.pair (.int .i64) (.pair (.slice (.str)) (.slice (.pair (.int .i64) (.pair (.int .i64) (.str)))))) [] [] := rfl
        refine Ok.ownNil 72 3 ?_
        refine Ok.nil ?_
        refine Ok.thenN ?_
        refine Ok.seq ?_
        refine Ok.seq ?_
        refine Ok.region ?_
        refine Ok.batch 3 [(0, .slice axh_0 xh.length cxh_0), (1, .slice axroots_0 xroots.length cxroots_0), (8, .pointer (some ⟨b7, 0, none⟩)), (9, .slice none ([] : List (Int × List (List UInt8) × List (JV))).length 0), (24, .pointer (some ⟨b7, 2, none⟩))] (by kernel_rfl) ?_
        refine Ok.op rfl (OpOk.step (v := .slice ayown6_0l26i21 yown6_0l26i21.length cyown6_0l26i21) (Yields.load 1 rfl rfl Try.underlying61 rfl (by kernel_rfl)) rfl rfl ?_)
        refine Ok.batch 2 [(0, .slice axh_0 xh.length cxh_0), (1, .slice axroots_0 xroots.length cxroots_0), (8, .pointer (some ⟨b7, 0, none⟩)), (9, .slice none ([] : List (Int × List (List UInt8) × List (JV))).length 0), (25, .slice ayown6_0l26i21 yown6_0l26i21.length cyown6_0l26i21), (26, .int .i64 (yown6_0l26i21.length : Int)), (27, .int .i64 0)] (by kernel_rfl) ?_
        refine Ok.nil ?_
        refine Ok.thenN ?_
        refine Ok.block ?_
        obtain ⟨k, hF⟩ := hF
        refine Ok.loop (fun k a W => ∃ gl21 : Ghost, Gext w0 gl26i21 gl21 ∧ ∃ (x27l21 : Int) (ayown18_0l21 : Option Addr) (cyown18_0l21 : Nat) (yown18_0l21 : List (Int × List (List UInt8) × List (JV))) (xsyown18_0l21 : List Value), RepL gl21 (.pair (.int .i64) (.pair (.slice (.str)) (.slice (.pair (.int .i64) (.pair (.int .i64) (.str)))))) xsyown18_0l21 yown18_0l21 ∧ StA 50 [(0, .slice axh_0 xh.length cxh_0), (1, .slice axroots_0 xroots.length cxroots_0), (8, .pointer (some ⟨b7, 0, none⟩)), (9, .slice ayown18_0l21 yown18_0l21.length cyown18_0l21), (25, .slice ayown6_0l26i21 yown6_0l26i21.length cyown6_0l26i21), (26, .int .i64 (yown6_0l26i21.length : Int)), (27, .int .i64 x27l21)] a ∧ StW w0 [.own (.slice ayown18_0l21 yown18_0l21.length cyown18_0l21) 72 3 yown18_0l21.length xsyown18_0l21, .blk b7 (.cells #[.slice ayb7_0l26i21 yb7_0l26i21.length cyb7_0l26i21, .slice ayown5_0l26i21 yown5_0l26i21.length cyown5_0l26i21, .slice ayown6_0l26i21 yown6_0l26i21.length cyown6_0l26i21] 107), .own (.slice ayown6_0l26i21 yown6_0l26i21.length cyown6_0l26i21) 3 1 yown6_0l26i21.length xsyown6_0l26i21, .own (.slice ayown5_0l26i21 yown5_0l26i21.length cyown5_0l26i21) 3 1 yown5_0l26i21.length xsyown5_0l26i21] gl21 W ∧ hMol21 xh xroots K yown6_0l26i21 yown5_0l26i21 k x27l21 yown18_0l21) k ?_ ?_
        ·
         exact fun a W hA hW => ⟨gl26i21, (Gext.refl w0 gl26i21), 0, none, 0, ([] : List (Int × List (List UInt8) × List (JV))), [], hL18, hA.sub (by kernel_rfl), hW, hF⟩
        ·
         clear hF
         rintro k21 a W ⟨gl21, hxl21, x27l21, ayown18_0l21, cyown18_0l21, yown18_0l21, xsyown18_0l21, hLyown18_0l21, hA, hW, hF⟩
         cases k21 with
         | zero => exact (hF : False).elim
         | succ k21 =>
          refine (?_ : Ok _ _ _ _ _ _) a W hA hW
          clear hA hW
          replace hRxh_0 := hRxh_0.mono hxl21.1
          replace hRxroots_0 := hRxroots_0.mono hxl21.1
          replace hLyown6_0l26i21 := hLyown6_0l26i21.mono hxl21.1
          replace hRyb7_0l26i21 := hRyb7_0l26i21.mono hxl21.1
          replace hLyown5_0l26i21 := hLyown5_0l26i21.mono hxl21.1
          refine Ok.seq ?_
          refine Ok.region ?_
          refine Ok.batch 1 [(0, .slice axh_0 xh.length cxh_0), (1, .slice axroots_0 xroots.length cxroots_0), (8, .pointer (some ⟨b7, 0, none⟩)), (9, .slice ayown18_0l21 yown18_0l21.length cyown18_0l21), (25, .slice ayown6_0l26i21 yown6_0l26i21.length cyown6_0l26i21), (26, .int .i64 (yown6_0l26i21.length : Int)), (27, .int .i64 x27l21), (28, .bool (decide (x27l21 < (yown6_0l26i21.length : Int))))] (by kernel_rfl) ?_
          refine Ok.nil ?_
          refine Ok.thenN ?_
          refine Ok.seq ?_
          refine Ok.cond (b := decide (x27l21 < (yown6_0l26i21.length : Int))) rfl (fun hc19 => ?_) (fun hc19 => ?_)
          ·replace hF := hF.1 hc19
           refine Ok.skip ?_
           refine Ok.thenN ?_
           refine Ok.seq ?_
           refine Ok.block ?_
           refine Ok.seq ?_
           refine Ok.region ?_
           obtain ⟨h021, h121, hF⟩ := hF
           have he21 := get_of (l := yown6_0l26i21) (default : Int) h121
           generalize hg21 : (yown6_0l26i21.getD (Int.toNat x27l21) default) = e21 at he21 hF ⊢
           refine Ok.op rfl (OpOk.indexOwn (e := .int .i64) (q := x27l21) (el := e21) 2 rfl hLyown6_0l26i21 rfl rfl Try.underlying61 (by kernel_rfl) (by kernel_rfl) h021 he21 rfl fun cs20 _ hr20 hc20 => ?_)
           obtain rfl := hr20
           replace hc20 : ∀ j v, ([.int .i64 e21] : List Value)[j]? = some v → xsyown6_0l26i21[Int.toNat x27l21 * 1 + j]? = some v := hc20
           refine Ok.op rfl (OpOk.step (v := .int .i64 e21) (Yields.loadOwn 2 0 rfl hc20 rfl Try.underlying3 rfl (by kernel_rfl)) rfl rfl ?_)
           refine Ok.batch 1 [(0, .slice axh_0 xh.length cxh_0), (1, .slice axroots_0 xroots.length cxroots_0), (8, .pointer (some ⟨b7, 0, none⟩)), (9, .slice ayown18_0l21 yown18_0l21.length cyown18_0l21), (11, .int .i64 e21), (25, .slice ayown6_0l26i21 yown6_0l26i21.length cyown6_0l26i21), (26, .int .i64 (yown6_0l26i21.length : Int)), (27, .int .i64 x27l21)] (by kernel_rfl) ?_
           refine Ok.nil ?_
           refine Ok.thenN ?_
           refine Ok.seq ?_
           refine Ok.region ?_
           refine Ok.batch 2 [(0, .slice axh_0 xh.length cxh_0), (1, .slice axroots_0 xroots.length cxroots_0), (8, .pointer (some ⟨b7, 0, none⟩)), (9, .slice ayown18_0l21 yown18_0l21.length cyown18_0l21), (25, .slice ayown6_0l26i21 yown6_0l26i21.length cyown6_0l26i21), (26, .int .i64 (yown6_0l26i21.length : Int)), (27, .int .i64 x27l21), (31, .slice axh_0 xh.length cxh_0), (32, .int .i64 e21)] (by kernel_rfl) ?_
           obtain ⟨h023, h123, hF⟩ := hF
           have he23 := get_of (l := xh) (default : Int × List (List UInt8) × List (JV)) h123
           generalize hg23 : (xh.getD (Int.toNat e21) default) = e23 at he23 hF ⊢
           refine Ok.op rfl (OpOk.indexRo (e := .pair (.int .i64) (.pair (.slice (.str)) (.slice (.pair (.int .i64) (.pair (.int .i64) (.str)))))) (i := e21) (el := e23) rfl rfl Try.underlying22 (by kernel_rfl) hRxh_0 h023 he23 rfl fun q22 o22 cs22 _ hat22 hr22 => ?_)
           obtain ⟨_, _, rfl, rfl, ⟨_, _, rfl, ⟨a22_1, c22_1, rfl, hm22_1, hr22_1⟩, ⟨a22_2, c22_2, rfl, hm22_2, hr22_2⟩⟩⟩ := hr22
           have hR22_1 : Rep gl21 (.slice (.str)) [.slice a22_1 e23.2.1.length c22_1] e23.2.1 := ⟨a22_1, c22_1, rfl, hm22_1, hr22_1⟩
           have hR22_2 : Rep gl21 (.slice (.pair (.int .i64) (.pair (.int .i64) (.str)))) [.slice a22_2 e23.2.2.length c22_2] e23.2.2 := ⟨a22_2, c22_2, rfl, hm22_2, hr22_2⟩
           replace hat22 : At gl21 q22 o22 [.int .i64 e23.1, .slice a22_1 e23.2.1.length c22_1, .slice a22_2 e23.2.2.length c22_2] := hat22
           refine Ok.op rfl (OpOk.step (v := .agg #[.int .i64 e23.1, .slice a22_1 e23.2.1.length c22_1, .slice a22_2 e23.2.2.length c22_2]) (Yields.loadAggRo 0 3 #[.int .i64 e23.1, .slice a22_1 e23.2.1.length c22_1, .slice a22_2 e23.2.2.length c22_2] hat22 (by kernel_rfl) Try.underlying72 rfl (by kernel_rfl) (by kernel_rfl) (by kernel_rfl)) rfl rfl ?_)
           obtain ⟨hp24, hF⟩ := hF
           refine Ok.op rfl (OpOk.callH [] [.own (.slice ayown18_0l21 yown18_0l21.length cyown18_0l21) 72 3 yown18_0l21.length xsyown18_0l21, .blk b7 (.cells #[.slice ayb7_0l26i21 yb7_0l26i21.length cyb7_0l26i21, .slice ayown5_0l26i21 yown5_0l26i21.length cyown5_0l26i21, .slice ayown6_0l26i21 yown6_0l26i21.length cyown6_0l26i21] 107), .own (.slice ayown6_0l26i21 yown6_0l26i21.length cyown6_0l26i21) 3 1 yown6_0l26i21.length xsyown6_0l26i21, .own (.slice ayown5_0l26i21 yown5_0l26i21.length cyown5_0l26i21) 3 1 yown5_0l26i21.length xsyown5_0l26i21] (enters (by kernel_rfl) (fun _ => by kernel_rfl)) rfl (hcp_c e23 hR22_1 hR22_2 hp24) rfl fun g25 _ _ hx25 hV25 => ?_)
           obtain ⟨a25_0, c25_0, a25_2, c25_2, rfl, hR25_0, hR25_2, rfl⟩ := hV25
           replace hRxh_0 := hRxh_0.mono hx25.1
           replace hRxroots_0 := hRxroots_0.mono hx25.1
           replace hLyown18_0l21 := hLyown18_0l21.mono hx25.1
           replace hLyown6_0l26i21 := hLyown6_0l26i21.mono hx25.1
           replace hR22_1 := hR22_1.mono hx25.1
           replace hR22_2 := hR22_2.mono hx25.1
           replace hRyb7_0l26i21 := hRyb7_0l26i21.mono hx25.1
           replace hLyown5_0l26i21 := hLyown5_0l26i21.mono hx25.1
           refine Ok.op rfl (OpOk.alloc (z := .agg #[.int .i64 0, .slice none 0 0, .slice none 0 0]) (cs := #[.int .i64 0, .slice none 0 0, .slice none 0 0]) (by kernel_rfl) (by kernel_rfl) rfl fun b26 => ?_)
           refine Ok.op rfl (OpOk.store (k := 3) (v := .agg #[.int .i64 ((hcpS e23).1), .slice a25_0 (((hcpS e23).2).1).length c25_0, .slice a25_2 (((hcpS e23).2).2).length c25_2]) (H' := [.blk b26 (.cells #[.int .i64 ((hcpS e23).1), .slice a25_0 (((hcpS e23).2).1).length c25_0, .slice a25_2 (((hcpS e23).2).2).length c25_2] 72), .own (.slice ayown18_0l21 yown18_0l21.length cyown18_0l21) 72 3 yown18_0l21.length xsyown18_0l21, .blk b7 (.cells #[.slice ayb7_0l26i21 yb7_0l26i21.length cyb7_0l26i21, .slice ayown5_0l26i21 yown5_0l26i21.length cyown5_0l26i21, .slice ayown6_0l26i21 yown6_0l26i21.length cyown6_0l26i21] 107), .own (.slice ayown6_0l26i21 yown6_0l26i21.length cyown6_0l26i21) 3 1 yown6_0l26i21.length xsyown6_0l26i21, .own (.slice ayown5_0l26i21 yown5_0l26i21.length cyown5_0l26i21) 3 1 yown5_0l26i21.length xsyown5_0l26i21]) 0 rfl rfl rfl (by kernel_rfl) (by kernel_rfl) (by kernel_rfl) (by kernel_rfl) (by kernel_rfl) ?_)
           refine Ok.nil ?_
           refine Ok.thenN ?_
           refine Ok.seq ?_
           refine Ok.region ?_
           refine Ok.batch 2 [(0, .slice axh_0 xh.length cxh_0), (1, .slice axroots_0 xroots.length cxroots_0), (8, .pointer (some ⟨b7, 0, none⟩)), (9, .slice ayown18_0l21 yown18_0l21.length cyown18_0l21), (12, .pointer (some ⟨b26, 0, none⟩)), (25, .slice ayown6_0l26i21 yown6_0l26i21.length cyown6_0l26i21), (26, .int .i64 (yown6_0l26i21.length : Int)), (27, .int .i64 x27l21), (36, .pointer (some ⟨b7, 0, none⟩)), (37, .pointer (some ⟨b26, 2, none⟩))] (by kernel_rfl) ?_
           refine Ok.op rfl (OpOk.step (v := .slice a25_2 (((hcpS e23).2).2).length c25_2) (Yields.load 0 rfl rfl Try.underlying29 rfl (by kernel_rfl)) rfl rfl ?_)
           refine Ok.op rfl (OpOk.inline (args := #[.pointer (some ⟨b7, 0, none⟩), .slice a25_2 (((hcpS e23).2).2).length c25_2]) 34 [(0, .pointer (some ⟨b7, 0, none⟩)), (1, .slice a25_2 (((hcpS e23).2).2).length c25_2)] (enters (by kernel_rfl) (fun _ => by kernel_rfl)) Try.func61 rfl rfl rfl rfl ?_)
           refine Ok.seq ?_
           refine Ok.region ?_
           refine Ok.batch 1 [(0, .pointer (some ⟨b7, 0, none⟩)), (1, .slice a25_2 (((hcpS e23).2).2).length c25_2)] (by kernel_rfl) ?_
           refine Ok.nil ?_
           refine Ok.thenN ?_
           refine Ok.seq ?_
           refine Ok.region ?_
           refine Ok.batch 1 [(0, .pointer (some ⟨b7, 0, none⟩)), (8, .slice a25_2 (((hcpS e23).2).2).length c25_2)] (by kernel_rfl) ?_
           obtain ⟨hp27, hF⟩ := hF
           refine Ok.op rfl (OpOk.callH [] [.blk b26 (.cells #[.int .i64 ((hcpS e23).1), .slice a25_0 (((hcpS e23).2).1).length c25_0, .slice a25_2 (((hcpS e23).2).2).length c25_2] 72), .own (.slice ayown18_0l21 yown18_0l21.length cyown18_0l21) 72 3 yown18_0l21.length xsyown18_0l21, .blk b7 (.cells #[.slice ayb7_0l26i21 yb7_0l26i21.length cyb7_0l26i21, .slice ayown5_0l26i21 yown5_0l26i21.length cyown5_0l26i21, .slice ayown6_0l26i21 yown6_0l26i21.length cyown6_0l26i21] 107), .own (.slice ayown6_0l26i21 yown6_0l26i21.length cyown6_0l26i21) 3 1 yown6_0l26i21.length xsyown6_0l26i21, .own (.slice ayown5_0l26i21 yown5_0l26i21.length cyown5_0l26i21) 3 1 yown5_0l26i21.length xsyown5_0l26i21] (enters (by kernel_rfl) (fun _ => by kernel_rfl)) rfl (vcl_c (((hcpS e23).2).2) hR25_2 hp27) rfl fun g28 _ _ hx28 hV28 => ?_)
           obtain ⟨a28_0, c28_0, xs28_0, rfl, hL28_0, rfl⟩ := hV28
           replace hR25_2 := hR25_2.mono hx28.1
           replace hR25_0 := hR25_0.mono hx28.1
           replace hLyown18_0l21 := hLyown18_0l21.mono hx28.1
           replace hRyb7_0l26i21 := hRyb7_0l26i21.mono hx28.1
           replace hLyown5_0l26i21 := hLyown5_0l26i21.mono hx28.1
           replace hLyown6_0l26i21 := hLyown6_0l26i21.mono hx28.1
           replace hRxh_0 := hRxh_0.mono hx28.1
           replace hRxroots_0 := hRxroots_0.mono hx28.1
           refine Ok.batch 1 [(0, .pointer (some ⟨b7, 0, none⟩)), (1, .slice a28_0 (vclS (((hcpS e23).2).2)).length c28_0)] (by kernel_rfl) ?_
           refine Ok.nil ?_
           refine Ok.thenN ?_
           refine Ok.seq ?_
           refine Ok.seq ?_
           refine Ok.region ?_
           refine Ok.batch 3 [(0, .pointer (some ⟨b7, 0, none⟩)), (1, .slice a28_0 (vclS (((hcpS e23).2).2)).length c28_0), (10, .slice a28_0 (vclS (((hcpS e23).2).2)).length c28_0), (11, .int .i64 ((vclS (((hcpS e23).2).2)).length : Int)), (12, .int .i64 0)] (by kernel_rfl) ?_
           refine Ok.nil ?_
           refine Ok.thenN ?_
           refine Ok.block ?_
           obtain ⟨k, hF⟩ := hF
           refine Ok.loop (fun k a W => ∃ gl9i39 : Ghost, Gext w0 g28 gl9i39 ∧ ∃ (x12l9i39 : Int) (ayown28_0_0l9i39 : Option Addr) (cyown28_0_0l9i39 : Nat) (yown28_0_0l9i39 : List (JV)) (xsyown28_0_0l9i39 : List Value), RepL gl9i39 (.pair (.int .i64) (.pair (.int .i64) (.str))) xsyown28_0_0l9i39 yown28_0_0l9i39 ∧ StA 34 [(0, .pointer (some ⟨b7, 0, none⟩)), (1, .slice ayown28_0_0l9i39 yown28_0_0l9i39.length cyown28_0_0l9i39), (10, .slice ayown28_0_0l9i39 yown28_0_0l9i39.length cyown28_0_0l9i39), (11, .int .i64 ((vclS (((hcpS e23).2).2)).length : Int)), (12, .int .i64 x12l9i39)] a ∧ StW w0 [.own (.slice ayown28_0_0l9i39 yown28_0_0l9i39.length cyown28_0_0l9i39) 24 3 yown28_0_0l9i39.length xsyown28_0_0l9i39, .blk b26 (.cells #[.int .i64 ((hcpS e23).1), .slice a25_0 (((hcpS e23).2).1).length c25_0, .slice a25_2 (((hcpS e23).2).2).length c25_2] 72), .own (.slice ayown18_0l21 yown18_0l21.length cyown18_0l21) 72 3 yown18_0l21.length xsyown18_0l21, .blk b7 (.cells #[.slice ayb7_0l26i21 yb7_0l26i21.length cyb7_0l26i21, .slice ayown5_0l26i21 yown5_0l26i21.length cyown5_0l26i21, .slice ayown6_0l26i21 yown6_0l26i21.length cyown6_0l26i21] 107), .own (.slice ayown6_0l26i21 yown6_0l26i21.length cyown6_0l26i21) 3 1 yown6_0l26i21.length xsyown6_0l26i21, .own (.slice ayown5_0l26i21 yown5_0l26i21.length cyown5_0l26i21) 3 1 yown5_0l26i21.length xsyown5_0l26i21] gl9i39 W ∧ hMol9x4 xh yown6_0l26i21 yown5_0l26i21 x27l21 e23 yown18_0l21 (hMol21 xh xroots K yown6_0l26i21 yown5_0l26i21 k21) k x12l9i39 yown28_0_0l9i39) k ?_ ?_
           ·
            exact fun a W hA hW => ⟨g28, (Gext.refl w0 g28), 0, a28_0, c28_0, (vclS (((hcpS e23).2).2)), xs28_0, hL28_0, hA.sub (by kernel_rfl), hW, hF⟩
           ·
            clear hF
            rintro k9x4 a W ⟨gl9i39, hxl9i39, x12l9i39, ayown28_0_0l9i39, cyown28_0_0l9i39, yown28_0_0l9i39, xsyown28_0_0l9i39, hLyown28_0_0l9i39, hA, hW, hF⟩
            cases k9x4 with
            | zero => exact (hF : False).elim
            | succ k9x4 =>
             refine (?_ : Ok _ _ _ _ _ _) a W hA hW
             clear hA hW
             replace hR25_0 := hR25_0.mono hxl9i39.1
             replace hR25_2 := hR25_2.mono hxl9i39.1
             replace hLyown18_0l21 := hLyown18_0l21.mono hxl9i39.1
             replace hRyb7_0l26i21 := hRyb7_0l26i21.mono hxl9i39.1
             replace hLyown5_0l26i21 := hLyown5_0l26i21.mono hxl9i39.1
             replace hLyown6_0l26i21 := hLyown6_0l26i21.mono hxl9i39.1
             replace hRxh_0 := hRxh_0.mono hxl9i39.1
             replace hRxroots_0 := hRxroots_0.mono hxl9i39.1
             refine Ok.seq ?_
             refine Ok.region ?_
             refine Ok.batch 1 [(0, .pointer (some ⟨b7, 0, none⟩)), (1, .slice ayown28_0_0l9i39 yown28_0_0l9i39.length cyown28_0_0l9i39), (10, .slice ayown28_0_0l9i39 yown28_0_0l9i39.length cyown28_0_0l9i39), (11, .int .i64 ((vclS (((hcpS e23).2).2)).length : Int)), (12, .int .i64 x12l9i39), (13, .bool (decide (x12l9i39 < ((vclS (((hcpS e23).2).2)).length : Int))))] (by kernel_rfl) ?_
             refine Ok.nil ?_
             refine Ok.thenN ?_
             refine Ok.seq ?_
             refine Ok.cond (b := decide (x12l9i39 < ((vclS (((hcpS e23).2).2)).length : Int))) rfl (fun hc29 => ?_) (fun hc29 => ?_)
             ·replace hF := hF.1 hc29
              refine Ok.skip ?_
              refine Ok.thenN ?_
              refine Ok.cut (fun a W => ∃ gj16i39 : Ghost, Gext w0 gl9i39 gj16i39 ∧ ∃ (ayown28_0_0j16i39 : Option Addr) (cyown28_0_0j16i39 : Nat) (xsyown28_0_0j16i39 : List Value), RepL gj16i39 (.pair (.int .i64) (.pair (.int .i64) (.str))) xsyown28_0_0j16i39 (hMoV12 yown5_0l26i21 x12l9i39 yown28_0_0l9i39) ∧ StA 34 [(0, .pointer (some ⟨b7, 0, none⟩)), (1, .slice ayown28_0_0j16i39 (hMoV12 yown5_0l26i21 x12l9i39 yown28_0_0l9i39).length cyown28_0_0j16i39), (10, .slice ayown28_0_0j16i39 (hMoV12 yown5_0l26i21 x12l9i39 yown28_0_0l9i39).length cyown28_0_0j16i39), (11, .int .i64 ((vclS (((hcpS e23).2).2)).length : Int)), (12, .int .i64 x12l9i39)] a ∧ StW w0 [.own (.slice ayown28_0_0j16i39 (hMoV12 yown5_0l26i21 x12l9i39 yown28_0_0l9i39).length cyown28_0_0j16i39) 24 3 (hMoV12 yown5_0l26i21 x12l9i39 yown28_0_0l9i39).length xsyown28_0_0j16i39, .blk b26 (.cells #[.int .i64 ((hcpS e23).1), .slice a25_0 (((hcpS e23).2).1).length c25_0, .slice a25_2 (((hcpS e23).2).2).length c25_2] 72), .own (.slice ayown18_0l21 yown18_0l21.length cyown18_0l21) 72 3 yown18_0l21.length xsyown18_0l21, .blk b7 (.cells #[.slice ayb7_0l26i21 yb7_0l26i21.length cyb7_0l26i21, .slice ayown5_0l26i21 yown5_0l26i21.length cyown5_0l26i21, .slice ayown6_0l26i21 yown6_0l26i21.length cyown6_0l26i21] 107), .own (.slice ayown6_0l26i21 yown6_0l26i21.length cyown6_0l26i21) 3 1 yown6_0l26i21.length xsyown6_0l26i21, .own (.slice ayown5_0l26i21 yown5_0l26i21.length cyown5_0l26i21) 3 1 yown5_0l26i21.length xsyown5_0l26i21] gj16i39 W ∧ hMoj16i39 yown5_0l26i21 x12l9i39 yown28_0_0l9i39 (hMol9x4 xh yown6_0l26i21 yown5_0l26i21 x27l21 e23 yown18_0l21 (hMol21 xh xroots K yown6_0l26i21 yown5_0l26i21 k21) k9x4)) ?_ ?_
              ·
               refine Ok.block ?_
               refine Ok.seq ?_
               refine Ok.region ?_
               refine Ok.batch 1 [(0, .pointer (some ⟨b7, 0, none⟩)), (1, .slice ayown28_0_0l9i39 yown28_0_0l9i39.length cyown28_0_0l9i39), (10, .slice ayown28_0_0l9i39 yown28_0_0l9i39.length cyown28_0_0l9i39), (11, .int .i64 ((vclS (((hcpS e23).2).2)).length : Int)), (12, .int .i64 x12l9i39), (14, .int .i64 x12l9i39)] (by kernel_rfl) ?_
               obtain ⟨h031, h131, hF⟩ := hF
               have he31 := get_of (l := yown28_0_0l9i39) (default : JV) h131
               generalize hg31 : (yown28_0_0l9i39.getD (Int.toNat x12l9i39) default) = e31 at he31 hF ⊢
               refine Ok.op rfl (OpOk.indexOwn (e := .pair (.int .i64) (.pair (.int .i64) (.str))) (q := x12l9i39) (el := e31) 0 rfl hLyown28_0_0l9i39 rfl rfl Try.underlying29 (by kernel_rfl) (by kernel_rfl) h031 he31 rfl fun cs30 _ hr30 hc30 => ?_)
               obtain ⟨_, _, rfl, rfl, ⟨_, _, rfl, rfl, rfl⟩⟩ := hr30
               replace hc30 : ∀ j v, ([.int .i64 e31.1, .int .i64 e31.2.1, .string ⟨⟨e31.2.2⟩⟩] : List Value)[j]? = some v → xsyown28_0_0l9i39[Int.toNat x12l9i39 * 3 + j]? = some v := hc30
               refine Ok.op rfl (OpOk.step (v := .agg #[.int .i64 e31.1, .int .i64 e31.2.1, .string ⟨⟨e31.2.2⟩⟩]) (Yields.loadAggOwn 0 0 3 #[.int .i64 e31.1, .int .i64 e31.2.1, .string ⟨⟨e31.2.2⟩⟩] rfl hc30 rfl Try.underlying24 rfl (by kernel_rfl) (by kernel_rfl) (by kernel_rfl)) rfl rfl ?_)
               refine Ok.op rfl (OpOk.alloc (z := .agg #[.int .i64 0, .int .i64 0, .string ⟨⟨([] : List UInt8)⟩⟩]) (cs := #[.int .i64 0, .int .i64 0, .string ⟨⟨([] : List UInt8)⟩⟩]) (by kernel_rfl) (by kernel_rfl) rfl fun b32 => ?_)
               refine Ok.batch 1 [(0, .pointer (some ⟨b7, 0, none⟩)), (1, .slice ayown28_0_0l9i39 yown28_0_0l9i39.length cyown28_0_0l9i39), (5, .int .i64 x12l9i39), (6, .pointer (some ⟨b32, 0, none⟩)), (10, .slice ayown28_0_0l9i39 yown28_0_0l9i39.length cyown28_0_0l9i39), (11, .int .i64 ((vclS (((hcpS e23).2).2)).length : Int)), (12, .int .i64 x12l9i39), (16, .agg #[.int .i64 e31.1, .int .i64 e31.2.1, .string ⟨⟨e31.2.2⟩⟩])] (by kernel_rfl) ?_
               refine Ok.op rfl (OpOk.store (k := 3) (v := .agg #[.int .i64 e31.1, .int .i64 e31.2.1, .string ⟨⟨e31.2.2⟩⟩]) (H' := [.blk b32 (.cells #[.int .i64 e31.1, .int .i64 e31.2.1, .string ⟨⟨e31.2.2⟩⟩] 24), .own (.slice ayown28_0_0l9i39 yown28_0_0l9i39.length cyown28_0_0l9i39) 24 3 yown28_0_0l9i39.length xsyown28_0_0l9i39, .blk b26 (.cells #[.int .i64 ((hcpS e23).1), .slice a25_0 (((hcpS e23).2).1).length c25_0, .slice a25_2 (((hcpS e23).2).2).length c25_2] 72), .own (.slice ayown18_0l21 yown18_0l21.length cyown18_0l21) 72 3 yown18_0l21.length xsyown18_0l21, .blk b7 (.cells #[.slice ayb7_0l26i21 yb7_0l26i21.length cyb7_0l26i21, .slice ayown5_0l26i21 yown5_0l26i21.length cyown5_0l26i21, .slice ayown6_0l26i21 yown6_0l26i21.length cyown6_0l26i21] 107), .own (.slice ayown6_0l26i21 yown6_0l26i21.length cyown6_0l26i21) 3 1 yown6_0l26i21.length xsyown6_0l26i21, .own (.slice ayown5_0l26i21 yown5_0l26i21.length cyown5_0l26i21) 3 1 yown5_0l26i21.length xsyown5_0l26i21]) 0 rfl rfl rfl (by kernel_rfl) (by kernel_rfl) (by kernel_rfl) (by kernel_rfl) (by kernel_rfl) ?_)
               refine Ok.nil ?_
               refine Ok.thenN ?_
               refine Ok.seq ?_
               refine Ok.region ?_
               refine Ok.op rfl (OpOk.step (v := .agg #[.int .i64 e31.1, .int .i64 e31.2.1, .string ⟨⟨e31.2.2⟩⟩]) (Yields.loadAgg 0 3 #[.int .i64 e31.1, .int .i64 e31.2.1, .string ⟨⟨e31.2.2⟩⟩] rfl rfl Try.underlying24 rfl (by kernel_rfl) (by kernel_rfl) (by kernel_rfl)) rfl rfl ?_)
               refine Ok.op rfl (OpOk.callG (v := .int .i64 (hrefM e31)) (enters (by kernel_rfl) (fun _ => by kernel_rfl)) (fun W hW => href_c e31) rfl ?_)
               refine Ok.batch 1 [(0, .pointer (some ⟨b7, 0, none⟩)), (1, .slice ayown28_0_0l9i39 yown28_0_0l9i39.length cyown28_0_0l9i39), (5, .int .i64 x12l9i39), (7, .int .i64 (hrefM e31)), (10, .slice ayown28_0_0l9i39 yown28_0_0l9i39.length cyown28_0_0l9i39), (11, .int .i64 ((vclS (((hcpS e23).2).2)).length : Int)), (12, .int .i64 x12l9i39)] (by kernel_rfl) ?_
               refine Ok.nil ?_
               refine Ok.thenN ?_
               refine Ok.seq ?_
               refine Ok.region ?_
               refine Ok.batch 2 [(0, .pointer (some ⟨b7, 0, none⟩)), (1, .slice ayown28_0_0l9i39 yown28_0_0l9i39.length cyown28_0_0l9i39), (5, .int .i64 x12l9i39), (7, .int .i64 (hrefM e31)), (10, .slice ayown28_0_0l9i39 yown28_0_0l9i39.length cyown28_0_0l9i39), (11, .int .i64 ((vclS (((hcpS e23).2).2)).length : Int)), (12, .int .i64 x12l9i39), (20, .bool (decide ((hrefM e31) ≥ 0)))] (by kernel_rfl) ?_
               refine Ok.nil ?_
               refine Ok.thenN ?_
               refine Ok.cond (b := decide ((hrefM e31) ≥ 0)) rfl (fun hc33 => ?_) (fun hc33 => ?_)
               ·replace hF := hF.1 hc33
                refine Ok.region ?_
                refine Ok.batch 5 [(0, .pointer (some ⟨b7, 0, none⟩)), (1, .slice ayown28_0_0l9i39 yown28_0_0l9i39.length cyown28_0_0l9i39), (7, .int .i64 (hrefM e31)), (10, .slice ayown28_0_0l9i39 yown28_0_0l9i39.length cyown28_0_0l9i39), (11, .int .i64 ((vclS (((hcpS e23).2).2)).length : Int)), (12, .int .i64 x12l9i39), (21, .slice ayown28_0_0l9i39 yown28_0_0l9i39.length cyown28_0_0l9i39), (22, .int .i64 x12l9i39), (25, .pointer (some ⟨b7, 1, none⟩))] (by kernel_rfl) ?_
                refine Ok.op rfl (OpOk.step (v := .slice ayown5_0l26i21 yown5_0l26i21.length cyown5_0l26i21) (Yields.load 4 rfl rfl Try.underlying61 rfl (by kernel_rfl)) rfl rfl ?_)
                refine Ok.batch 1 [(0, .pointer (some ⟨b7, 0, none⟩)), (1, .slice ayown28_0_0l9i39 yown28_0_0l9i39.length cyown28_0_0l9i39), (10, .slice ayown28_0_0l9i39 yown28_0_0l9i39.length cyown28_0_0l9i39), (11, .int .i64 ((vclS (((hcpS e23).2).2)).length : Int)), (12, .int .i64 x12l9i39), (21, .slice ayown28_0_0l9i39 yown28_0_0l9i39.length cyown28_0_0l9i39), (22, .int .i64 x12l9i39), (26, .slice ayown5_0l26i21 yown5_0l26i21.length cyown5_0l26i21), (27, .int .i64 (hrefM e31))] (by kernel_rfl) ?_
                obtain ⟨h035, h135, hF⟩ := hF
                have he35 := get_of (l := yown5_0l26i21) (default : Int) h135
                generalize hg35 : (yown5_0l26i21.getD (Int.toNat (hrefM e31)) default) = e35 at he35 hF ⊢
                refine Ok.op rfl (OpOk.indexOwn (e := .int .i64) (q := (hrefM e31)) (el := e35) 6 rfl hLyown5_0l26i21 rfl rfl Try.underlying61 (by kernel_rfl) (by kernel_rfl) h035 he35 rfl fun cs34 _ hr34 hc34 => ?_)
                obtain rfl := hr34
                replace hc34 : ∀ j v, ([.int .i64 e35] : List Value)[j]? = some v → xsyown5_0l26i21[Int.toNat (hrefM e31) * 1 + j]? = some v := hc34
                refine Ok.op rfl (OpOk.step (v := .int .i64 e35) (Yields.loadOwn 6 0 rfl hc34 rfl Try.underlying3 rfl (by kernel_rfl)) rfl rfl ?_)
                refine Ok.op rfl (OpOk.indexOwn (e := .pair (.int .i64) (.pair (.int .i64) (.str))) (q := x12l9i39) (el := e31) 1 rfl hLyown28_0_0l9i39 rfl rfl Try.underlying29 (by kernel_rfl) (by kernel_rfl) h031 he31 rfl fun cs36 _ hr36 hc36 => ?_)
                obtain ⟨_, _, rfl, rfl, ⟨_, _, rfl, rfl, rfl⟩⟩ := hr36
                replace hc36 : ∀ j v, ([.int .i64 e31.1, .int .i64 e31.2.1, .string ⟨⟨e31.2.2⟩⟩] : List Value)[j]? = some v → xsyown28_0_0l9i39[Int.toNat x12l9i39 * 3 + j]? = some v := hc36
                refine Ok.batch 1 [(0, .pointer (some ⟨b7, 0, none⟩)), (1, .slice ayown28_0_0l9i39 yown28_0_0l9i39.length cyown28_0_0l9i39), (10, .slice ayown28_0_0l9i39 yown28_0_0l9i39.length cyown28_0_0l9i39), (11, .int .i64 ((vclS (((hcpS e23).2).2)).length : Int)), (12, .int .i64 x12l9i39), (29, .int .i64 e35), (31, .pointer (some ⟨ablk ayown28_0_0l9i39, Int.toNat x12l9i39 * 3 + 1, none⟩))] (by kernel_rfl) ?_
                refine Ok.op rfl (OpOk.storeOwn (e := .pair (.int .i64) (.pair (.int .i64) (.str))) (q := Int.toNat x12l9i39) (cells := [.int .i64 e31.1, .int .i64 e31.2.1, .string ⟨⟨e31.2.2⟩⟩]) (vs := [.int .i64 e35]) (el' := (e31.1, e35, e31.2.2)) 1 1 1 rfl hLyown28_0_0l9i39 hc36 (by kernel_rfl) rfl rfl rfl (by kernel_rfl) (by kernel_rfl) (by kernel_rfl) (by kernel_rfl) (by kernel_rfl) (show Rep _ _ [.int .i64 e31.1, .int .i64 e35, .string ⟨⟨e31.2.2⟩⟩] _ from ⟨[.int .i64 e31.1], [.int .i64 e35, .string ⟨⟨e31.2.2⟩⟩], rfl, rfl, ⟨[.int .i64 e35], [.string ⟨⟨e31.2.2⟩⟩], rfl, rfl, rfl⟩⟩) fun xs37 hL37 => ?_)
                rw [show yown28_0_0l9i39.length = (yown28_0_0l9i39.set (Int.toNat x12l9i39) (e31.1, e35, e31.2.2)).length from (List.length_set ..).symm]
                refine Ok.nil ?_
                refine Ok.blockN ?_
                refine Ok.thenN ?_
                subst hg35
                subst hg31
                refine Ok.reval 1 rfl (show (.slice ayown28_0_0l9i39 (yown28_0_0l9i39.set (Int.toNat x12l9i39) ((yown28_0_0l9i39.getD (Int.toNat x12l9i39) default).1, (yown5_0l26i21.getD (Int.toNat (hrefM (yown28_0_0l9i39.getD (Int.toNat x12l9i39) default))) default), (yown28_0_0l9i39.getD (Int.toNat x12l9i39) default).2.2)).length cyown28_0_0l9i39 : Value) = .slice ayown28_0_0l9i39 (hMoV12 yown5_0l26i21 x12l9i39 yown28_0_0l9i39).length cyown28_0_0l9i39 from congrArg (fun l : List (JV) => Value.slice ayown28_0_0l9i39 l.length cyown28_0_0l9i39) ((if_t hc33).symm)) ?_
                refine Ok.reval 10 rfl (show (.slice ayown28_0_0l9i39 (yown28_0_0l9i39.set (Int.toNat x12l9i39) ((yown28_0_0l9i39.getD (Int.toNat x12l9i39) default).1, (yown5_0l26i21.getD (Int.toNat (hrefM (yown28_0_0l9i39.getD (Int.toNat x12l9i39) default))) default), (yown28_0_0l9i39.getD (Int.toNat x12l9i39) default).2.2)).length cyown28_0_0l9i39 : Value) = .slice ayown28_0_0l9i39 (hMoV12 yown5_0l26i21 x12l9i39 yown28_0_0l9i39).length cyown28_0_0l9i39 from congrArg (fun l : List (JV) => Value.slice ayown28_0_0l9i39 l.length cyown28_0_0l9i39) ((if_t hc33).symm)) ?_
                refine Ok.heapEq (H' := [.blk b32 (.cells #[.int .i64 ((yown28_0_0l9i39.getD (Int.toNat x12l9i39) default).1), .int .i64 ((yown28_0_0l9i39.getD (Int.toNat x12l9i39) default).2.1), .string ⟨⟨(yown28_0_0l9i39.getD (Int.toNat x12l9i39) default).2.2⟩⟩] 24), .own (.slice ayown28_0_0l9i39 (hMoV12 yown5_0l26i21 x12l9i39 yown28_0_0l9i39).length cyown28_0_0l9i39) 24 3 (hMoV12 yown5_0l26i21 x12l9i39 yown28_0_0l9i39).length xs37, .blk b26 (.cells #[.int .i64 ((hcpS e23).1), .slice a25_0 (((hcpS e23).2).1).length c25_0, .slice a25_2 (((hcpS e23).2).2).length c25_2] 72), .own (.slice ayown18_0l21 yown18_0l21.length cyown18_0l21) 72 3 yown18_0l21.length xsyown18_0l21, .blk b7 (.cells #[.slice ayb7_0l26i21 yb7_0l26i21.length cyb7_0l26i21, .slice ayown5_0l26i21 yown5_0l26i21.length cyown5_0l26i21, .slice ayown6_0l26i21 yown6_0l26i21.length cyown6_0l26i21] 107), .own (.slice ayown6_0l26i21 yown6_0l26i21.length cyown6_0l26i21) 3 1 yown6_0l26i21.length xsyown6_0l26i21, .own (.slice ayown5_0l26i21 yown5_0l26i21.length cyown5_0l26i21) 3 1 yown5_0l26i21.length xsyown5_0l26i21]) (econs (rfl) (econs (congrArg (fun l : List (JV) => Ent.own (.slice ayown28_0_0l9i39 l.length cyown28_0_0l9i39) 24 3 l.length xs37) ((if_t hc33).symm)) (econs (rfl) (econs (rfl) (econs (rfl) (econs (rfl) (econs (rfl) rfl))))))) ?_
                exact fun a W hA hW => ⟨gl9i39, (Gext.refl w0 gl9i39), ayown28_0_0l9i39, cyown28_0_0l9i39, xs37, (Eq.mp (congrArg (fun l : List (JV) => RepL gl9i39 (.pair (.int .i64) (.pair (.int .i64) (.str))) xs37 l) ((if_t hc33).symm)) hL37), hA.sub (by kernel_rfl), hW.sub (.cons _ (.cons_cons _ (.cons_cons _ (.cons_cons _ (.cons_cons _ (.cons_cons _ (.cons_cons _ .slnil))))))), hF⟩
               ·replace hF := hF.2 hc33
                refine Ok.skip ?_
                refine Ok.blockN ?_
                refine Ok.thenN ?_
                subst hg31
                refine Ok.reval 1 rfl (show (.slice ayown28_0_0l9i39 yown28_0_0l9i39.length cyown28_0_0l9i39 : Value) = .slice ayown28_0_0l9i39 (hMoV12 yown5_0l26i21 x12l9i39 yown28_0_0l9i39).length cyown28_0_0l9i39 from congrArg (fun l : List (JV) => Value.slice ayown28_0_0l9i39 l.length cyown28_0_0l9i39) ((if_f hc33).symm)) ?_
                refine Ok.reval 10 rfl (show (.slice ayown28_0_0l9i39 yown28_0_0l9i39.length cyown28_0_0l9i39 : Value) = .slice ayown28_0_0l9i39 (hMoV12 yown5_0l26i21 x12l9i39 yown28_0_0l9i39).length cyown28_0_0l9i39 from congrArg (fun l : List (JV) => Value.slice ayown28_0_0l9i39 l.length cyown28_0_0l9i39) ((if_f hc33).symm)) ?_
                refine Ok.heapEq (H' := [.blk b32 (.cells #[.int .i64 ((yown28_0_0l9i39.getD (Int.toNat x12l9i39) default).1), .int .i64 ((yown28_0_0l9i39.getD (Int.toNat x12l9i39) default).2.1), .string ⟨⟨(yown28_0_0l9i39.getD (Int.toNat x12l9i39) default).2.2⟩⟩] 24), .own (.slice ayown28_0_0l9i39 (hMoV12 yown5_0l26i21 x12l9i39 yown28_0_0l9i39).length cyown28_0_0l9i39) 24 3 (hMoV12 yown5_0l26i21 x12l9i39 yown28_0_0l9i39).length xsyown28_0_0l9i39, .blk b26 (.cells #[.int .i64 ((hcpS e23).1), .slice a25_0 (((hcpS e23).2).1).length c25_0, .slice a25_2 (((hcpS e23).2).2).length c25_2] 72), .own (.slice ayown18_0l21 yown18_0l21.length cyown18_0l21) 72 3 yown18_0l21.length xsyown18_0l21, .blk b7 (.cells #[.slice ayb7_0l26i21 yb7_0l26i21.length cyb7_0l26i21, .slice ayown5_0l26i21 yown5_0l26i21.length cyown5_0l26i21, .slice ayown6_0l26i21 yown6_0l26i21.length cyown6_0l26i21] 107), .own (.slice ayown6_0l26i21 yown6_0l26i21.length cyown6_0l26i21) 3 1 yown6_0l26i21.length xsyown6_0l26i21, .own (.slice ayown5_0l26i21 yown5_0l26i21.length cyown5_0l26i21) 3 1 yown5_0l26i21.length xsyown5_0l26i21]) (econs (rfl) (econs (congrArg (fun l : List (JV) => Ent.own (.slice ayown28_0_0l9i39 l.length cyown28_0_0l9i39) 24 3 l.length xsyown28_0_0l9i39) ((if_f hc33).symm)) (econs (rfl) (econs (rfl) (econs (rfl) (econs (rfl) (econs (rfl) rfl))))))) ?_
                exact fun a W hA hW => ⟨gl9i39, (Gext.refl w0 gl9i39), ayown28_0_0l9i39, cyown28_0_0l9i39, xsyown28_0_0l9i39, (Eq.mp (congrArg (fun l : List (JV) => RepL gl9i39 (.pair (.int .i64) (.pair (.int .i64) (.str))) xsyown28_0_0l9i39 l) ((if_f hc33).symm)) hLyown28_0_0l9i39), hA.sub (by kernel_rfl), hW.sub (.cons _ (.cons_cons _ (.cons_cons _ (.cons_cons _ (.cons_cons _ (.cons_cons _ (.cons_cons _ .slnil))))))), hF⟩
              ·
               clear hF
               rintro a W ⟨gj16i39, hxj16i39, ayown28_0_0j16i39, cyown28_0_0j16i39, xsyown28_0_0j16i39, hLyown28_0_0j16i39, hA, hW, hF⟩
               refine (?_ : Ok _ _ _ _ _ _) a W hA hW
               clear hA hW
               replace hR25_0 := hR25_0.mono hxj16i39.1
               replace hR25_2 := hR25_2.mono hxj16i39.1
               replace hLyown18_0l21 := hLyown18_0l21.mono hxj16i39.1
               replace hRyb7_0l26i21 := hRyb7_0l26i21.mono hxj16i39.1
               replace hLyown5_0l26i21 := hLyown5_0l26i21.mono hxj16i39.1
               replace hLyown6_0l26i21 := hLyown6_0l26i21.mono hxj16i39.1
               replace hRxh_0 := hRxh_0.mono hxj16i39.1
               replace hRxroots_0 := hRxroots_0.mono hxj16i39.1
               refine Ok.region ?_
               refine Ok.batch 2 [(0, .pointer (some ⟨b7, 0, none⟩)), (1, .slice ayown28_0_0j16i39 (hMoV12 yown5_0l26i21 x12l9i39 yown28_0_0l9i39).length cyown28_0_0j16i39), (10, .slice ayown28_0_0j16i39 (hMoV12 yown5_0l26i21 x12l9i39 yown28_0_0l9i39).length cyown28_0_0j16i39), (11, .int .i64 ((vclS (((hcpS e23).2).2)).length : Int)), (12, .int .i64 (IntKind.wrap .i64 (x12l9i39 + 1)))] (by kernel_rfl) ?_
               refine Ok.nil ?_
               refine Ok.thenN ?_
               exact fun a W hA hW => ⟨k9x4, Nat.lt_succ_self _, gj16i39, (hxl9i39.trans hxj16i39), IntKind.wrap .i64 (x12l9i39 + 1), ayown28_0_0j16i39, cyown28_0_0j16i39, (hMoV12 yown5_0l26i21 x12l9i39 yown28_0_0l9i39), xsyown28_0_0j16i39, hLyown28_0_0j16i39, hA.sub (by kernel_rfl), hW, hF⟩
             ·replace hF := hF.2 hc29
              refine Ok.exit ?_
              refine Ok.thenE ?_
              refine Ok.thenE ?_
              refine Ok.blockHit ?_
              refine Ok.thenN ?_
              refine Ok.seq ?_
              refine Ok.region ?_
              refine Ok.batch 2 [(4, .slice ayown28_0_0l9i39 yown28_0_0l9i39.length cyown28_0_0l9i39)] (by kernel_rfl) ?_
              refine Ok.nil ?_
              refine Ok.thenN ?_
              refine Ok.ret ?_
              refine Ok.back (vs := [.slice ayown28_0_0l9i39 yown28_0_0l9i39.length cyown28_0_0l9i39]) (.inl rfl) rfl (.cons (.tmp rfl) .nil) rfl ?_
              refine Ok.batch 1 [(0, .slice axh_0 xh.length cxh_0), (1, .slice axroots_0 xroots.length cxroots_0), (8, .pointer (some ⟨b7, 0, none⟩)), (9, .slice ayown18_0l21 yown18_0l21.length cyown18_0l21), (12, .pointer (some ⟨b26, 0, none⟩)), (25, .slice ayown6_0l26i21 yown6_0l26i21.length cyown6_0l26i21), (26, .int .i64 (yown6_0l26i21.length : Int)), (27, .int .i64 x27l21), (39, .slice ayown28_0_0l9i39 yown28_0_0l9i39.length cyown28_0_0l9i39), (40, .pointer (some ⟨b26, 2, none⟩))] (by kernel_rfl) ?_
              refine Ok.op rfl (OpOk.store (k := 1) (v := .slice ayown28_0_0l9i39 yown28_0_0l9i39.length cyown28_0_0l9i39) (H' := [.own (.slice ayown28_0_0l9i39 yown28_0_0l9i39.length cyown28_0_0l9i39) 24 3 yown28_0_0l9i39.length xsyown28_0_0l9i39, .blk b26 (.cells #[.int .i64 ((hcpS e23).1), .slice a25_0 (((hcpS e23).2).1).length c25_0, .slice ayown28_0_0l9i39 yown28_0_0l9i39.length cyown28_0_0l9i39] 72), .own (.slice ayown18_0l21 yown18_0l21.length cyown18_0l21) 72 3 yown18_0l21.length xsyown18_0l21, .blk b7 (.cells #[.slice ayb7_0l26i21 yb7_0l26i21.length cyb7_0l26i21, .slice ayown5_0l26i21 yown5_0l26i21.length cyown5_0l26i21, .slice ayown6_0l26i21 yown6_0l26i21.length cyown6_0l26i21] 107), .own (.slice ayown6_0l26i21 yown6_0l26i21.length cyown6_0l26i21) 3 1 yown6_0l26i21.length xsyown6_0l26i21, .own (.slice ayown5_0l26i21 yown5_0l26i21.length cyown5_0l26i21) 3 1 yown5_0l26i21.length xsyown5_0l26i21]) 1 rfl rfl rfl (by kernel_rfl) (by kernel_rfl) (by kernel_rfl) (by kernel_rfl) (by kernel_rfl) ?_)
              refine Ok.nil ?_
              refine Ok.thenN ?_
              refine Ok.region ?_
              refine Ok.batch 1 [(0, .slice axh_0 xh.length cxh_0), (1, .slice axroots_0 xroots.length cxroots_0), (8, .pointer (some ⟨b7, 0, none⟩)), (12, .pointer (some ⟨b26, 0, none⟩)), (25, .slice ayown6_0l26i21 yown6_0l26i21.length cyown6_0l26i21), (26, .int .i64 (yown6_0l26i21.length : Int)), (27, .int .i64 x27l21), (41, .slice ayown18_0l21 yown18_0l21.length cyown18_0l21)] (by kernel_rfl) ?_
              refine Ok.op rfl (OpOk.step (v := .agg #[.int .i64 ((hcpS e23).1), .slice a25_0 (((hcpS e23).2).1).length c25_0, .slice ayown28_0_0l9i39 yown28_0_0l9i39.length cyown28_0_0l9i39]) (Yields.loadAgg 1 3 #[.int .i64 ((hcpS e23).1), .slice a25_0 (((hcpS e23).2).1).length c25_0, .slice ayown28_0_0l9i39 yown28_0_0l9i39.length cyown28_0_0l9i39] rfl rfl Try.underlying72 rfl (by kernel_rfl) (by kernel_rfl) (by kernel_rfl)) rfl rfl ?_)
              refine Ok.freeze (H' := [.blk b26 (.cells #[.int .i64 ((hcpS e23).1), .slice a25_0 (((hcpS e23).2).1).length c25_0, .slice ayown28_0_0l9i39 yown28_0_0l9i39.length cyown28_0_0l9i39] 72), .own (.slice ayown18_0l21 yown18_0l21.length cyown18_0l21) 72 3 yown18_0l21.length xsyown18_0l21, .blk b7 (.cells #[.slice ayb7_0l26i21 yb7_0l26i21.length cyb7_0l26i21, .slice ayown5_0l26i21 yown5_0l26i21.length cyown5_0l26i21, .slice ayown6_0l26i21 yown6_0l26i21.length cyown6_0l26i21] 107), .own (.slice ayown6_0l26i21 yown6_0l26i21.length cyown6_0l26i21) 3 1 yown6_0l26i21.length xsyown6_0l26i21, .own (.slice ayown5_0l26i21 yown5_0l26i21.length cyown5_0l26i21) 3 1 yown5_0l26i21.length xsyown5_0l26i21]) 0 rfl hLyown28_0_0l9i39 rfl fun g38 hx38 hRf38 => ?_
              replace hRxh_0 := hRxh_0.mono hx38.1
              replace hRxroots_0 := hRxroots_0.mono hx38.1
              replace hLyown6_0l26i21 := hLyown6_0l26i21.mono hx38.1
              replace hLyown18_0l21 := hLyown18_0l21.mono hx38.1
              replace hR25_0 := hR25_0.mono hx38.1
              replace hRyb7_0l26i21 := hRyb7_0l26i21.mono hx38.1
              replace hLyown5_0l26i21 := hLyown5_0l26i21.mono hx38.1
              have hL39 : RepL g38 (.pair (.int .i64) (.pair (.slice (.str)) (.slice (.pair (.int .i64) (.pair (.int .i64) (.str)))))) ([.int .i64 ((hcpS e23).1), .slice a25_0 (((hcpS e23).2).1).length c25_0, .slice ayown28_0_0l9i39 yown28_0_0l9i39.length cyown28_0_0l9i39] : List Value) ([((hcpS e23).1, ((hcpS e23).2).1, yown28_0_0l9i39)] : List (Int × List (List UInt8) × List (JV))) := (RepL.consN (c := [.int .i64 ((hcpS e23).1), .slice a25_0 (((hcpS e23).2).1).length c25_0, .slice ayown28_0_0l9i39 yown28_0_0l9i39.length cyown28_0_0l9i39]) ⟨[.int .i64 ((hcpS e23).1)], [.slice a25_0 (((hcpS e23).2).1).length c25_0, .slice ayown28_0_0l9i39 yown28_0_0l9i39.length cyown28_0_0l9i39], rfl, rfl, ⟨[.slice a25_0 (((hcpS e23).2).1).length c25_0], [.slice ayown28_0_0l9i39 yown28_0_0l9i39.length cyown28_0_0l9i39], rfl, hR25_0, hRf38⟩⟩ rfl)
              refine Ok.op rfl (OpOk.lit (E := 72) (.pair (.int .i64) (.pair (.slice (.str)) (.slice (.pair (.int .i64) (.pair (.int .i64) (.str)))))) ([((hcpS e23).1, ((hcpS e23).2).1, yown28_0_0l9i39)] : List (Int × List (List UInt8) × List (JV))) ([.int .i64 ((hcpS e23).1), .slice a25_0 (((hcpS e23).2).1).length c25_0, .slice ayown28_0_0l9i39 yown28_0_0l9i39.length cyown28_0_0l9i39] : List Value) (by kernel_rfl) (by kernel_rfl) rfl (by kernel_rfl) hL39 rfl fun b39 => ?_)
              obtain ⟨hb40, hF⟩ := hF
              refine Ok.op rfl (OpOk.append' (e := .pair (.int .i64) (.pair (.slice (.str)) (.slice (.pair (.int .i64) (.pair (.int .i64) (.str)))))) 56 2513169434916 2 0 rfl rfl rfl rfl hLyown18_0l21 hL39 Try.underlying22 (by kernel_rfl) (by kernel_rfl) (by kernel_rfl) hb40 rfl fun a40 c40 xs40 hL40 => ?_)
              refine Ok.batch 1 [(0, .slice axh_0 xh.length cxh_0), (1, .slice axroots_0 xroots.length cxroots_0), (8, .pointer (some ⟨b7, 0, none⟩)), (9, .slice a40 (yown18_0l21 ++ ([((hcpS e23).1, ((hcpS e23).2).1, yown28_0_0l9i39)] : List (Int × List (List UInt8) × List (JV)))).length c40), (25, .slice ayown6_0l26i21 yown6_0l26i21.length cyown6_0l26i21), (26, .int .i64 (yown6_0l26i21.length : Int)), (27, .int .i64 x27l21)] (by kernel_rfl) ?_
              refine Ok.nil ?_
              refine Ok.blockN ?_
              refine Ok.thenN ?_
              refine Ok.region ?_
              refine Ok.batch 2 [(0, .slice axh_0 xh.length cxh_0), (1, .slice axroots_0 xroots.length cxroots_0), (8, .pointer (some ⟨b7, 0, none⟩)), (9, .slice a40 (yown18_0l21 ++ ([((hcpS e23).1, ((hcpS e23).2).1, yown28_0_0l9i39)] : List (Int × List (List UInt8) × List (JV)))).length c40), (25, .slice ayown6_0l26i21 yown6_0l26i21.length cyown6_0l26i21), (26, .int .i64 (yown6_0l26i21.length : Int)), (27, .int .i64 (IntKind.wrap .i64 (x27l21 + 1)))] (by kernel_rfl) ?_
              refine Ok.nil ?_
              refine Ok.thenN ?_
              subst hg23
              subst hg21
              exact fun a W hA hW => ⟨k21, Nat.lt_succ_self _, g38, ((((hxl21.trans hx25).trans hx28).trans hxl9i39).trans hx38), IntKind.wrap .i64 (x27l21 + 1), a40, c40, (yown18_0l21 ++ ([((hcpS (xh.getD (Int.toNat (yown6_0l26i21.getD (Int.toNat x27l21) default)) default)).1, ((hcpS (xh.getD (Int.toNat (yown6_0l26i21.getD (Int.toNat x27l21) default)) default)).2).1, yown28_0_0l9i39)] : List (Int × List (List UInt8) × List (JV)))), xs40, hL40, hA.sub (by kernel_rfl), hW.sub (.cons _ (.cons _ (.cons_cons _ (.cons_cons _ (.cons_cons _ (.cons_cons _ .slnil)))))), hF⟩
          ·replace hF := hF.2 hc19
           refine Ok.exit ?_
           refine Ok.thenE ?_
           refine Ok.thenE ?_
           refine Ok.blockHit ?_
           refine Ok.thenN ?_
           refine Ok.seq ?_
           refine Ok.region ?_
           refine Ok.batch 3 [(46, .slice ayown18_0l21 yown18_0l21.length cyown18_0l21), (47, .pointer (some ⟨b7, 0, none⟩)), (48, .slice axroots_0 xroots.length cxroots_0)] (by kernel_rfl) ?_
           refine Ok.op rfl (OpOk.inline (args := #[.pointer (some ⟨b7, 0, none⟩), .slice axroots_0 xroots.length cxroots_0]) 34 [(0, .pointer (some ⟨b7, 0, none⟩)), (1, .slice axroots_0 xroots.length cxroots_0)] (enters (by kernel_rfl) (fun _ => by kernel_rfl)) Try.func61 rfl rfl rfl rfl ?_)
           refine Ok.seq ?_
           refine Ok.region ?_
           refine Ok.batch 1 [(0, .pointer (some ⟨b7, 0, none⟩)), (1, .slice axroots_0 xroots.length cxroots_0)] (by kernel_rfl) ?_
           refine Ok.nil ?_
           refine Ok.thenN ?_
           refine Ok.seq ?_
           refine Ok.region ?_
           refine Ok.batch 1 [(0, .pointer (some ⟨b7, 0, none⟩)), (8, .slice axroots_0 xroots.length cxroots_0)] (by kernel_rfl) ?_
           obtain ⟨hp41, hF⟩ := hF
           refine Ok.op rfl (OpOk.callH [] [.own (.slice ayown18_0l21 yown18_0l21.length cyown18_0l21) 72 3 yown18_0l21.length xsyown18_0l21, .blk b7 (.cells #[.slice ayb7_0l26i21 yb7_0l26i21.length cyb7_0l26i21, .slice ayown5_0l26i21 yown5_0l26i21.length cyown5_0l26i21, .slice ayown6_0l26i21 yown6_0l26i21.length cyown6_0l26i21] 107), .own (.slice ayown6_0l26i21 yown6_0l26i21.length cyown6_0l26i21) 3 1 yown6_0l26i21.length xsyown6_0l26i21, .own (.slice ayown5_0l26i21 yown5_0l26i21.length cyown5_0l26i21) 3 1 yown5_0l26i21.length xsyown5_0l26i21] (enters (by kernel_rfl) (fun _ => by kernel_rfl)) rfl (vcl_c xroots hRxroots_0 hp41) rfl fun g42 _ _ hx42 hV42 => ?_)
           obtain ⟨a42_0, c42_0, xs42_0, rfl, hL42_0, rfl⟩ := hV42
           replace hRxroots_0 := hRxroots_0.mono hx42.1
           replace hLyown18_0l21 := hLyown18_0l21.mono hx42.1
           replace hRyb7_0l26i21 := hRyb7_0l26i21.mono hx42.1
           replace hLyown5_0l26i21 := hLyown5_0l26i21.mono hx42.1
           replace hLyown6_0l26i21 := hLyown6_0l26i21.mono hx42.1
           refine Ok.batch 1 [(0, .pointer (some ⟨b7, 0, none⟩)), (1, .slice a42_0 (vclS xroots).length c42_0)] (by kernel_rfl) ?_
           refine Ok.nil ?_
           refine Ok.thenN ?_
           refine Ok.seq ?_
           refine Ok.seq ?_
           refine Ok.region ?_
           refine Ok.batch 3 [(0, .pointer (some ⟨b7, 0, none⟩)), (1, .slice a42_0 (vclS xroots).length c42_0), (10, .slice a42_0 (vclS xroots).length c42_0), (11, .int .i64 ((vclS xroots).length : Int)), (12, .int .i64 0)] (by kernel_rfl) ?_
           refine Ok.nil ?_
           refine Ok.thenN ?_
           refine Ok.block ?_
           obtain ⟨k, hF⟩ := hF
           refine Ok.loop (fun k a W => ∃ gl9i49 : Ghost, Gext w0 g42 gl9i49 ∧ ∃ (x12l9i49 : Int) (ayown42_0_0l9i49 : Option Addr) (cyown42_0_0l9i49 : Nat) (yown42_0_0l9i49 : List (JV)) (xsyown42_0_0l9i49 : List Value), RepL gl9i49 (.pair (.int .i64) (.pair (.int .i64) (.str))) xsyown42_0_0l9i49 yown42_0_0l9i49 ∧ StA 34 [(0, .pointer (some ⟨b7, 0, none⟩)), (1, .slice ayown42_0_0l9i49 yown42_0_0l9i49.length cyown42_0_0l9i49), (10, .slice ayown42_0_0l9i49 yown42_0_0l9i49.length cyown42_0_0l9i49), (11, .int .i64 ((vclS xroots).length : Int)), (12, .int .i64 x12l9i49)] a ∧ StW w0 [.own (.slice ayown42_0_0l9i49 yown42_0_0l9i49.length cyown42_0_0l9i49) 24 3 yown42_0_0l9i49.length xsyown42_0_0l9i49, .own (.slice ayown18_0l21 yown18_0l21.length cyown18_0l21) 72 3 yown18_0l21.length xsyown18_0l21, .blk b7 (.cells #[.slice ayb7_0l26i21 yb7_0l26i21.length cyb7_0l26i21, .slice ayown5_0l26i21 yown5_0l26i21.length cyown5_0l26i21, .slice ayown6_0l26i21 yown6_0l26i21.length cyown6_0l26i21] 107), .own (.slice ayown6_0l26i21 yown6_0l26i21.length cyown6_0l26i21) 3 1 yown6_0l26i21.length xsyown6_0l26i21, .own (.slice ayown5_0l26i21 yown5_0l26i21.length cyown5_0l26i21) 3 1 yown5_0l26i21.length xsyown5_0l26i21] gl9i49 W ∧ hMol9x5 xroots K yown5_0l26i21 yown18_0l21 k x12l9i49 yown42_0_0l9i49) k ?_ ?_
           ·
            exact fun a W hA hW => ⟨g42, (Gext.refl w0 g42), 0, a42_0, c42_0, (vclS xroots), xs42_0, hL42_0, hA.sub (by kernel_rfl), hW, hF⟩
           ·
            clear hF
            rintro k9x5 a W ⟨gl9i49, hxl9i49, x12l9i49, ayown42_0_0l9i49, cyown42_0_0l9i49, yown42_0_0l9i49, xsyown42_0_0l9i49, hLyown42_0_0l9i49, hA, hW, hF⟩
            cases k9x5 with
            | zero => exact (hF : False).elim
            | succ k9x5 =>
             refine (?_ : Ok _ _ _ _ _ _) a W hA hW
             clear hA hW
             replace hLyown18_0l21 := hLyown18_0l21.mono hxl9i49.1
             replace hRyb7_0l26i21 := hRyb7_0l26i21.mono hxl9i49.1
             replace hLyown5_0l26i21 := hLyown5_0l26i21.mono hxl9i49.1
             replace hLyown6_0l26i21 := hLyown6_0l26i21.mono hxl9i49.1
             refine Ok.seq ?_
             refine Ok.region ?_
             refine Ok.batch 1 [(0, .pointer (some ⟨b7, 0, none⟩)), (1, .slice ayown42_0_0l9i49 yown42_0_0l9i49.length cyown42_0_0l9i49), (10, .slice ayown42_0_0l9i49 yown42_0_0l9i49.length cyown42_0_0l9i49), (11, .int .i64 ((vclS xroots).length : Int)), (12, .int .i64 x12l9i49), (13, .bool (decide (x12l9i49 < ((vclS xroots).length : Int))))] (by kernel_rfl) ?_
             refine Ok.nil ?_
             refine Ok.thenN ?_
             refine Ok.seq ?_
             refine Ok.cond (b := decide (x12l9i49 < ((vclS xroots).length : Int))) rfl (fun hc43 => ?_) (fun hc43 => ?_)
             ·replace hF := hF.1 hc43
              refine Ok.skip ?_
              refine Ok.thenN ?_
              refine Ok.cut (fun a W => ∃ gj16i49 : Ghost, Gext w0 gl9i49 gj16i49 ∧ ∃ (ayown42_0_0j16i49 : Option Addr) (cyown42_0_0j16i49 : Nat) (xsyown42_0_0j16i49 : List Value), RepL gj16i49 (.pair (.int .i64) (.pair (.int .i64) (.str))) xsyown42_0_0j16i49 (hMoV15 yown5_0l26i21 x12l9i49 yown42_0_0l9i49) ∧ StA 34 [(0, .pointer (some ⟨b7, 0, none⟩)), (1, .slice ayown42_0_0j16i49 (hMoV15 yown5_0l26i21 x12l9i49 yown42_0_0l9i49).length cyown42_0_0j16i49), (10, .slice ayown42_0_0j16i49 (hMoV15 yown5_0l26i21 x12l9i49 yown42_0_0l9i49).length cyown42_0_0j16i49), (11, .int .i64 ((vclS xroots).length : Int)), (12, .int .i64 x12l9i49)] a ∧ StW w0 [.own (.slice ayown42_0_0j16i49 (hMoV15 yown5_0l26i21 x12l9i49 yown42_0_0l9i49).length cyown42_0_0j16i49) 24 3 (hMoV15 yown5_0l26i21 x12l9i49 yown42_0_0l9i49).length xsyown42_0_0j16i49, .own (.slice ayown18_0l21 yown18_0l21.length cyown18_0l21) 72 3 yown18_0l21.length xsyown18_0l21, .blk b7 (.cells #[.slice ayb7_0l26i21 yb7_0l26i21.length cyb7_0l26i21, .slice ayown5_0l26i21 yown5_0l26i21.length cyown5_0l26i21, .slice ayown6_0l26i21 yown6_0l26i21.length cyown6_0l26i21] 107), .own (.slice ayown6_0l26i21 yown6_0l26i21.length cyown6_0l26i21) 3 1 yown6_0l26i21.length xsyown6_0l26i21, .own (.slice ayown5_0l26i21 yown5_0l26i21.length cyown5_0l26i21) 3 1 yown5_0l26i21.length xsyown5_0l26i21] gj16i49 W ∧ hMoj16i49 yown5_0l26i21 x12l9i49 yown42_0_0l9i49 (hMol9x5 xroots K yown5_0l26i21 yown18_0l21 k9x5)) ?_ ?_
              ·
               refine Ok.block ?_
               refine Ok.seq ?_
               refine Ok.region ?_
               refine Ok.batch 1 [(0, .pointer (some ⟨b7, 0, none⟩)), (1, .slice ayown42_0_0l9i49 yown42_0_0l9i49.length cyown42_0_0l9i49), (10, .slice ayown42_0_0l9i49 yown42_0_0l9i49.length cyown42_0_0l9i49), (11, .int .i64 ((vclS xroots).length : Int)), (12, .int .i64 x12l9i49), (14, .int .i64 x12l9i49)] (by kernel_rfl) ?_
               obtain ⟨h045, h145, hF⟩ := hF
               have he45 := get_of (l := yown42_0_0l9i49) (default : JV) h145
               generalize hg45 : (yown42_0_0l9i49.getD (Int.toNat x12l9i49) default) = e45 at he45 hF ⊢
               refine Ok.op rfl (OpOk.indexOwn (e := .pair (.int .i64) (.pair (.int .i64) (.str))) (q := x12l9i49) (el := e45) 0 rfl hLyown42_0_0l9i49 rfl rfl Try.underlying29 (by kernel_rfl) (by kernel_rfl) h045 he45 rfl fun cs44 _ hr44 hc44 => ?_)
               obtain ⟨_, _, rfl, rfl, ⟨_, _, rfl, rfl, rfl⟩⟩ := hr44
               replace hc44 : ∀ j v, ([.int .i64 e45.1, .int .i64 e45.2.1, .string ⟨⟨e45.2.2⟩⟩] : List Value)[j]? = some v → xsyown42_0_0l9i49[Int.toNat x12l9i49 * 3 + j]? = some v := hc44
               refine Ok.op rfl (OpOk.step (v := .agg #[.int .i64 e45.1, .int .i64 e45.2.1, .string ⟨⟨e45.2.2⟩⟩]) (Yields.loadAggOwn 0 0 3 #[.int .i64 e45.1, .int .i64 e45.2.1, .string ⟨⟨e45.2.2⟩⟩] rfl hc44 rfl Try.underlying24 rfl (by kernel_rfl) (by kernel_rfl) (by kernel_rfl)) rfl rfl ?_)
               refine Ok.op rfl (OpOk.alloc (z := .agg #[.int .i64 0, .int .i64 0, .string ⟨⟨([] : List UInt8)⟩⟩]) (cs := #[.int .i64 0, .int .i64 0, .string ⟨⟨([] : List UInt8)⟩⟩]) (by kernel_rfl) (by kernel_rfl) rfl fun b46 => ?_)
               refine Ok.batch 1 [(0, .pointer (some ⟨b7, 0, none⟩)), (1, .slice ayown42_0_0l9i49 yown42_0_0l9i49.length cyown42_0_0l9i49), (5, .int .i64 x12l9i49), (6, .pointer (some ⟨b46, 0, none⟩)), (10, .slice ayown42_0_0l9i49 yown42_0_0l9i49.length cyown42_0_0l9i49), (11, .int .i64 ((vclS xroots).length : Int)), (12, .int .i64 x12l9i49), (16, .agg #[.int .i64 e45.1, .int .i64 e45.2.1, .string ⟨⟨e45.2.2⟩⟩])] (by kernel_rfl) ?_
               refine Ok.op rfl (OpOk.store (k := 3) (v := .agg #[.int .i64 e45.1, .int .i64 e45.2.1, .string ⟨⟨e45.2.2⟩⟩]) (H' := [.blk b46 (.cells #[.int .i64 e45.1, .int .i64 e45.2.1, .string ⟨⟨e45.2.2⟩⟩] 24), .own (.slice ayown42_0_0l9i49 yown42_0_0l9i49.length cyown42_0_0l9i49) 24 3 yown42_0_0l9i49.length xsyown42_0_0l9i49, .own (.slice ayown18_0l21 yown18_0l21.length cyown18_0l21) 72 3 yown18_0l21.length xsyown18_0l21, .blk b7 (.cells #[.slice ayb7_0l26i21 yb7_0l26i21.length cyb7_0l26i21, .slice ayown5_0l26i21 yown5_0l26i21.length cyown5_0l26i21, .slice ayown6_0l26i21 yown6_0l26i21.length cyown6_0l26i21] 107), .own (.slice ayown6_0l26i21 yown6_0l26i21.length cyown6_0l26i21) 3 1 yown6_0l26i21.length xsyown6_0l26i21, .own (.slice ayown5_0l26i21 yown5_0l26i21.length cyown5_0l26i21) 3 1 yown5_0l26i21.length xsyown5_0l26i21]) 0 rfl rfl rfl (by kernel_rfl) (by kernel_rfl) (by kernel_rfl) (by kernel_rfl) (by kernel_rfl) ?_)
               refine Ok.nil ?_
               refine Ok.thenN ?_
               refine Ok.seq ?_
               refine Ok.region ?_
               refine Ok.op rfl (OpOk.step (v := .agg #[.int .i64 e45.1, .int .i64 e45.2.1, .string ⟨⟨e45.2.2⟩⟩]) (Yields.loadAgg 0 3 #[.int .i64 e45.1, .int .i64 e45.2.1, .string ⟨⟨e45.2.2⟩⟩] rfl rfl Try.underlying24 rfl (by kernel_rfl) (by kernel_rfl) (by kernel_rfl)) rfl rfl ?_)
               refine Ok.op rfl (OpOk.callG (v := .int .i64 (hrefM e45)) (enters (by kernel_rfl) (fun _ => by kernel_rfl)) (fun W hW => href_c e45) rfl ?_)
               refine Ok.batch 1 [(0, .pointer (some ⟨b7, 0, none⟩)), (1, .slice ayown42_0_0l9i49 yown42_0_0l9i49.length cyown42_0_0l9i49), (5, .int .i64 x12l9i49), (7, .int .i64 (hrefM e45)), (10, .slice ayown42_0_0l9i49 yown42_0_0l9i49.length cyown42_0_0l9i49), (11, .int .i64 ((vclS xroots).length : Int)), (12, .int .i64 x12l9i49)] (by kernel_rfl) ?_
               refine Ok.nil ?_
               refine Ok.thenN ?_
               refine Ok.seq ?_
               refine Ok.region ?_
               refine Ok.batch 2 [(0, .pointer (some ⟨b7, 0, none⟩)), (1, .slice ayown42_0_0l9i49 yown42_0_0l9i49.length cyown42_0_0l9i49), (5, .int .i64 x12l9i49), (7, .int .i64 (hrefM e45)), (10, .slice ayown42_0_0l9i49 yown42_0_0l9i49.length cyown42_0_0l9i49), (11, .int .i64 ((vclS xroots).length : Int)), (12, .int .i64 x12l9i49), (20, .bool (decide ((hrefM e45) ≥ 0)))] (by kernel_rfl) ?_
               refine Ok.nil ?_
               refine Ok.thenN ?_
               refine Ok.cond (b := decide ((hrefM e45) ≥ 0)) rfl (fun hc47 => ?_) (fun hc47 => ?_)
               ·replace hF := hF.1 hc47
                refine Ok.region ?_
                refine Ok.batch 5 [(0, .pointer (some ⟨b7, 0, none⟩)), (1, .slice ayown42_0_0l9i49 yown42_0_0l9i49.length cyown42_0_0l9i49), (7, .int .i64 (hrefM e45)), (10, .slice ayown42_0_0l9i49 yown42_0_0l9i49.length cyown42_0_0l9i49), (11, .int .i64 ((vclS xroots).length : Int)), (12, .int .i64 x12l9i49), (21, .slice ayown42_0_0l9i49 yown42_0_0l9i49.length cyown42_0_0l9i49), (22, .int .i64 x12l9i49), (25, .pointer (some ⟨b7, 1, none⟩))] (by kernel_rfl) ?_
                refine Ok.op rfl (OpOk.step (v := .slice ayown5_0l26i21 yown5_0l26i21.length cyown5_0l26i21) (Yields.load 3 rfl rfl Try.underlying61 rfl (by kernel_rfl)) rfl rfl ?_)
                refine Ok.batch 1 [(0, .pointer (some ⟨b7, 0, none⟩)), (1, .slice ayown42_0_0l9i49 yown42_0_0l9i49.length cyown42_0_0l9i49), (10, .slice ayown42_0_0l9i49 yown42_0_0l9i49.length cyown42_0_0l9i49), (11, .int .i64 ((vclS xroots).length : Int)), (12, .int .i64 x12l9i49), (21, .slice ayown42_0_0l9i49 yown42_0_0l9i49.length cyown42_0_0l9i49), (22, .int .i64 x12l9i49), (26, .slice ayown5_0l26i21 yown5_0l26i21.length cyown5_0l26i21), (27, .int .i64 (hrefM e45))] (by kernel_rfl) ?_
                obtain ⟨h049, h149, hF⟩ := hF
                have he49 := get_of (l := yown5_0l26i21) (default : Int) h149
                generalize hg49 : (yown5_0l26i21.getD (Int.toNat (hrefM e45)) default) = e49 at he49 hF ⊢
                refine Ok.op rfl (OpOk.indexOwn (e := .int .i64) (q := (hrefM e45)) (el := e49) 5 rfl hLyown5_0l26i21 rfl rfl Try.underlying61 (by kernel_rfl) (by kernel_rfl) h049 he49 rfl fun cs48 _ hr48 hc48 => ?_)
                obtain rfl := hr48
                replace hc48 : ∀ j v, ([.int .i64 e49] : List Value)[j]? = some v → xsyown5_0l26i21[Int.toNat (hrefM e45) * 1 + j]? = some v := hc48
                refine Ok.op rfl (OpOk.step (v := .int .i64 e49) (Yields.loadOwn 5 0 rfl hc48 rfl Try.underlying3 rfl (by kernel_rfl)) rfl rfl ?_)
                refine Ok.op rfl (OpOk.indexOwn (e := .pair (.int .i64) (.pair (.int .i64) (.str))) (q := x12l9i49) (el := e45) 1 rfl hLyown42_0_0l9i49 rfl rfl Try.underlying29 (by kernel_rfl) (by kernel_rfl) h045 he45 rfl fun cs50 _ hr50 hc50 => ?_)
                obtain ⟨_, _, rfl, rfl, ⟨_, _, rfl, rfl, rfl⟩⟩ := hr50
                replace hc50 : ∀ j v, ([.int .i64 e45.1, .int .i64 e45.2.1, .string ⟨⟨e45.2.2⟩⟩] : List Value)[j]? = some v → xsyown42_0_0l9i49[Int.toNat x12l9i49 * 3 + j]? = some v := hc50
                refine Ok.batch 1 [(0, .pointer (some ⟨b7, 0, none⟩)), (1, .slice ayown42_0_0l9i49 yown42_0_0l9i49.length cyown42_0_0l9i49), (10, .slice ayown42_0_0l9i49 yown42_0_0l9i49.length cyown42_0_0l9i49), (11, .int .i64 ((vclS xroots).length : Int)), (12, .int .i64 x12l9i49), (29, .int .i64 e49), (31, .pointer (some ⟨ablk ayown42_0_0l9i49, Int.toNat x12l9i49 * 3 + 1, none⟩))] (by kernel_rfl) ?_
                refine Ok.op rfl (OpOk.storeOwn (e := .pair (.int .i64) (.pair (.int .i64) (.str))) (q := Int.toNat x12l9i49) (cells := [.int .i64 e45.1, .int .i64 e45.2.1, .string ⟨⟨e45.2.2⟩⟩]) (vs := [.int .i64 e49]) (el' := (e45.1, e49, e45.2.2)) 1 1 1 rfl hLyown42_0_0l9i49 hc50 (by kernel_rfl) rfl rfl rfl (by kernel_rfl) (by kernel_rfl) (by kernel_rfl) (by kernel_rfl) (by kernel_rfl) (show Rep _ _ [.int .i64 e45.1, .int .i64 e49, .string ⟨⟨e45.2.2⟩⟩] _ from ⟨[.int .i64 e45.1], [.int .i64 e49, .string ⟨⟨e45.2.2⟩⟩], rfl, rfl, ⟨[.int .i64 e49], [.string ⟨⟨e45.2.2⟩⟩], rfl, rfl, rfl⟩⟩) fun xs51 hL51 => ?_)
                rw [show yown42_0_0l9i49.length = (yown42_0_0l9i49.set (Int.toNat x12l9i49) (e45.1, e49, e45.2.2)).length from (List.length_set ..).symm]
                refine Ok.nil ?_
                refine Ok.blockN ?_
                refine Ok.thenN ?_
                subst hg49
                subst hg45
                refine Ok.reval 1 rfl (show (.slice ayown42_0_0l9i49 (yown42_0_0l9i49.set (Int.toNat x12l9i49) ((yown42_0_0l9i49.getD (Int.toNat x12l9i49) default).1, (yown5_0l26i21.getD (Int.toNat (hrefM (yown42_0_0l9i49.getD (Int.toNat x12l9i49) default))) default), (yown42_0_0l9i49.getD (Int.toNat x12l9i49) default).2.2)).length cyown42_0_0l9i49 : Value) = .slice ayown42_0_0l9i49 (hMoV15 yown5_0l26i21 x12l9i49 yown42_0_0l9i49).length cyown42_0_0l9i49 from congrArg (fun l : List (JV) => Value.slice ayown42_0_0l9i49 l.length cyown42_0_0l9i49) ((if_t hc47).symm)) ?_
                refine Ok.reval 10 rfl (show (.slice ayown42_0_0l9i49 (yown42_0_0l9i49.set (Int.toNat x12l9i49) ((yown42_0_0l9i49.getD (Int.toNat x12l9i49) default).1, (yown5_0l26i21.getD (Int.toNat (hrefM (yown42_0_0l9i49.getD (Int.toNat x12l9i49) default))) default), (yown42_0_0l9i49.getD (Int.toNat x12l9i49) default).2.2)).length cyown42_0_0l9i49 : Value) = .slice ayown42_0_0l9i49 (hMoV15 yown5_0l26i21 x12l9i49 yown42_0_0l9i49).length cyown42_0_0l9i49 from congrArg (fun l : List (JV) => Value.slice ayown42_0_0l9i49 l.length cyown42_0_0l9i49) ((if_t hc47).symm)) ?_
                refine Ok.heapEq (H' := [.blk b46 (.cells #[.int .i64 ((yown42_0_0l9i49.getD (Int.toNat x12l9i49) default).1), .int .i64 ((yown42_0_0l9i49.getD (Int.toNat x12l9i49) default).2.1), .string ⟨⟨(yown42_0_0l9i49.getD (Int.toNat x12l9i49) default).2.2⟩⟩] 24), .own (.slice ayown42_0_0l9i49 (hMoV15 yown5_0l26i21 x12l9i49 yown42_0_0l9i49).length cyown42_0_0l9i49) 24 3 (hMoV15 yown5_0l26i21 x12l9i49 yown42_0_0l9i49).length xs51, .own (.slice ayown18_0l21 yown18_0l21.length cyown18_0l21) 72 3 yown18_0l21.length xsyown18_0l21, .blk b7 (.cells #[.slice ayb7_0l26i21 yb7_0l26i21.length cyb7_0l26i21, .slice ayown5_0l26i21 yown5_0l26i21.length cyown5_0l26i21, .slice ayown6_0l26i21 yown6_0l26i21.length cyown6_0l26i21] 107), .own (.slice ayown6_0l26i21 yown6_0l26i21.length cyown6_0l26i21) 3 1 yown6_0l26i21.length xsyown6_0l26i21, .own (.slice ayown5_0l26i21 yown5_0l26i21.length cyown5_0l26i21) 3 1 yown5_0l26i21.length xsyown5_0l26i21]) (econs (rfl) (econs (congrArg (fun l : List (JV) => Ent.own (.slice ayown42_0_0l9i49 l.length cyown42_0_0l9i49) 24 3 l.length xs51) ((if_t hc47).symm)) (econs (rfl) (econs (rfl) (econs (rfl) (econs (rfl) rfl)))))) ?_
                exact fun a W hA hW => ⟨gl9i49, (Gext.refl w0 gl9i49), ayown42_0_0l9i49, cyown42_0_0l9i49, xs51, (Eq.mp (congrArg (fun l : List (JV) => RepL gl9i49 (.pair (.int .i64) (.pair (.int .i64) (.str))) xs51 l) ((if_t hc47).symm)) hL51), hA.sub (by kernel_rfl), hW.sub (.cons _ (.cons_cons _ (.cons_cons _ (.cons_cons _ (.cons_cons _ (.cons_cons _ .slnil)))))), hF⟩
               ·replace hF := hF.2 hc47
                refine Ok.skip ?_
                refine Ok.blockN ?_
                refine Ok.thenN ?_
                subst hg45
                refine Ok.reval 1 rfl (show (.slice ayown42_0_0l9i49 yown42_0_0l9i49.length cyown42_0_0l9i49 : Value) = .slice ayown42_0_0l9i49 (hMoV15 yown5_0l26i21 x12l9i49 yown42_0_0l9i49).length cyown42_0_0l9i49 from congrArg (fun l : List (JV) => Value.slice ayown42_0_0l9i49 l.length cyown42_0_0l9i49) ((if_f hc47).symm)) ?_
                refine Ok.reval 10 rfl (show (.slice ayown42_0_0l9i49 yown42_0_0l9i49.length cyown42_0_0l9i49 : Value) = .slice ayown42_0_0l9i49 (hMoV15 yown5_0l26i21 x12l9i49 yown42_0_0l9i49).length cyown42_0_0l9i49 from congrArg (fun l : List (JV) => Value.slice ayown42_0_0l9i49 l.length cyown42_0_0l9i49) ((if_f hc47).symm)) ?_
                refine Ok.heapEq (H' := [.blk b46 (.cells #[.int .i64 ((yown42_0_0l9i49.getD (Int.toNat x12l9i49) default).1), .int .i64 ((yown42_0_0l9i49.getD (Int.toNat x12l9i49) default).2.1), .string ⟨⟨(yown42_0_0l9i49.getD (Int.toNat x12l9i49) default).2.2⟩⟩] 24), .own (.slice ayown42_0_0l9i49 (hMoV15 yown5_0l26i21 x12l9i49 yown42_0_0l9i49).length cyown42_0_0l9i49) 24 3 (hMoV15 yown5_0l26i21 x12l9i49 yown42_0_0l9i49).length xsyown42_0_0l9i49, .own (.slice ayown18_0l21 yown18_0l21.length cyown18_0l21) 72 3 yown18_0l21.length xsyown18_0l21, .blk b7 (.cells #[.slice ayb7_0l26i21 yb7_0l26i21.length cyb7_0l26i21, .slice ayown5_0l26i21 yown5_0l26i21.length cyown5_0l26i21, .slice ayown6_0l26i21 yown6_0l26i21.length cyown6_0l26i21] 107), .own (.slice ayown6_0l26i21 yown6_0l26i21.length cyown6_0l26i21) 3 1 yown6_0l26i21.length xsyown6_0l26i21, .own (.slice ayown5_0l26i21 yown5_0l26i21.length cyown5_0l26i21) 3 1 yown5_0l26i21.length xsyown5_0l26i21]) (econs (rfl) (econs (congrArg (fun l : List (JV) => Ent.own (.slice ayown42_0_0l9i49 l.length cyown42_0_0l9i49) 24 3 l.length xsyown42_0_0l9i49) ((if_f hc47).symm)) (econs (rfl) (econs (rfl) (econs (rfl) (econs (rfl) rfl)))))) ?_
                exact fun a W hA hW => ⟨gl9i49, (Gext.refl w0 gl9i49), ayown42_0_0l9i49, cyown42_0_0l9i49, xsyown42_0_0l9i49, (Eq.mp (congrArg (fun l : List (JV) => RepL gl9i49 (.pair (.int .i64) (.pair (.int .i64) (.str))) xsyown42_0_0l9i49 l) ((if_f hc47).symm)) hLyown42_0_0l9i49), hA.sub (by kernel_rfl), hW.sub (.cons _ (.cons_cons _ (.cons_cons _ (.cons_cons _ (.cons_cons _ (.cons_cons _ .slnil)))))), hF⟩
              ·
               clear hF
               rintro a W ⟨gj16i49, hxj16i49, ayown42_0_0j16i49, cyown42_0_0j16i49, xsyown42_0_0j16i49, hLyown42_0_0j16i49, hA, hW, hF⟩
               refine (?_ : Ok _ _ _ _ _ _) a W hA hW
               clear hA hW
               replace hLyown18_0l21 := hLyown18_0l21.mono hxj16i49.1
               replace hRyb7_0l26i21 := hRyb7_0l26i21.mono hxj16i49.1
               replace hLyown5_0l26i21 := hLyown5_0l26i21.mono hxj16i49.1
               replace hLyown6_0l26i21 := hLyown6_0l26i21.mono hxj16i49.1
               refine Ok.region ?_
               refine Ok.batch 2 [(0, .pointer (some ⟨b7, 0, none⟩)), (1, .slice ayown42_0_0j16i49 (hMoV15 yown5_0l26i21 x12l9i49 yown42_0_0l9i49).length cyown42_0_0j16i49), (10, .slice ayown42_0_0j16i49 (hMoV15 yown5_0l26i21 x12l9i49 yown42_0_0l9i49).length cyown42_0_0j16i49), (11, .int .i64 ((vclS xroots).length : Int)), (12, .int .i64 (IntKind.wrap .i64 (x12l9i49 + 1)))] (by kernel_rfl) ?_
               refine Ok.nil ?_
               refine Ok.thenN ?_
               exact fun a W hA hW => ⟨k9x5, Nat.lt_succ_self _, gj16i49, (hxl9i49.trans hxj16i49), IntKind.wrap .i64 (x12l9i49 + 1), ayown42_0_0j16i49, cyown42_0_0j16i49, (hMoV15 yown5_0l26i21 x12l9i49 yown42_0_0l9i49), xsyown42_0_0j16i49, hLyown42_0_0j16i49, hA.sub (by kernel_rfl), hW, hF⟩
             ·replace hF := hF.2 hc43
              refine Ok.exit ?_
              refine Ok.thenE ?_
              refine Ok.thenE ?_
              refine Ok.blockHit ?_
              refine Ok.thenN ?_
              refine Ok.seq ?_
              refine Ok.region ?_
              refine Ok.batch 2 [(4, .slice ayown42_0_0l9i49 yown42_0_0l9i49.length cyown42_0_0l9i49)] (by kernel_rfl) ?_
              refine Ok.nil ?_
              refine Ok.thenN ?_
              refine Ok.ret ?_
              refine Ok.back (vs := [.slice ayown42_0_0l9i49 yown42_0_0l9i49.length cyown42_0_0l9i49]) (.inl rfl) rfl (.cons (.tmp rfl) .nil) rfl ?_
              refine Ok.batch 3 [(4, .slice ayown18_0l21 yown18_0l21.length cyown18_0l21), (5, .slice ayown42_0_0l9i49 yown42_0_0l9i49.length cyown42_0_0l9i49), (6, .int .i64 0)] (by kernel_rfl) ?_
              refine Ok.nil ?_
              refine Ok.thenN ?_
              refine Ok.ret ?_
              refine Ok.freeze (H' := [.own (.slice ayown42_0_0l9i49 yown42_0_0l9i49.length cyown42_0_0l9i49) 24 3 yown42_0_0l9i49.length xsyown42_0_0l9i49, .blk b7 (.cells #[.slice ayb7_0l26i21 yb7_0l26i21.length cyb7_0l26i21, .slice ayown5_0l26i21 yown5_0l26i21.length cyown5_0l26i21, .slice ayown6_0l26i21 yown6_0l26i21.length cyown6_0l26i21] 107), .own (.slice ayown6_0l26i21 yown6_0l26i21.length cyown6_0l26i21) 3 1 yown6_0l26i21.length xsyown6_0l26i21, .own (.slice ayown5_0l26i21 yown5_0l26i21.length cyown5_0l26i21) 3 1 yown5_0l26i21.length xsyown5_0l26i21]) 1 rfl hLyown18_0l21 rfl fun g52 hx52 hRf52 => ?_
              replace hLyown42_0_0l9i49 := hLyown42_0_0l9i49.mono hx52.1
              replace hRyb7_0l26i21 := hRyb7_0l26i21.mono hx52.1
              replace hLyown5_0l26i21 := hLyown5_0l26i21.mono hx52.1
              replace hLyown6_0l26i21 := hLyown6_0l26i21.mono hx52.1
              refine Ok.freeze (H' := [.blk b7 (.cells #[.slice ayb7_0l26i21 yb7_0l26i21.length cyb7_0l26i21, .slice ayown5_0l26i21 yown5_0l26i21.length cyown5_0l26i21, .slice ayown6_0l26i21 yown6_0l26i21.length cyown6_0l26i21] 107), .own (.slice ayown6_0l26i21 yown6_0l26i21.length cyown6_0l26i21) 3 1 yown6_0l26i21.length xsyown6_0l26i21, .own (.slice ayown5_0l26i21 yown5_0l26i21.length cyown5_0l26i21) 3 1 yown5_0l26i21.length xsyown5_0l26i21]) 0 rfl hLyown42_0_0l9i49 rfl fun g53 hx53 hRf53 => ?_
              replace hRf52 := hRf52.mono hx53.1
              replace hRyb7_0l26i21 := hRyb7_0l26i21.mono hx53.1
              replace hLyown5_0l26i21 := hLyown5_0l26i21.mono hx53.1
              replace hLyown6_0l26i21 := hLyown6_0l26i21.mono hx53.1
              exact Ok.resP (vs := [.slice ayown18_0l21 yown18_0l21.length cyown18_0l21, .slice ayown42_0_0l9i49 yown42_0_0l9i49.length cyown42_0_0l9i49, .int .i64 0]) [] [] (by decide) rfl (.inl rfl) rfl (.cons (.tmp rfl) (.cons (.tmp rfl) (.cons (.tmp rfl) .nil))) ((((((hxl9i21.trans hxl26i21).trans hxl21).trans hx42).trans hxl9i49).trans hx52).trans hx53) ⟨yown18_0l21, yown42_0_0l9i49, 0, ayown18_0l21, cyown18_0l21, ayown42_0_0l9i49, cyown42_0_0l9i49, rfl, hRf52, hRf53, rfl, hF⟩
def hMoS (h : List JC) (l : List JV) : List JC × List JV × Int := if (haskS h l != 0) = true then ([], [], haskS h l) else ((order h l).2.map (movC h (order h l).1), l.map (movV (order h l).1), 0)
def hMoP (h : List JC) (l : List JV) : Prop := rcrP h ∧ l.length ≤ 4398046511104
theorem ask_zero {h : List JC} {l : List JV} (hz : haskS h l = 0) : HV h ∧ ∀ v ∈ l, hrefM v < (h.length : Int) := by
 unfold haskS at hz
 split at hz
 ·rename_i h1; rw [hz] at h1; cases h1
 ·rename_i h1
  split at hz
  ·rename_i h2
   exact ⟨hv_of (by simpa using h1), fun v hv => fit_ref (all_get h2 hv)⟩
  ·cases hz
theorem hMo_F (h : List JC) (l : List JV) (hp : hMoP h l) : hMoF h l (fun a b c => (a, b, c) = hMoS h l) := by
 obtain ⟨hr, hl⟩ := hp
 refine ⟨⟨hr, by rw [maxLen_eq]; omega⟩, fun h1 => by unfold hMoS; rw [if_t h1], fun h1 => ?_⟩
 have hR : hMoS h l = ((order h l).2.map (movC h (order h l).1), l.map (movV (order h l).1), 0) := by unfold hMoS; rw [if_f h1]
 obtain ⟨H, hrt⟩ := ask_zero (show haskS h l = 0 by simpa using h1)
 have h300 := H.few
 have hoI := comes_ok H hrt (start_inv h)
 have hoI : Inv h (order h l) := hoI.1
 -- a value moved, in place
 have val : ∀ {q : List JV} {i : Nat}, i < q.length → (∀ v ∈ q, hrefM v < (h.length : Int)) → (decide (hrefM (q.getD i default) ≥ 0) = true → (0 : Int) ≤ hrefM (q.getD i default) ∧ Int.toNat (hrefM (q.getD i default)) < (order h l).1.length) := fun {q i} hi hq hc => by
  have hc := of_decide_eq_true hc
  have := hq _ (mem_getD default hi)
  rw [hoI.len]; omega
 have stp : ∀ (q : List JV) (i : Nat), i < q.length → (if (decide ((hrefM (((q.take i).map (movV (order h l).1) ++ q.drop i).getD i default)) ≥ 0)) = true then (((q.take i).map (movV (order h l).1) ++ q.drop i).set i ((((q.take i).map (movV (order h l).1) ++ q.drop i).getD i default).1, ((order h l).1.getD (Int.toNat (hrefM (((q.take i).map (movV (order h l).1) ++ q.drop i).getD i default))) default), (((q.take i).map (movV (order h l).1) ++ q.drop i).getD i default).2.2)) else ((q.take i).map (movV (order h l).1) ++ q.drop i)) = (q.take (i + 1)).map (movV (order h l).1) ++ q.drop (i + 1) := fun q i hi => by
  have hlen : ((q.take i).map (movV (order h l).1)).length = i := by rw [List.length_map, List.length_take]; omega
  have hg : ((q.take i).map (movV (order h l).1) ++ q.drop i).getD i default = q.getD i default := by
   rw [List.getD_eq_getElem?_getD, List.getElem?_append_right (by omega), hlen, Nat.sub_self, drop_get (l := q) default hi]; rfl
  have hm : ∀ x, x = movV (order h l).1 (q.getD i default) → ((q.take i).map (movV (order h l).1) ++ q.drop i).set i x = (q.take (i + 1)).map (movV (order h l).1) ++ q.drop (i + 1) := fun x hx => by
   rw [List.set_append_right _ _ (by omega), hlen, Nat.sub_self, drop_get (l := q) default hi, List.set_cons_zero, take_get (l := q) default hi, List.map_append, List.append_assoc, hx]; rfl
  rw [hg]
  split
  ·rename_i hc
   exact hm _ (by unfold movV; rw [if_pos hc])
  ·rename_i hc
   rw [← hm (q.getD i default) (by unfold movV; rw [if_neg hc])]
   rw [List.set_append_right _ _ (by omega), hlen, Nat.sub_self, drop_get (l := q) default hi, List.set_cons_zero]
 -- the roots
 have roots : ∀ (cs : List JC), cs = (order h l).2.map (movC h (order h l).1) → ∀ (k i : Nat), i + k = l.length → hMol9x5 l (fun a b c => (a, b, c) = hMoS h l) (order h l).1 cs (k + 1) (i : Int) ((l.take i).map (movV (order h l).1) ++ l.drop i) := by
  intro cs hcs k
  induction k with
  | zero =>
   intro i hi
   refine ⟨fun h2 => by have h3 := of_decide_eq_true h2; have : (i : Int) < (l.length : Int) := h3; omega, fun _ => ?_⟩
   rw [hR, hcs, List.take_of_length_le (by omega), List.drop_of_length_le (by omega), List.append_nil]
  | succ k ih =>
   intro i hi
   have hlen : ((l.take i).map (movV (order h l).1) ++ l.drop i).length = l.length := by rw [List.length_append, List.length_map, List.length_take, List.length_drop]; omega
   have hs := stp l i (by omega)
   have hg : ((l.take i).map (movV (order h l).1) ++ l.drop i).getD i default = l.getD i default := by
    rw [List.getD_eq_getElem?_getD, List.getElem?_append_right (by simp; omega)]
    rw [List.length_map, List.length_take, Nat.min_eq_left (by omega), Nat.sub_self, drop_get (l := l) default (by omega)]; rfl
   have j16 : hMoj16i49 (order h l).1 (i : Int) ((l.take i).map (movV (order h l).1) ++ l.drop i) (hMol9x5 l (fun a b c => (a, b, c) = hMoS h l) (order h l).1 cs (k + 1)) := by
    unfold hMoj16i49 hMoV15
    rw [Int.toNat_natCast, hs, w64 (by omega)]
    exact ih (i + 1) (by omega)
   refine ⟨fun _ => ⟨by omega, by rw [hlen]; omega, fun hc => ?_, fun _ => j16⟩, fun h2 => by have h3 := of_decide_eq_false h2; have : ¬ (i : Int) < (l.length : Int) := h3; omega⟩
   rw [Int.toNat_natCast, hg] at hc ⊢
   have := val (show i < l.length by omega) hrt hc
   exact ⟨this.1, this.2, j16⟩
 -- the cells
 have cells : ∀ (k i : Nat), i + k = (order h l).2.length → hMol21 h l (fun a b c => (a, b, c) = hMoS h l) (order h l).2 (order h l).1 (k + 1) (i : Int) (((order h l).2.take i).map (movC h (order h l).1)) := by
  intro k
  have hcnt := hoI.cnt
  induction k with
  | zero =>
   intro i hi
   refine ⟨fun h2 => by have := of_decide_eq_true h2; omega, fun _ => ⟨hl, _, roots _ ?_ l.length 0 (by omega)⟩⟩
   rw [List.take_of_length_le (by omega)]
  | succ k ih =>
   intro i hi
   have hn := hoI.ran _ (mem_getD default (show i < (order h l).2.length by omega))
   generalize hnn : (order h l).2.getD i default = n at hn
   have hnl : n.toNat < h.length := by omega
   have hsm := H.small _ (mem_getD default hnl)
   have hkd := H.kid hnl
   refine ⟨fun _ => ⟨by omega, by omega, ?_⟩, fun h2 => by have := of_decide_eq_false h2; omega⟩
   rw [Int.toNat_natCast, hnn]
   refine ⟨hn.1, hnl, ⟨hsm.2, hsm.1⟩, by unfold vclP; have := hsm.1; show (h.getD n.toNat default).2.2.length ≤ _; omega, ?_⟩
   have vals : ∀ (q j : Nat), j + q = (h.getD n.toNat default).2.2.length → hMol9x4 h (order h l).2 (order h l).1 (i : Int) (h.getD n.toNat default) (((order h l).2.take i).map (movC h (order h l).1)) (hMol21 h l (fun a b c => (a, b, c) = hMoS h l) (order h l).2 (order h l).1 (k + 1)) (q + 1) (j : Int) (((h.getD n.toNat default).2.2.take j).map (movV (order h l).1) ++ (h.getD n.toNat default).2.2.drop j) := by
    intro q
    induction q with
    | zero =>
     intro j hj
     refine ⟨fun h2 => by have h3 := of_decide_eq_true h2; have : (j : Int) < ((h.getD n.toNat default).2.2.length : Int) := h3; omega, fun _ => ⟨?_, ?_⟩⟩
     ·rw [List.length_append, List.length_map, List.length_take]; simp; omega
     ·rw [Int.toNat_natCast, hnn, w64 (by omega), List.take_of_length_le (l := (h.getD n.toNat default).2.2) (by omega), List.drop_of_length_le (l := (h.getD n.toNat default).2.2) (by omega), List.append_nil]
      have := ih (i + 1) (by omega)
      rw [take_get (l := (order h l).2) default (by omega), List.map_append, hnn] at this
      exact this
    | succ q ihq =>
     intro j hj
     have hlen : (((h.getD n.toNat default).2.2.take j).map (movV (order h l).1) ++ (h.getD n.toNat default).2.2.drop j).length = (h.getD n.toNat default).2.2.length := by rw [List.length_append, List.length_map, List.length_take, List.length_drop]; omega
     have hs := stp (h.getD n.toNat default).2.2 j (by omega)
     have hsz := hsm.1
     have hg : (((h.getD n.toNat default).2.2.take j).map (movV (order h l).1) ++ (h.getD n.toNat default).2.2.drop j).getD j default = (h.getD n.toNat default).2.2.getD j default := by
      rw [List.getD_eq_getElem?_getD, List.getElem?_append_right (by simp; omega)]
      rw [List.length_map, List.length_take, Nat.min_eq_left (by omega), Nat.sub_self, drop_get (l := (h.getD n.toNat default).2.2) default (by omega)]; rfl
     have j16 : hMoj16i39 (order h l).1 (j : Int) (((h.getD n.toNat default).2.2.take j).map (movV (order h l).1) ++ (h.getD n.toNat default).2.2.drop j) (hMol9x4 h (order h l).2 (order h l).1 (i : Int) (h.getD n.toNat default) (((order h l).2.take i).map (movC h (order h l).1)) (hMol21 h l (fun a b c => (a, b, c) = hMoS h l) (order h l).2 (order h l).1 (k + 1)) (q + 1)) := by
      unfold hMoj16i39 hMoV12
      rw [Int.toNat_natCast, hs, w64 (by omega)]
      exact ihq (j + 1) (by omega)
     refine ⟨fun _ => ⟨by omega, by rw [hlen]; omega, fun hc => ?_, fun _ => j16⟩, fun h2 => by have h3 := of_decide_eq_false h2; have : ¬ (j : Int) < ((h.getD n.toNat default).2.2.length : Int) := h3; omega⟩
     rw [Int.toNat_natCast, hg] at hc ⊢
     have := val (show j < (h.getD n.toNat default).2.2.length by omega) hkd hc
     exact ⟨this.1, this.2, j16⟩
   exact ⟨_, vals (h.getD n.toNat default).2.2.length 0 (by omega)⟩
 -- coming
 have comes : ∀ (k i : Nat) (s : SS), i + k = l.length → Inv h s → order h l = (l.drop i).foldl (come h) s → hMol26x2 h l (fun a b c => (a, b, c) = hMoS h l) (k + 1) (i : Int) h s.2 s.1 := by
  intro k
  induction k with
  | zero =>
   intro i s hi I he
   rw [List.drop_of_length_le (by omega)] at he
   have he : order h l = s := he
   refine ⟨fun h2 => by have := of_decide_eq_true h2; omega, fun _ => ⟨(order h l).2.length + 1, ?_⟩⟩
   rw [← he]
   exact cells (order h l).2.length 0 (by omega)
  | succ k ih =>
   intro i s hi I he
   rw [drop_get (l := l) default (by omega), List.foldl_cons] at he
   have hv := hrt _ (mem_getD default (show i < l.length by omega))
   have hcn := I.cnt
   refine ⟨fun _ => ⟨by omega, by omega, ?_, ?_⟩, fun h2 => by have := of_decide_eq_false h2; omega⟩
   ·rw [Int.toNat_natCast]; exact ⟨h.length + 1, H, I, hv, by show unv s.1 < _; omega⟩
   ·rw [Int.toNat_natCast, w64 (by omega)]
    exact ih (i + 1) _ (by omega) (come_ok H I hv).1 he
 -- the marks
 have marks : ∀ (k i : Nat), i + k = h.length → hMol9x1 h l (fun a b c => (a, b, c) = hMoS h l) (k + 1) (i : Int) (List.replicate i (-1) ++ List.replicate k 0) := by
  intro k
  induction k with
  | zero =>
   intro i hi
   refine ⟨fun h2 => by have := of_decide_eq_true h2; rw [List.length_replicate] at this; omega, fun _ => ⟨l.length + 1, ?_⟩⟩
   rw [List.replicate_zero, List.append_nil, show i = h.length by omega]
   exact comes l.length 0 (start h) (by omega) (start_inv h) rfl
  | succ k ih =>
   intro i hi
   refine ⟨fun _ => ⟨by omega, by rw [List.length_append, List.length_replicate, List.length_replicate]; omega, ?_⟩, fun h2 => by have := of_decide_eq_false h2; rw [List.length_replicate] at this; omega⟩
   rw [Int.toNat_natCast, w64 (by omega), List.set_append_right _ _ (by simp), List.length_replicate, Nat.sub_self, List.replicate_succ, List.set_cons_zero]
   have := ih (i + 1) (by omega)
   rw [List.replicate_succ', List.append_assoc] at this
   exact this
 exact ⟨by omega, by omega, _, by rw [Int.toNat_natCast]; exact marks h.length 0 (by omega)⟩
set_option linter.unusedVariables false in
theorem hMo_c {g : Ghost} {axh_0 : Option Addr} {cxh_0 : Nat} (xh : List (Int × List (List UInt8) × List (Int × Int × List UInt8))) {axroots_0 : Option Addr} {cxroots_0 : Nat} (xroots : List (Int × Int × List UInt8)) (hRxh_0 : Rep g (.slice (.pair (.int .i64) (.pair (.slice (.str)) (.slice (.pair (.int .i64) (.pair (.int .i64) (.str))))))) [.slice axh_0 xh.length cxh_0] xh) (hRxroots_0 : Rep g (.slice (.pair (.int .i64) (.pair (.int .i64) (.str)))) [.slice axroots_0 xroots.length cxroots_0] xroots)  (hp : hMoP xh xroots) : CallsH Try.prog 26 #[.slice axh_0 xh.length cxh_0, .slice axroots_0 xroots.length cxroots_0] g [] (fun g' H' v => ∃ (ar0_0 : Option Addr) (cr0_0 : Nat), ∃ (ar1_0 : Option Addr) (cr1_0 : Nat), v = .tuple #[.slice ar0_0 ((hMoS xh xroots).1).length cr0_0, .slice ar1_0 ((hMoS xh xroots).2.1).length cr1_0, .int .i64 ((hMoS xh xroots).2.2)] ∧ Rep g' (.slice (.pair (.int .i64) (.pair (.slice (.str)) (.slice (.pair (.int .i64) (.pair (.int .i64) (.str))))))) [.slice ar0_0 ((hMoS xh xroots).1).length cr0_0] ((hMoS xh xroots).1) ∧ Rep g' (.slice (.pair (.int .i64) (.pair (.int .i64) (.str)))) [.slice ar1_0 ((hMoS xh xroots).2.1).length cr1_0] ((hMoS xh xroots).2.1) ∧ H' = []) :=
 (hMo_ok xh xroots hRxh_0 hRxroots_0 _ (hMo_F xh xroots hp)).mono (by rintro g' H' v _ ⟨r0, r1, r2, ar0_0, cr0_0, ar1_0, cr1_0, rfl, hRr0_0, hRr1_0, rfl, hK⟩; obtain ⟨rfl, rfl, rfl⟩ : r0 = (hMoS xh xroots).1 ∧ r1 = (hMoS xh xroots).2.1 ∧ r2 = (hMoS xh xroots).2.2 := ⟨congrArg (fun z => z.1) hK, congrArg (fun z => z.2.1) hK, congrArg (fun z => z.2.2) hK⟩; exact ⟨ar0_0, cr0_0, ar1_0, cr1_0, rfl, hRr0_0, hRr1_0, rfl⟩)
end Go.Proofs.Ytbifbljdmndjbaa.Hp
