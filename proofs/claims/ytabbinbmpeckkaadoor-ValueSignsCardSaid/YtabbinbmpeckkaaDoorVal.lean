/- ValueSays, ValueSigns: functions of the laws. -/
import Derived.Test.YtabbinbmpeckkaaDoorPl
import Derived.Test.YtabbinbmpeckkaaDoorLaid
import Derived.Test.YtabbinbmpeckkaaDoorShelf
namespace Go.Proofs.YtabbinbmpeckkaaDoor.Vl
open Go.Eng
set_option linter.unusedVariables false
abbrev JV := Int × Int × List UInt8
def DPow : List (Int) := [1, 10, 100, 1000, 10000, 100000, 1000000, 10000000, 100000000, 1000000000, 10000000000, 100000000000, 1000000000000, 10000000000000, 100000000000000, 1000000000000000, 10000000000000000, 100000000000000000, 1000000000000000000, 10000000000000000000]
def i64P (x : Int) : Prop := -9223372036854775808 ≤ x ∧ x ≤ 9223372036854775807
theorem itoa_c {g : Ghost} (x : Int) (hG : GlobL g 5 (.int .u64) DPow) (hp : i64P x) : CallsG Tryd.prog 132 #[.int .i64 x] g (.string ⟨⟨Lib.itoa x⟩⟩) := fun W hW => by
  obtain ⟨xs, h1, h2⟩ := hG.var (P := Tryd.prog) hW (name := "internal/strconv.uint64pow10") (by kernel_rfl)
  have htab : Lib.TabIs Tryd.prog W "internal/strconv.uint64pow10" .u64 Lib.pow10Tab := by
    unfold Lib.TabIs
    rw [h1, repL_ints h2, show DPow = Lib.pow10Tab by decide]
  exact (Tryd.strconv_Itoa x hp.1 hp.2 W htab).mono fun e W' ⟨he, k, os, hw⟩ => ⟨he, by subst hw; exact ⟨rfl, rfl, rfl, by simp [Sort.grow], fun i hi => by
    show ((W.drewN k).heap ++ os)[i]? = _
    rw [Array.getElem?_append_left (show i < (W.drewN k).heap.size from hi)]; rfl⟩⟩
def witF (xn : Int) (xlow : Int) (xhigh : Int) (K : Bool → Prop) : Prop :=
  K ((decide (xn ≥ xlow)) && (decide (xn ≤ xhigh)))
set_option maxHeartbeats 4000000 in
set_option maxRecDepth 100000 in
set_option linter.unusedVariables false in
theorem wit_ok {g : Ghost} (xn : Int) (xlow : Int) (xhigh : Int) (K : Bool → Prop)
    (hF : witF xn xlow xhigh K) : CallsH Tryd.prog 129 #[.int .i64 xn, .int .i64 xlow, .int .i64 xhigh] g [] (fun g' H' v => ∃ (r0 : Bool), v = .bool r0 ∧ H' = [] ∧ K r0) := by
  refine CallsH.enter 15 [(0, .int .i64 xn), (1, .int .i64 xlow), (2, .int .i64 xhigh)] Tryd.func129 rfl (by kernel_rfl) (by kernel_rfl) (by kernel_rfl) fun w0 => ?_
  refine Ok.seq ?_
  refine Ok.region ?_
  refine Ok.batch 1 [(0, .int .i64 xn), (1, .int .i64 xlow), (2, .int .i64 xhigh)] (by kernel_rfl) ?_
  refine Ok.nil ?_
  refine Ok.thenN ?_
  refine Ok.seq ?_
  refine Ok.region ?_
  refine Ok.batch 4 [(0, .int .i64 xn), (2, .int .i64 xhigh), (10, .bool (decide (xn ≥ xlow)))] (by kernel_rfl) ?_
  refine Ok.midway 4 [(14, .bool ((decide (xn ≥ xlow)) && (decide (xn ≤ xhigh))))] (fun hR1 => ?_) ?_
  · refine Ok.boolAt 10 (decide (xn ≥ xlow)) rfl (fun hc2 => ?_) (fun hc2 => ?_)
    · skip
      refine Ok.batch 4 [(14, .bool (decide (xn ≤ xhigh)))] (by kernel_rfl) ?_
      refine Ok.reval 14 rfl (show (.bool (decide (xn ≤ xhigh)) : Value) = .bool ((decide (xn ≥ xlow)) && (decide (xn ≤ xhigh))) from congrArg Value.bool (mand_t hc2)) ?_
      refine Ok.batch 0 [(14, .bool ((decide (xn ≥ xlow)) && (decide (xn ≤ xhigh))))] (by kernel_rfl) ?_
      exact hR1
    · skip
      refine Ok.batch 4 [(14, .bool false)] (by kernel_rfl) ?_
      refine Ok.reval 14 rfl (show (.bool false : Value) = .bool ((decide (xn ≥ xlow)) && (decide (xn ≤ xhigh))) from congrArg Value.bool (mand_f hc2)) ?_
      refine Ok.batch 0 [(14, .bool ((decide (xn ≥ xlow)) && (decide (xn ≤ xhigh))))] (by kernel_rfl) ?_
      exact hR1
  refine Ok.batch 1 [(6, .bool ((decide (xn ≥ xlow)) && (decide (xn ≤ xhigh))))] (by kernel_rfl) ?_
  refine Ok.nil ?_
  refine Ok.thenN ?_
  refine Ok.ret ?_
  exact Ok.resH (vs := [.bool ((decide (xn ≥ xlow)) && (decide (xn ≤ xhigh)))]) (.inl rfl) rfl (.cons (.tmp rfl) .nil) (Gext.refl w0 g) ⟨((decide (xn ≥ xlow)) && (decide (xn ≤ xhigh))), rfl, rfl, hF⟩
def witM (xn : Int) (xlow : Int) (xhigh : Int) : Bool := ((decide (xn ≥ xlow)) && (decide (xn ≤ xhigh)))
set_option linter.unusedSimpArgs false in
set_option linter.unusedVariables false in
theorem witF_A (xn : Int) (xlow : Int) (xhigh : Int) (P : Bool → Prop) (h : P (witM xn xlow xhigh)) : witF xn xlow xhigh (fun k0 => P k0) := by
  unfold witM at h
  unfold witF
  exact h
theorem wit_F (xn : Int) (xlow : Int) (xhigh : Int) : witF xn xlow xhigh (fun k0 => k0 = witM xn xlow xhigh) :=
  witF_A xn xlow xhigh (fun z => z = witM xn xlow xhigh) rfl
set_option linter.unusedVariables false in
theorem wit_c {g : Ghost} (xn : Int) (xlow : Int) (xhigh : Int)  : CallsG Tryd.prog 129 #[.int .i64 xn, .int .i64 xlow, .int .i64 xhigh] g (.bool (witM xn xlow xhigh)) :=
  (wit_ok xn xlow xhigh _ (wit_F xn xlow xhigh)).gives (by rintro g' H' v _ ⟨r0, rfl, rfl, hK⟩; subst hK; rfl)
def chkj10 (xv : Int × Int × List UInt8) (K : Bool → Prop) : Prop :=
  K ((xv.2.1 == 0) && (xv.2.2 == ([] : List UInt8)))
def chkj16 (xv : Int × Int × List UInt8) (K : Bool → Prop) : Prop :=
  K ((witM xv.2.1 0 1) && (xv.2.2 == ([] : List UInt8)))
def chkj22 (xv : Int × Int × List UInt8) (K : Bool → Prop) : Prop :=
  K ((witM xv.2.1 (-9007199254740992) 9007199254740992) && (xv.2.2 == ([] : List UInt8)))
def chkj28 (xv : Int × Int × List UInt8) (K : Bool → Prop) : Prop :=
  K ((decide ((xv.2.2.length : Int) ≤ 2000)) && (xv.2.1 == 0))
def chkj34 (xv : Int × Int × List UInt8) (K : Bool → Prop) : Prop :=
  K ((decide (xv.2.1 ≥ 0)) && (xv.2.2 == ([] : List UInt8)))
def chkF (xv : Int × Int × List UInt8) (K : Bool → Prop) : Prop :=
  (((xv.1 == 0)) = true → (((xv.2.1 == 0)) = true → chkj10 xv K) ∧ (((xv.2.1 == 0)) = false → chkj10 xv K)) ∧ (((xv.1 == 0)) = false → (((xv.1 == 1)) = true → (((witM xv.2.1 0 1)) = true → chkj16 xv K) ∧ (((witM xv.2.1 0 1)) = false → chkj16 xv K)) ∧ (((xv.1 == 1)) = false → (((xv.1 == 2)) = true → (((witM xv.2.1 (-9007199254740992) 9007199254740992)) = true → chkj22 xv K) ∧ (((witM xv.2.1 (-9007199254740992) 9007199254740992)) = false → chkj22 xv K)) ∧ (((xv.1 == 2)) = false → (((xv.1 == 3)) = true → ((decide ((xv.2.2.length : Int) ≤ 2000)) = true → chkj28 xv K) ∧ ((decide ((xv.2.2.length : Int) ≤ 2000)) = false → chkj28 xv K)) ∧ (((xv.1 == 3)) = false → (((xv.1 == 4)) = true → ((decide (xv.2.1 ≥ 0)) = true → chkj34 xv K) ∧ ((decide (xv.2.1 ≥ 0)) = false → chkj34 xv K)) ∧ (((xv.1 == 4)) = false → (((xv.1 == 5)) = true → K (xv.2.1 == 0)) ∧ (((xv.1 == 5)) = false → K false))))))
set_option maxHeartbeats 4000000 in
set_option maxRecDepth 100000 in
set_option linter.unusedVariables false in
theorem chk_ok {g : Ghost} (xv : Int × Int × List UInt8) (K : Bool → Prop)
    (hF : chkF xv K) : CallsH Tryd.prog 128 #[.agg #[.int .i64 xv.1, .int .i64 xv.2.1, .string ⟨⟨xv.2.2⟩⟩]] g [] (fun g' H' v => ∃ (r0 : Bool), v = .bool r0 ∧ H' = [] ∧ K r0) := by
  refine CallsH.enter 61 [(0, .agg #[.int .i64 xv.1, .int .i64 xv.2.1, .string ⟨⟨xv.2.2⟩⟩])] Tryd.func128 rfl (by kernel_rfl) (by kernel_rfl) (by kernel_rfl) fun w0 => ?_
  refine Ok.seq ?_
  refine Ok.region ?_
  refine Ok.op rfl (OpOk.box (v := .agg #[.int .i64 xv.1, .int .i64 xv.2.1, .string ⟨⟨xv.2.2⟩⟩]) (cs := #[.int .i64 xv.1, .int .i64 xv.2.1, .string ⟨⟨xv.2.2⟩⟩]) rfl (by kernel_rfl) rfl fun b1 => ?_)
  refine Ok.batch 1 [(1, .pointer (some ⟨b1, 0, none⟩))] (by kernel_rfl) ?_
  refine Ok.nil ?_
  refine Ok.thenN ?_
  refine Ok.seq ?_
  refine Ok.seq ?_
  refine Ok.region ?_
  refine Ok.batch 1 [(1, .pointer (some ⟨b1, 0, none⟩)), (3, .pointer (some ⟨b1, 0, none⟩))] (by kernel_rfl) ?_
  refine Ok.op rfl (OpOk.step (v := .int .i64 xv.1) (Yields.load 0 rfl rfl Tryd.underlying3 rfl (by kernel_rfl)) rfl rfl ?_)
  refine Ok.nil ?_
  refine Ok.thenN ?_
  refine Ok.block ?_
  refine Ok.seq ?_
  refine Ok.region ?_
  refine Ok.batch 2 [(1, .pointer (some ⟨b1, 0, none⟩)), (4, .int .i64 xv.1), (5, .bool (xv.1 == 0))] (by kernel_rfl) ?_
  refine Ok.nil ?_
  refine Ok.thenN ?_
  refine Ok.cond (b := (xv.1 == 0)) rfl (fun hc2 => ?_) (fun hc2 => ?_)
  · replace hF := hF.1 hc2
    refine Ok.cut (fun a W => StA 61 [(2, .bool ((xv.2.1 == 0) && (xv.2.2 == ([] : List UInt8))))] a ∧ StW w0 [] g W ∧ chkj10 xv K) ?_ ?_
    ·
      refine Ok.region ?_
      refine Ok.batch 1 [(1, .pointer (some ⟨b1, 0, none⟩)), (7, .pointer (some ⟨b1, 1, none⟩))] (by kernel_rfl) ?_
      refine Ok.op rfl (OpOk.step (v := .int .i64 xv.2.1) (Yields.load 0 rfl rfl Tryd.underlying3 rfl (by kernel_rfl)) rfl rfl ?_)
      refine Ok.batch 2 [(1, .pointer (some ⟨b1, 0, none⟩)), (10, .bool (xv.2.1 == 0))] (by kernel_rfl) ?_
      refine Ok.boolAt 10 ((xv.2.1 == 0)) rfl (fun hc3 => ?_) (fun hc3 => ?_)
      · replace hF := hF.1 hc3
        refine Ok.batch 1 [(10, .bool true), (11, .pointer (some ⟨b1, 2, none⟩))] (by kernel_rfl) ?_
        refine Ok.opYes (j := 3) (d := 10) (want := true) (b := true) rfl (by kernel_rfl) (by kernel_rfl) rfl (OpOk.step (v := .string ⟨⟨xv.2.2⟩⟩) (Yields.load 0 rfl rfl Tryd.underlying9 rfl (by kernel_rfl)) rfl rfl ?_)
        refine Ok.opYes (j := 3) (d := 10) (want := true) (b := true) rfl (by kernel_rfl) (by kernel_rfl) rfl (OpOk.step (v := .bool (xv.2.2 == ([] : List UInt8))) (Yields.strCmp (f := .eql) (a := xv.2.2) (b := ([] : List UInt8)) (by kernel_rfl) (by kernel_rfl) rfl) rfl rfl ?_)
        refine Ok.batch 2 [(2, .bool (xv.2.2 == ([] : List UInt8)))] (by kernel_rfl) ?_
        refine Ok.nil ?_
        refine Ok.thenN ?_
        refine Ok.reval 2 rfl (show (.bool (xv.2.2 == ([] : List UInt8)) : Value) = .bool ((xv.2.1 == 0) && (xv.2.2 == ([] : List UInt8))) from congrArg (Value.bool) (mand_t hc3)) ?_
        exact fun a W hA hW => ⟨hA.sub (by kernel_rfl), hW.sub (.cons _ .slnil), hF⟩
      · replace hF := hF.2 hc3
        refine Ok.batch 5 [(2, .bool false)] (by kernel_rfl) ?_
        refine Ok.nil ?_
        refine Ok.thenN ?_
        refine Ok.reval 2 rfl (show (.bool false : Value) = .bool ((xv.2.1 == 0) && (xv.2.2 == ([] : List UInt8))) from congrArg (Value.bool) (mand_f hc3)) ?_
        exact fun a W hA hW => ⟨hA.sub (by kernel_rfl), hW.sub (.cons _ .slnil), hF⟩
    ·
      rintro a W ⟨hA, hW, hF⟩
      refine (?_ : Ok _ _ _ _ _ _) a W hA hW
      clear hA hW
      refine Ok.ret ?_
      refine Ok.blockR ?_
      refine Ok.thenR ?_
      exact Ok.resH (vs := [.bool ((xv.2.1 == 0) && (xv.2.2 == ([] : List UInt8)))]) (.inl rfl) rfl (.cons (.tmp rfl) .nil) (Gext.refl w0 g) ⟨((xv.2.1 == 0) && (xv.2.2 == ([] : List UInt8))), rfl, rfl, hF⟩
  · replace hF := hF.2 hc2
    refine Ok.seq ?_
    refine Ok.region ?_
    refine Ok.batch 2 [(1, .pointer (some ⟨b1, 0, none⟩)), (4, .int .i64 xv.1), (15, .bool (xv.1 == 1))] (by kernel_rfl) ?_
    refine Ok.nil ?_
    refine Ok.thenN ?_
    refine Ok.cond (b := (xv.1 == 1)) rfl (fun hc4 => ?_) (fun hc4 => ?_)
    · replace hF := hF.1 hc4
      refine Ok.cut (fun a W => StA 61 [(2, .bool ((witM xv.2.1 0 1) && (xv.2.2 == ([] : List UInt8))))] a ∧ StW w0 [] g W ∧ chkj16 xv K) ?_ ?_
      ·
        refine Ok.region ?_
        refine Ok.batch 1 [(1, .pointer (some ⟨b1, 0, none⟩)), (17, .pointer (some ⟨b1, 1, none⟩))] (by kernel_rfl) ?_
        refine Ok.op rfl (OpOk.step (v := .int .i64 xv.2.1) (Yields.load 0 rfl rfl Tryd.underlying3 rfl (by kernel_rfl)) rfl rfl ?_)
        refine Ok.op rfl (OpOk.callG (v := .bool (witM xv.2.1 0 1)) (enters (by kernel_rfl) (fun _ => by kernel_rfl)) (fun W hW => wit_c xv.2.1 0 1) rfl ?_)
        refine Ok.batch 1 [(1, .pointer (some ⟨b1, 0, none⟩)), (20, .bool (witM xv.2.1 0 1))] (by kernel_rfl) ?_
        refine Ok.boolAt 20 ((witM xv.2.1 0 1)) rfl (fun hc5 => ?_) (fun hc5 => ?_)
        · replace hF := hF.1 hc5
          refine Ok.batch 1 [(20, .bool true), (21, .pointer (some ⟨b1, 2, none⟩))] (by kernel_rfl) ?_
          refine Ok.opYes (j := 3) (d := 20) (want := true) (b := true) rfl (by kernel_rfl) (by kernel_rfl) rfl (OpOk.step (v := .string ⟨⟨xv.2.2⟩⟩) (Yields.load 0 rfl rfl Tryd.underlying9 rfl (by kernel_rfl)) rfl rfl ?_)
          refine Ok.opYes (j := 3) (d := 20) (want := true) (b := true) rfl (by kernel_rfl) (by kernel_rfl) rfl (OpOk.step (v := .bool (xv.2.2 == ([] : List UInt8))) (Yields.strCmp (f := .eql) (a := xv.2.2) (b := ([] : List UInt8)) (by kernel_rfl) (by kernel_rfl) rfl) rfl rfl ?_)
          refine Ok.batch 2 [(2, .bool (xv.2.2 == ([] : List UInt8)))] (by kernel_rfl) ?_
          refine Ok.nil ?_
          refine Ok.thenN ?_
          refine Ok.reval 2 rfl (show (.bool (xv.2.2 == ([] : List UInt8)) : Value) = .bool ((witM xv.2.1 0 1) && (xv.2.2 == ([] : List UInt8))) from congrArg (Value.bool) (mand_t hc5)) ?_
          exact fun a W hA hW => ⟨hA.sub (by kernel_rfl), hW.sub (.cons _ .slnil), hF⟩
        · replace hF := hF.2 hc5
          refine Ok.batch 5 [(2, .bool false)] (by kernel_rfl) ?_
          refine Ok.nil ?_
          refine Ok.thenN ?_
          refine Ok.reval 2 rfl (show (.bool false : Value) = .bool ((witM xv.2.1 0 1) && (xv.2.2 == ([] : List UInt8))) from congrArg (Value.bool) (mand_f hc5)) ?_
          exact fun a W hA hW => ⟨hA.sub (by kernel_rfl), hW.sub (.cons _ .slnil), hF⟩
      ·
        rintro a W ⟨hA, hW, hF⟩
        refine (?_ : Ok _ _ _ _ _ _) a W hA hW
        clear hA hW
        refine Ok.ret ?_
        refine Ok.blockR ?_
        refine Ok.thenR ?_
        exact Ok.resH (vs := [.bool ((witM xv.2.1 0 1) && (xv.2.2 == ([] : List UInt8)))]) (.inl rfl) rfl (.cons (.tmp rfl) .nil) (Gext.refl w0 g) ⟨((witM xv.2.1 0 1) && (xv.2.2 == ([] : List UInt8))), rfl, rfl, hF⟩
    · replace hF := hF.2 hc4
      refine Ok.seq ?_
      refine Ok.region ?_
      refine Ok.batch 2 [(1, .pointer (some ⟨b1, 0, none⟩)), (4, .int .i64 xv.1), (25, .bool (xv.1 == 2))] (by kernel_rfl) ?_
      refine Ok.nil ?_
      refine Ok.thenN ?_
      refine Ok.cond (b := (xv.1 == 2)) rfl (fun hc6 => ?_) (fun hc6 => ?_)
      · replace hF := hF.1 hc6
        refine Ok.cut (fun a W => StA 61 [(2, .bool ((witM xv.2.1 (-9007199254740992) 9007199254740992) && (xv.2.2 == ([] : List UInt8))))] a ∧ StW w0 [] g W ∧ chkj22 xv K) ?_ ?_
        ·
          refine Ok.region ?_
          refine Ok.batch 1 [(1, .pointer (some ⟨b1, 0, none⟩)), (27, .pointer (some ⟨b1, 1, none⟩))] (by kernel_rfl) ?_
          refine Ok.op rfl (OpOk.step (v := .int .i64 xv.2.1) (Yields.load 0 rfl rfl Tryd.underlying3 rfl (by kernel_rfl)) rfl rfl ?_)
          refine Ok.op rfl (OpOk.callG (v := .bool (witM xv.2.1 (-9007199254740992) 9007199254740992)) (enters (by kernel_rfl) (fun _ => by kernel_rfl)) (fun W hW => wit_c xv.2.1 (-9007199254740992) 9007199254740992) rfl ?_)
          refine Ok.batch 1 [(1, .pointer (some ⟨b1, 0, none⟩)), (30, .bool (witM xv.2.1 (-9007199254740992) 9007199254740992))] (by kernel_rfl) ?_
          refine Ok.boolAt 30 ((witM xv.2.1 (-9007199254740992) 9007199254740992)) rfl (fun hc7 => ?_) (fun hc7 => ?_)
          · replace hF := hF.1 hc7
            refine Ok.batch 1 [(30, .bool true), (31, .pointer (some ⟨b1, 2, none⟩))] (by kernel_rfl) ?_
            refine Ok.opYes (j := 3) (d := 30) (want := true) (b := true) rfl (by kernel_rfl) (by kernel_rfl) rfl (OpOk.step (v := .string ⟨⟨xv.2.2⟩⟩) (Yields.load 0 rfl rfl Tryd.underlying9 rfl (by kernel_rfl)) rfl rfl ?_)
            refine Ok.opYes (j := 3) (d := 30) (want := true) (b := true) rfl (by kernel_rfl) (by kernel_rfl) rfl (OpOk.step (v := .bool (xv.2.2 == ([] : List UInt8))) (Yields.strCmp (f := .eql) (a := xv.2.2) (b := ([] : List UInt8)) (by kernel_rfl) (by kernel_rfl) rfl) rfl rfl ?_)
            refine Ok.batch 2 [(2, .bool (xv.2.2 == ([] : List UInt8)))] (by kernel_rfl) ?_
            refine Ok.nil ?_
            refine Ok.thenN ?_
            refine Ok.reval 2 rfl (show (.bool (xv.2.2 == ([] : List UInt8)) : Value) = .bool ((witM xv.2.1 (-9007199254740992) 9007199254740992) && (xv.2.2 == ([] : List UInt8))) from congrArg (Value.bool) (mand_t hc7)) ?_
            exact fun a W hA hW => ⟨hA.sub (by kernel_rfl), hW.sub (.cons _ .slnil), hF⟩
          · replace hF := hF.2 hc7
            refine Ok.batch 5 [(2, .bool false)] (by kernel_rfl) ?_
            refine Ok.nil ?_
            refine Ok.thenN ?_
            refine Ok.reval 2 rfl (show (.bool false : Value) = .bool ((witM xv.2.1 (-9007199254740992) 9007199254740992) && (xv.2.2 == ([] : List UInt8))) from congrArg (Value.bool) (mand_f hc7)) ?_
            exact fun a W hA hW => ⟨hA.sub (by kernel_rfl), hW.sub (.cons _ .slnil), hF⟩
        ·
          rintro a W ⟨hA, hW, hF⟩
          refine (?_ : Ok _ _ _ _ _ _) a W hA hW
          clear hA hW
          refine Ok.ret ?_
          refine Ok.blockR ?_
          refine Ok.thenR ?_
          exact Ok.resH (vs := [.bool ((witM xv.2.1 (-9007199254740992) 9007199254740992) && (xv.2.2 == ([] : List UInt8)))]) (.inl rfl) rfl (.cons (.tmp rfl) .nil) (Gext.refl w0 g) ⟨((witM xv.2.1 (-9007199254740992) 9007199254740992) && (xv.2.2 == ([] : List UInt8))), rfl, rfl, hF⟩
      · replace hF := hF.2 hc6
        refine Ok.seq ?_
        refine Ok.region ?_
        refine Ok.batch 2 [(1, .pointer (some ⟨b1, 0, none⟩)), (4, .int .i64 xv.1), (35, .bool (xv.1 == 3))] (by kernel_rfl) ?_
        refine Ok.nil ?_
        refine Ok.thenN ?_
        refine Ok.cond (b := (xv.1 == 3)) rfl (fun hc8 => ?_) (fun hc8 => ?_)
        · replace hF := hF.1 hc8
          refine Ok.cut (fun a W => StA 61 [(2, .bool ((decide ((xv.2.2.length : Int) ≤ 2000)) && (xv.2.1 == 0)))] a ∧ StW w0 [] g W ∧ chkj28 xv K) ?_ ?_
          ·
            refine Ok.region ?_
            refine Ok.batch 1 [(1, .pointer (some ⟨b1, 0, none⟩)), (37, .pointer (some ⟨b1, 2, none⟩))] (by kernel_rfl) ?_
            refine Ok.op rfl (OpOk.step (v := .string ⟨⟨xv.2.2⟩⟩) (Yields.load 0 rfl rfl Tryd.underlying9 rfl (by kernel_rfl)) rfl rfl ?_)
            refine Ok.batch 3 [(1, .pointer (some ⟨b1, 0, none⟩)), (41, .bool (decide ((xv.2.2.length : Int) ≤ 2000)))] (by kernel_rfl) ?_
            refine Ok.boolAt 41 (decide ((xv.2.2.length : Int) ≤ 2000)) rfl (fun hc9 => ?_) (fun hc9 => ?_)
            · replace hF := hF.1 hc9
              refine Ok.batch 1 [(41, .bool true), (42, .pointer (some ⟨b1, 1, none⟩))] (by kernel_rfl) ?_
              refine Ok.opYes (j := 4) (d := 41) (want := true) (b := true) rfl (by kernel_rfl) (by kernel_rfl) rfl (OpOk.step (v := .int .i64 xv.2.1) (Yields.load 0 rfl rfl Tryd.underlying3 rfl (by kernel_rfl)) rfl rfl ?_)
              refine Ok.batch 3 [(2, .bool (xv.2.1 == 0))] (by kernel_rfl) ?_
              refine Ok.nil ?_
              refine Ok.thenN ?_
              refine Ok.reval 2 rfl (show (.bool (xv.2.1 == 0) : Value) = .bool ((decide ((xv.2.2.length : Int) ≤ 2000)) && (xv.2.1 == 0)) from congrArg (Value.bool) (mand_t hc9)) ?_
              exact fun a W hA hW => ⟨hA.sub (by kernel_rfl), hW.sub (.cons _ .slnil), hF⟩
            · replace hF := hF.2 hc9
              refine Ok.batch 5 [(2, .bool false)] (by kernel_rfl) ?_
              refine Ok.nil ?_
              refine Ok.thenN ?_
              refine Ok.reval 2 rfl (show (.bool false : Value) = .bool ((decide ((xv.2.2.length : Int) ≤ 2000)) && (xv.2.1 == 0)) from congrArg (Value.bool) (mand_f hc9)) ?_
              exact fun a W hA hW => ⟨hA.sub (by kernel_rfl), hW.sub (.cons _ .slnil), hF⟩
          ·
            rintro a W ⟨hA, hW, hF⟩
            refine (?_ : Ok _ _ _ _ _ _) a W hA hW
            clear hA hW
            refine Ok.ret ?_
            refine Ok.blockR ?_
            refine Ok.thenR ?_
            exact Ok.resH (vs := [.bool ((decide ((xv.2.2.length : Int) ≤ 2000)) && (xv.2.1 == 0))]) (.inl rfl) rfl (.cons (.tmp rfl) .nil) (Gext.refl w0 g) ⟨((decide ((xv.2.2.length : Int) ≤ 2000)) && (xv.2.1 == 0)), rfl, rfl, hF⟩
        · replace hF := hF.2 hc8
          refine Ok.seq ?_
          refine Ok.region ?_
          refine Ok.batch 2 [(1, .pointer (some ⟨b1, 0, none⟩)), (4, .int .i64 xv.1), (46, .bool (xv.1 == 4))] (by kernel_rfl) ?_
          refine Ok.nil ?_
          refine Ok.thenN ?_
          refine Ok.cond (b := (xv.1 == 4)) rfl (fun hc10 => ?_) (fun hc10 => ?_)
          · replace hF := hF.1 hc10
            refine Ok.cut (fun a W => StA 61 [(2, .bool ((decide (xv.2.1 ≥ 0)) && (xv.2.2 == ([] : List UInt8))))] a ∧ StW w0 [] g W ∧ chkj34 xv K) ?_ ?_
            ·
              refine Ok.region ?_
              refine Ok.batch 1 [(1, .pointer (some ⟨b1, 0, none⟩)), (48, .pointer (some ⟨b1, 1, none⟩))] (by kernel_rfl) ?_
              refine Ok.op rfl (OpOk.step (v := .int .i64 xv.2.1) (Yields.load 0 rfl rfl Tryd.underlying3 rfl (by kernel_rfl)) rfl rfl ?_)
              refine Ok.batch 2 [(1, .pointer (some ⟨b1, 0, none⟩)), (51, .bool (decide (xv.2.1 ≥ 0)))] (by kernel_rfl) ?_
              refine Ok.boolAt 51 (decide (xv.2.1 ≥ 0)) rfl (fun hc11 => ?_) (fun hc11 => ?_)
              · replace hF := hF.1 hc11
                refine Ok.batch 1 [(51, .bool true), (52, .pointer (some ⟨b1, 2, none⟩))] (by kernel_rfl) ?_
                refine Ok.opYes (j := 3) (d := 51) (want := true) (b := true) rfl (by kernel_rfl) (by kernel_rfl) rfl (OpOk.step (v := .string ⟨⟨xv.2.2⟩⟩) (Yields.load 0 rfl rfl Tryd.underlying9 rfl (by kernel_rfl)) rfl rfl ?_)
                refine Ok.opYes (j := 3) (d := 51) (want := true) (b := true) rfl (by kernel_rfl) (by kernel_rfl) rfl (OpOk.step (v := .bool (xv.2.2 == ([] : List UInt8))) (Yields.strCmp (f := .eql) (a := xv.2.2) (b := ([] : List UInt8)) (by kernel_rfl) (by kernel_rfl) rfl) rfl rfl ?_)
                refine Ok.batch 2 [(2, .bool (xv.2.2 == ([] : List UInt8)))] (by kernel_rfl) ?_
                refine Ok.nil ?_
                refine Ok.thenN ?_
                refine Ok.reval 2 rfl (show (.bool (xv.2.2 == ([] : List UInt8)) : Value) = .bool ((decide (xv.2.1 ≥ 0)) && (xv.2.2 == ([] : List UInt8))) from congrArg (Value.bool) (mand_t hc11)) ?_
                exact fun a W hA hW => ⟨hA.sub (by kernel_rfl), hW.sub (.cons _ .slnil), hF⟩
              · replace hF := hF.2 hc11
                refine Ok.batch 5 [(2, .bool false)] (by kernel_rfl) ?_
                refine Ok.nil ?_
                refine Ok.thenN ?_
                refine Ok.reval 2 rfl (show (.bool false : Value) = .bool ((decide (xv.2.1 ≥ 0)) && (xv.2.2 == ([] : List UInt8))) from congrArg (Value.bool) (mand_f hc11)) ?_
                exact fun a W hA hW => ⟨hA.sub (by kernel_rfl), hW.sub (.cons _ .slnil), hF⟩
            ·
              rintro a W ⟨hA, hW, hF⟩
              refine (?_ : Ok _ _ _ _ _ _) a W hA hW
              clear hA hW
              refine Ok.ret ?_
              refine Ok.blockR ?_
              refine Ok.thenR ?_
              exact Ok.resH (vs := [.bool ((decide (xv.2.1 ≥ 0)) && (xv.2.2 == ([] : List UInt8)))]) (.inl rfl) rfl (.cons (.tmp rfl) .nil) (Gext.refl w0 g) ⟨((decide (xv.2.1 ≥ 0)) && (xv.2.2 == ([] : List UInt8))), rfl, rfl, hF⟩
          · replace hF := hF.2 hc10
            refine Ok.seq ?_
            refine Ok.region ?_
            refine Ok.batch 2 [(1, .pointer (some ⟨b1, 0, none⟩)), (56, .bool (xv.1 == 5))] (by kernel_rfl) ?_
            refine Ok.nil ?_
            refine Ok.thenN ?_
            refine Ok.cond (b := (xv.1 == 5)) rfl (fun hc12 => ?_) (fun hc12 => ?_)
            · replace hF := hF.1 hc12
              refine Ok.seq ?_
              refine Ok.region ?_
              refine Ok.batch 1 [(58, .pointer (some ⟨b1, 1, none⟩))] (by kernel_rfl) ?_
              refine Ok.op rfl (OpOk.step (v := .int .i64 xv.2.1) (Yields.load 0 rfl rfl Tryd.underlying3 rfl (by kernel_rfl)) rfl rfl ?_)
              refine Ok.batch 2 [(2, .bool (xv.2.1 == 0))] (by kernel_rfl) ?_
              refine Ok.nil ?_
              refine Ok.thenN ?_
              refine Ok.ret ?_
              refine Ok.blockR ?_
              refine Ok.thenR ?_
              exact Ok.resP (vs := [.bool (xv.2.1 == 0)]) [] [] (by decide) rfl (.inl rfl) rfl (.cons (.tmp rfl) .nil) (Gext.refl w0 g) ⟨(xv.2.1 == 0), rfl, rfl, hF⟩
            · replace hF := hF.2 hc12
              refine Ok.skip ?_
              refine Ok.blockN ?_
              refine Ok.thenN ?_
              refine Ok.seq ?_
              refine Ok.region ?_
              refine Ok.batch 1 [(2, .bool false)] (by kernel_rfl) ?_
              refine Ok.nil ?_
              refine Ok.thenN ?_
              refine Ok.ret ?_
              exact Ok.resP (vs := [.bool false]) [] [] (by decide) rfl (.inl rfl) rfl (.cons (.tmp rfl) .nil) (Gext.refl w0 g) ⟨false, rfl, rfl, hF⟩
def chkj10M (xv : Int × Int × List UInt8) : Bool := ((xv.2.1 == 0) && (xv.2.2 == ([] : List UInt8)))
set_option linter.unusedSimpArgs false in
set_option linter.unusedVariables false in
theorem chkj10_A (xv : Int × Int × List UInt8) (P : Bool → Prop) (h : P (chkj10M xv)) : chkj10 xv (fun k0 => P k0) := by
  unfold chkj10M at h
  unfold chkj10
  exact h
def chkj16M (xv : Int × Int × List UInt8) : Bool := ((witM xv.2.1 0 1) && (xv.2.2 == ([] : List UInt8)))
set_option linter.unusedSimpArgs false in
set_option linter.unusedVariables false in
theorem chkj16_A (xv : Int × Int × List UInt8) (P : Bool → Prop) (h : P (chkj16M xv)) : chkj16 xv (fun k0 => P k0) := by
  unfold chkj16M at h
  unfold chkj16
  exact h
def chkj22M (xv : Int × Int × List UInt8) : Bool := ((witM xv.2.1 (-9007199254740992) 9007199254740992) && (xv.2.2 == ([] : List UInt8)))
set_option linter.unusedSimpArgs false in
set_option linter.unusedVariables false in
theorem chkj22_A (xv : Int × Int × List UInt8) (P : Bool → Prop) (h : P (chkj22M xv)) : chkj22 xv (fun k0 => P k0) := by
  unfold chkj22M at h
  unfold chkj22
  exact h
def chkj28M (xv : Int × Int × List UInt8) : Bool := ((decide ((xv.2.2.length : Int) ≤ 2000)) && (xv.2.1 == 0))
set_option linter.unusedSimpArgs false in
set_option linter.unusedVariables false in
theorem chkj28_A (xv : Int × Int × List UInt8) (P : Bool → Prop) (h : P (chkj28M xv)) : chkj28 xv (fun k0 => P k0) := by
  unfold chkj28M at h
  unfold chkj28
  exact h
def chkj34M (xv : Int × Int × List UInt8) : Bool := ((decide (xv.2.1 ≥ 0)) && (xv.2.2 == ([] : List UInt8)))
set_option linter.unusedSimpArgs false in
set_option linter.unusedVariables false in
theorem chkj34_A (xv : Int × Int × List UInt8) (P : Bool → Prop) (h : P (chkj34M xv)) : chkj34 xv (fun k0 => P k0) := by
  unfold chkj34M at h
  unfold chkj34
  exact h
def chkM (xv : Int × Int × List UInt8) : Bool := (if (xv.1 == 0) = true then (chkj10M xv) else (if (xv.1 == 1) = true then (chkj16M xv) else (if (xv.1 == 2) = true then (chkj22M xv) else (if (xv.1 == 3) = true then (chkj28M xv) else (if (xv.1 == 4) = true then (chkj34M xv) else (if (xv.1 == 5) = true then (xv.2.1 == 0) else false))))))
set_option linter.unusedSimpArgs false in
set_option linter.unusedVariables false in
theorem chkF_A (xv : Int × Int × List UInt8) (P : Bool → Prop) (h : P (chkM xv)) : chkF xv (fun k0 => P k0) := by
  unfold chkM at h
  unfold chkF
  refine ⟨fun hc0 => ?_, fun hc0 => ?_⟩
  · rw [if_t hc0] at h
    have hd0 := hc0; try simp only [Bool.and_eq_true, Bool.or_eq_true, Bool.and_eq_false_iff, Bool.or_eq_false_iff, Bool.not_eq_true', Bool.not_eq_false', decide_eq_true_eq, decide_eq_false_iff_not, beq_iff_eq, beq_eq_false_iff_ne, ne_eq] at hd0
    refine ⟨fun hc1 => ?_, fun hc1 => ?_⟩
    · skip
      have hd1 := hc1; try simp only [Bool.and_eq_true, Bool.or_eq_true, Bool.and_eq_false_iff, Bool.or_eq_false_iff, Bool.not_eq_true', Bool.not_eq_false', decide_eq_true_eq, decide_eq_false_iff_not, beq_iff_eq, beq_eq_false_iff_ne, ne_eq] at hd1
      exact chkj10_A xv _ h
    · skip
      have hd1 := hc1; try simp only [Bool.and_eq_true, Bool.or_eq_true, Bool.and_eq_false_iff, Bool.or_eq_false_iff, Bool.not_eq_true', Bool.not_eq_false', decide_eq_true_eq, decide_eq_false_iff_not, beq_iff_eq, beq_eq_false_iff_ne, ne_eq] at hd1
      exact chkj10_A xv _ h
  · rw [if_f hc0] at h
    have hd0 := hc0; try simp only [Bool.and_eq_true, Bool.or_eq_true, Bool.and_eq_false_iff, Bool.or_eq_false_iff, Bool.not_eq_true', Bool.not_eq_false', decide_eq_true_eq, decide_eq_false_iff_not, beq_iff_eq, beq_eq_false_iff_ne, ne_eq] at hd0
    refine ⟨fun hc1 => ?_, fun hc1 => ?_⟩
    · rw [if_t hc1] at h
      have hd1 := hc1; try simp only [Bool.and_eq_true, Bool.or_eq_true, Bool.and_eq_false_iff, Bool.or_eq_false_iff, Bool.not_eq_true', Bool.not_eq_false', decide_eq_true_eq, decide_eq_false_iff_not, beq_iff_eq, beq_eq_false_iff_ne, ne_eq] at hd1
      refine ⟨fun hc2 => ?_, fun hc2 => ?_⟩
      · skip
        exact chkj16_A xv _ h
      · skip
        exact chkj16_A xv _ h
    · rw [if_f hc1] at h
      have hd1 := hc1; try simp only [Bool.and_eq_true, Bool.or_eq_true, Bool.and_eq_false_iff, Bool.or_eq_false_iff, Bool.not_eq_true', Bool.not_eq_false', decide_eq_true_eq, decide_eq_false_iff_not, beq_iff_eq, beq_eq_false_iff_ne, ne_eq] at hd1
      refine ⟨fun hc2 => ?_, fun hc2 => ?_⟩
      · rw [if_t hc2] at h
        have hd2 := hc2; try simp only [Bool.and_eq_true, Bool.or_eq_true, Bool.and_eq_false_iff, Bool.or_eq_false_iff, Bool.not_eq_true', Bool.not_eq_false', decide_eq_true_eq, decide_eq_false_iff_not, beq_iff_eq, beq_eq_false_iff_ne, ne_eq] at hd2
        refine ⟨fun hc3 => ?_, fun hc3 => ?_⟩
        · skip
          exact chkj22_A xv _ h
        · skip
          exact chkj22_A xv _ h
      · rw [if_f hc2] at h
        have hd2 := hc2; try simp only [Bool.and_eq_true, Bool.or_eq_true, Bool.and_eq_false_iff, Bool.or_eq_false_iff, Bool.not_eq_true', Bool.not_eq_false', decide_eq_true_eq, decide_eq_false_iff_not, beq_iff_eq, beq_eq_false_iff_ne, ne_eq] at hd2
        refine ⟨fun hc3 => ?_, fun hc3 => ?_⟩
        · rw [if_t hc3] at h
          have hd3 := hc3; try simp only [Bool.and_eq_true, Bool.or_eq_true, Bool.and_eq_false_iff, Bool.or_eq_false_iff, Bool.not_eq_true', Bool.not_eq_false', decide_eq_true_eq, decide_eq_false_iff_not, beq_iff_eq, beq_eq_false_iff_ne, ne_eq] at hd3
          refine ⟨fun hc4 => ?_, fun hc4 => ?_⟩
          · skip
            have hd4 := of_decide_eq_true hc4
            exact chkj28_A xv _ h
          · skip
            have hd4 := of_decide_eq_false hc4
            exact chkj28_A xv _ h
        · rw [if_f hc3] at h
          have hd3 := hc3; try simp only [Bool.and_eq_true, Bool.or_eq_true, Bool.and_eq_false_iff, Bool.or_eq_false_iff, Bool.not_eq_true', Bool.not_eq_false', decide_eq_true_eq, decide_eq_false_iff_not, beq_iff_eq, beq_eq_false_iff_ne, ne_eq] at hd3
          refine ⟨fun hc4 => ?_, fun hc4 => ?_⟩
          · rw [if_t hc4] at h
            have hd4 := hc4; try simp only [Bool.and_eq_true, Bool.or_eq_true, Bool.and_eq_false_iff, Bool.or_eq_false_iff, Bool.not_eq_true', Bool.not_eq_false', decide_eq_true_eq, decide_eq_false_iff_not, beq_iff_eq, beq_eq_false_iff_ne, ne_eq] at hd4
            refine ⟨fun hc5 => ?_, fun hc5 => ?_⟩
            · skip
              have hd5 := of_decide_eq_true hc5
              exact chkj34_A xv _ h
            · skip
              have hd5 := of_decide_eq_false hc5
              exact chkj34_A xv _ h
          · rw [if_f hc4] at h
            have hd4 := hc4; try simp only [Bool.and_eq_true, Bool.or_eq_true, Bool.and_eq_false_iff, Bool.or_eq_false_iff, Bool.not_eq_true', Bool.not_eq_false', decide_eq_true_eq, decide_eq_false_iff_not, beq_iff_eq, beq_eq_false_iff_ne, ne_eq] at hd4
            refine ⟨fun hc5 => ?_, fun hc5 => ?_⟩
            · rw [if_t hc5] at h
              have hd5 := hc5; try simp only [Bool.and_eq_true, Bool.or_eq_true, Bool.and_eq_false_iff, Bool.or_eq_false_iff, Bool.not_eq_true', Bool.not_eq_false', decide_eq_true_eq, decide_eq_false_iff_not, beq_iff_eq, beq_eq_false_iff_ne, ne_eq] at hd5
              exact h
            · rw [if_f hc5] at h
              have hd5 := hc5; try simp only [Bool.and_eq_true, Bool.or_eq_true, Bool.and_eq_false_iff, Bool.or_eq_false_iff, Bool.not_eq_true', Bool.not_eq_false', decide_eq_true_eq, decide_eq_false_iff_not, beq_iff_eq, beq_eq_false_iff_ne, ne_eq] at hd5
              exact h
theorem chk_F (xv : Int × Int × List UInt8) : chkF xv (fun k0 => k0 = chkM xv) :=
  chkF_A xv (fun z => z = chkM xv) rfl
set_option linter.unusedVariables false in
theorem chk_c {g : Ghost} (xv : Int × Int × List UInt8)  : CallsG Tryd.prog 128 #[.agg #[.int .i64 xv.1, .int .i64 xv.2.1, .string ⟨⟨xv.2.2⟩⟩]] g (.bool (chkM xv)) :=
  (chk_ok xv _ (chk_F xv)).gives (by rintro g' H' v _ ⟨r0, rfl, rfl, hK⟩; subst hK; rfl)
def rightF (xv : Int × Int × List UInt8) (K : (Int × Int × List UInt8) → Prop) : Prop :=
  ((!(chkM xv)) = true → K (0, 0, ([] : List UInt8))) ∧ ((!(chkM xv)) = false → K xv)
set_option maxHeartbeats 4000000 in
set_option maxRecDepth 100000 in
set_option linter.unusedVariables false in
theorem right_ok {g : Ghost} (xv : Int × Int × List UInt8) (K : (Int × Int × List UInt8) → Prop)
    (hF : rightF xv K) : CallsH Tryd.prog 57 #[.agg #[.int .i64 xv.1, .int .i64 xv.2.1, .string ⟨⟨xv.2.2⟩⟩]] g [] (fun g' H' v => ∃ (r0 : Int × Int × List UInt8), v = .agg #[.int .i64 r0.1, .int .i64 r0.2.1, .string ⟨⟨r0.2.2⟩⟩] ∧ H' = [] ∧ K r0) := by
  refine CallsH.enter 8 [(0, .agg #[.int .i64 xv.1, .int .i64 xv.2.1, .string ⟨⟨xv.2.2⟩⟩])] Tryd.func57 rfl (by kernel_rfl) (by kernel_rfl) (by kernel_rfl) fun w0 => ?_
  refine Ok.seq ?_
  refine Ok.region ?_
  refine Ok.op rfl (OpOk.box (v := .agg #[.int .i64 xv.1, .int .i64 xv.2.1, .string ⟨⟨xv.2.2⟩⟩]) (cs := #[.int .i64 xv.1, .int .i64 xv.2.1, .string ⟨⟨xv.2.2⟩⟩]) rfl (by kernel_rfl) rfl fun b1 => ?_)
  refine Ok.op rfl (OpOk.alloc (z := .agg #[.int .i64 0, .int .i64 0, .string ⟨⟨([] : List UInt8)⟩⟩]) (cs := #[.int .i64 0, .int .i64 0, .string ⟨⟨([] : List UInt8)⟩⟩]) (by kernel_rfl) (by kernel_rfl) rfl fun b2 => ?_)
  refine Ok.nil ?_
  refine Ok.thenN ?_
  refine Ok.seq ?_
  refine Ok.seq ?_
  refine Ok.region ?_
  refine Ok.op rfl (OpOk.step (v := .agg #[.int .i64 xv.1, .int .i64 xv.2.1, .string ⟨⟨xv.2.2⟩⟩]) (Yields.loadAgg 1 3 #[.int .i64 xv.1, .int .i64 xv.2.1, .string ⟨⟨xv.2.2⟩⟩] rfl rfl Tryd.underlying31 rfl (by kernel_rfl) (by kernel_rfl) (by kernel_rfl)) rfl rfl ?_)
  refine Ok.op rfl (OpOk.callG (v := .bool (chkM xv)) (enters (by kernel_rfl) (fun _ => by kernel_rfl)) (fun W hW => chk_c xv) rfl ?_)
  refine Ok.batch 1 [(1, .pointer (some ⟨b1, 0, none⟩)), (2, .pointer (some ⟨b2, 0, none⟩)), (5, .bool (!(chkM xv)))] (by kernel_rfl) ?_
  refine Ok.nil ?_
  refine Ok.thenN ?_
  refine Ok.cond (b := !(chkM xv)) rfl (fun hc3 => ?_) (fun hc3 => ?_)
  · replace hF := hF.1 hc3
    refine Ok.seq ?_
    refine Ok.region ?_
    refine Ok.batch 1 [(2, .pointer (some ⟨b2, 0, none⟩)), (6, .agg #[.int .i64 0, .int .i64 0, .string ⟨⟨([] : List UInt8)⟩⟩])] (by kernel_rfl) ?_
    refine Ok.op rfl (OpOk.store (k := 3) (v := .agg #[.int .i64 0, .int .i64 0, .string ⟨⟨([] : List UInt8)⟩⟩]) (H' := [.blk b2 (.cells #[.int .i64 0, .int .i64 0, .string ⟨⟨([] : List UInt8)⟩⟩] 31), .blk b1 (.cells #[.int .i64 xv.1, .int .i64 xv.2.1, .string ⟨⟨xv.2.2⟩⟩] 31)]) 0 rfl rfl rfl (by kernel_rfl) (by kernel_rfl) (by kernel_rfl) (by kernel_rfl) (by kernel_rfl) ?_)
    refine Ok.nil ?_
    refine Ok.thenN ?_
    refine Ok.ret ?_
    refine Ok.thenR ?_
    exact Ok.resP (vs := [.agg #[.int .i64 0, .int .i64 0, .string ⟨⟨([] : List UInt8)⟩⟩]]) [] [] (by decide) rfl (.inl rfl) rfl (.cons (.cellAgg 0 3 #[.int .i64 0, .int .i64 0, .string ⟨⟨([] : List UInt8)⟩⟩] rfl rfl Tryd.underlying31 rfl (by kernel_rfl) (by kernel_rfl) (by kernel_rfl)) .nil) (Gext.refl w0 g) ⟨(0, 0, ([] : List UInt8)), rfl, rfl, hF⟩
  · replace hF := hF.2 hc3
    refine Ok.skip ?_
    refine Ok.thenN ?_
    refine Ok.seq ?_
    refine Ok.region ?_
    refine Ok.op rfl (OpOk.step (v := .agg #[.int .i64 xv.1, .int .i64 xv.2.1, .string ⟨⟨xv.2.2⟩⟩]) (Yields.loadAgg 1 3 #[.int .i64 xv.1, .int .i64 xv.2.1, .string ⟨⟨xv.2.2⟩⟩] rfl rfl Tryd.underlying31 rfl (by kernel_rfl) (by kernel_rfl) (by kernel_rfl)) rfl rfl ?_)
    refine Ok.op rfl (OpOk.store (k := 3) (v := .agg #[.int .i64 xv.1, .int .i64 xv.2.1, .string ⟨⟨xv.2.2⟩⟩]) (H' := [.blk b2 (.cells #[.int .i64 xv.1, .int .i64 xv.2.1, .string ⟨⟨xv.2.2⟩⟩] 31), .blk b1 (.cells #[.int .i64 xv.1, .int .i64 xv.2.1, .string ⟨⟨xv.2.2⟩⟩] 31)]) 0 rfl rfl rfl (by kernel_rfl) (by kernel_rfl) (by kernel_rfl) (by kernel_rfl) (by kernel_rfl) ?_)
    refine Ok.nil ?_
    refine Ok.thenN ?_
    refine Ok.ret ?_
    exact Ok.resP (vs := [.agg #[.int .i64 xv.1, .int .i64 xv.2.1, .string ⟨⟨xv.2.2⟩⟩]]) [] [] (by decide) rfl (.inl rfl) rfl (.cons (.cellAgg 0 3 #[.int .i64 xv.1, .int .i64 xv.2.1, .string ⟨⟨xv.2.2⟩⟩] rfl rfl Tryd.underlying31 rfl (by kernel_rfl) (by kernel_rfl) (by kernel_rfl)) .nil) (Gext.refl w0 g) ⟨xv, rfl, rfl, hF⟩
def rightM (xv : Int × Int × List UInt8) : (Int × Int × List UInt8) := (if (!(chkM xv)) = true then (0, 0, ([] : List UInt8)) else xv)
set_option linter.unusedSimpArgs false in
set_option linter.unusedVariables false in
theorem rightF_A (xv : Int × Int × List UInt8) (P : (Int × Int × List UInt8) → Prop) (h : P (rightM xv)) : rightF xv (fun k0 => P k0) := by
  unfold rightM at h
  unfold rightF
  refine ⟨fun hc0 => ?_, fun hc0 => ?_⟩
  · rw [if_t hc0] at h
    exact h
  · rw [if_f hc0] at h
    exact h
theorem right_F (xv : Int × Int × List UInt8) : rightF xv (fun k0 => k0 = rightM xv) :=
  rightF_A xv (fun z => z = rightM xv) rfl
set_option linter.unusedVariables false in
theorem right_c {g : Ghost} (xv : Int × Int × List UInt8)  : CallsG Tryd.prog 57 #[.agg #[.int .i64 xv.1, .int .i64 xv.2.1, .string ⟨⟨xv.2.2⟩⟩]] g (.agg #[.int .i64 (rightM xv).1, .int .i64 (rightM xv).2.1, .string ⟨⟨(rightM xv).2.2⟩⟩]) :=
  (right_ok xv _ (right_F xv)).gives (by rintro g' H' v _ ⟨r0, rfl, rfl, hK⟩; subst hK; rfl)
def truthj15 (xv : Int × Int × List UInt8) (K : Bool → Prop) : Prop :=
  ((((((rightM xv).1) == 1) || (((rightM xv).1) == 2))) = true → K ((((rightM xv).2).1) != 0)) ∧ ((((((rightM xv).1) == 1) || (((rightM xv).1) == 2))) = false → (((((rightM xv).1) == 3)) = true → K (!((((rightM xv).2).2) == ([] : List UInt8)))) ∧ (((((rightM xv).1) == 3)) = false → K true))
def truthF (xv : Int × Int × List UInt8) (K : Bool → Prop) : Prop :=
  (((((rightM xv).1) == 0)) = true → K false) ∧ (((((rightM xv).1) == 0)) = false → (((((rightM xv).1) == 1)) = true → truthj15 xv K) ∧ (((((rightM xv).1) == 1)) = false → truthj15 xv K))
set_option maxHeartbeats 4000000 in
set_option maxRecDepth 100000 in
set_option linter.unusedVariables false in
theorem truth_ok {g : Ghost} (xv : Int × Int × List UInt8) (K : Bool → Prop)
    (hF : truthF xv K) : CallsH Tryd.prog 59 #[.agg #[.int .i64 xv.1, .int .i64 xv.2.1, .string ⟨⟨xv.2.2⟩⟩]] g [] (fun g' H' v => ∃ (r0 : Bool), v = .bool r0 ∧ H' = [] ∧ K r0) := by
  refine CallsH.enter 20 [(0, .agg #[.int .i64 xv.1, .int .i64 xv.2.1, .string ⟨⟨xv.2.2⟩⟩])] Tryd.func59 rfl (by kernel_rfl) (by kernel_rfl) (by kernel_rfl) fun w0 => ?_
  refine Ok.seq ?_
  refine Ok.region ?_
  refine Ok.op rfl (OpOk.box (v := .agg #[.int .i64 xv.1, .int .i64 xv.2.1, .string ⟨⟨xv.2.2⟩⟩]) (cs := #[.int .i64 xv.1, .int .i64 xv.2.1, .string ⟨⟨xv.2.2⟩⟩]) rfl (by kernel_rfl) rfl fun b1 => ?_)
  refine Ok.batch 1 [(1, .pointer (some ⟨b1, 0, none⟩))] (by kernel_rfl) ?_
  refine Ok.nil ?_
  refine Ok.thenN ?_
  refine Ok.seq ?_
  refine Ok.seq ?_
  refine Ok.region ?_
  refine Ok.op rfl (OpOk.step (v := .agg #[.int .i64 xv.1, .int .i64 xv.2.1, .string ⟨⟨xv.2.2⟩⟩]) (Yields.loadAgg 0 3 #[.int .i64 xv.1, .int .i64 xv.2.1, .string ⟨⟨xv.2.2⟩⟩] rfl rfl Tryd.underlying31 rfl (by kernel_rfl) (by kernel_rfl) (by kernel_rfl)) rfl rfl ?_)
  refine Ok.op rfl (OpOk.callG (v := .agg #[.int .i64 ((rightM xv).1), .int .i64 (((rightM xv).2).1), .string ⟨⟨((rightM xv).2).2⟩⟩]) (enters (by kernel_rfl) (fun _ => by kernel_rfl)) (fun W hW => right_c xv) rfl ?_)
  refine Ok.op rfl (OpOk.store (k := 3) (v := .agg #[.int .i64 ((rightM xv).1), .int .i64 (((rightM xv).2).1), .string ⟨⟨((rightM xv).2).2⟩⟩]) (H' := [.blk b1 (.cells #[.int .i64 ((rightM xv).1), .int .i64 (((rightM xv).2).1), .string ⟨⟨((rightM xv).2).2⟩⟩] 31)]) 0 rfl rfl rfl (by kernel_rfl) (by kernel_rfl) (by kernel_rfl) (by kernel_rfl) (by kernel_rfl) ?_)
  refine Ok.nil ?_
  refine Ok.thenN ?_
  refine Ok.seq ?_
  refine Ok.region ?_
  refine Ok.batch 1 [(1, .pointer (some ⟨b1, 0, none⟩)), (5, .pointer (some ⟨b1, 0, none⟩))] (by kernel_rfl) ?_
  refine Ok.op rfl (OpOk.step (v := .int .i64 ((rightM xv).1)) (Yields.load 0 rfl rfl Tryd.underlying3 rfl (by kernel_rfl)) rfl rfl ?_)
  refine Ok.nil ?_
  refine Ok.thenN ?_
  refine Ok.block ?_
  refine Ok.seq ?_
  refine Ok.region ?_
  refine Ok.batch 2 [(1, .pointer (some ⟨b1, 0, none⟩)), (6, .int .i64 ((rightM xv).1)), (7, .bool (((rightM xv).1) == 0))] (by kernel_rfl) ?_
  refine Ok.nil ?_
  refine Ok.thenN ?_
  refine Ok.cond (b := (((rightM xv).1) == 0)) rfl (fun hc2 => ?_) (fun hc2 => ?_)
  · replace hF := hF.1 hc2
    refine Ok.seq ?_
    refine Ok.region ?_
    refine Ok.batch 1 [(2, .bool false)] (by kernel_rfl) ?_
    refine Ok.nil ?_
    refine Ok.thenN ?_
    refine Ok.ret ?_
    refine Ok.blockR ?_
    refine Ok.thenR ?_
    exact Ok.resP (vs := [.bool false]) [] [] (by decide) rfl (.inl rfl) rfl (.cons (.tmp rfl) .nil) (Gext.refl w0 g) ⟨false, rfl, rfl, hF⟩
  · replace hF := hF.2 hc2
    refine Ok.cut (fun a W => StA 20 [(1, .pointer (some ⟨b1, 0, none⟩)), (6, .int .i64 ((rightM xv).1)), (9, .bool ((((rightM xv).1) == 1) || (((rightM xv).1) == 2)))] a ∧ StW w0 [.blk b1 (.cells #[.int .i64 ((rightM xv).1), .int .i64 (((rightM xv).2).1), .string ⟨⟨((rightM xv).2).2⟩⟩] 31)] g W ∧ truthj15 xv K) ?_ ?_
    ·
      refine Ok.seq ?_
      refine Ok.region ?_
      refine Ok.batch 2 [(1, .pointer (some ⟨b1, 0, none⟩)), (6, .int .i64 ((rightM xv).1)), (9, .bool (((rightM xv).1) == 1))] (by kernel_rfl) ?_
      refine Ok.nil ?_
      refine Ok.thenN ?_
      refine Ok.cond (b := (((rightM xv).1) == 1)) rfl (fun hc5 => ?_) (fun hc5 => ?_)
      · replace hF := hF.1 hc5
        refine Ok.skip ?_
        refine Ok.thenN ?_
        refine Ok.reval 9 rfl (show (.bool (((rightM xv).1) == 1) : Value) = .bool ((((rightM xv).1) == 1) || (((rightM xv).1) == 2)) from congrArg (Value.bool) ((Eq.trans (hc5) (mor_t hc5)))) ?_
        exact fun a W hA hW => ⟨hA.sub (by kernel_rfl), hW, hF⟩
      · replace hF := hF.2 hc5
        refine Ok.region ?_
        refine Ok.batch 2 [(1, .pointer (some ⟨b1, 0, none⟩)), (6, .int .i64 ((rightM xv).1)), (9, .bool (((rightM xv).1) == 2))] (by kernel_rfl) ?_
        refine Ok.nil ?_
        refine Ok.thenN ?_
        refine Ok.reval 9 rfl (show (.bool (((rightM xv).1) == 2) : Value) = .bool ((((rightM xv).1) == 1) || (((rightM xv).1) == 2)) from congrArg (Value.bool) (mor_f hc5)) ?_
        exact fun a W hA hW => ⟨hA.sub (by kernel_rfl), hW, hF⟩
    ·
      rintro a W ⟨hA, hW, hF⟩
      refine (?_ : Ok _ _ _ _ _ _) a W hA hW
      clear hA hW
      refine Ok.cond (b := ((((rightM xv).1) == 1) || (((rightM xv).1) == 2))) rfl (fun hc3 => ?_) (fun hc3 => ?_)
      · replace hF := hF.1 hc3
        refine Ok.seq ?_
        refine Ok.region ?_
        refine Ok.batch 1 [(12, .pointer (some ⟨b1, 1, none⟩))] (by kernel_rfl) ?_
        refine Ok.op rfl (OpOk.step (v := .int .i64 (((rightM xv).2).1)) (Yields.load 0 rfl rfl Tryd.underlying3 rfl (by kernel_rfl)) rfl rfl ?_)
        refine Ok.batch 2 [(2, .bool ((((rightM xv).2).1) != 0))] (by kernel_rfl) ?_
        refine Ok.nil ?_
        refine Ok.thenN ?_
        refine Ok.ret ?_
        refine Ok.blockR ?_
        refine Ok.thenR ?_
        exact Ok.resP (vs := [.bool ((((rightM xv).2).1) != 0)]) [] [] (by decide) rfl (.inl rfl) rfl (.cons (.tmp rfl) .nil) (Gext.refl w0 g) ⟨((((rightM xv).2).1) != 0), rfl, rfl, hF⟩
      · replace hF := hF.2 hc3
        refine Ok.seq ?_
        refine Ok.region ?_
        refine Ok.batch 2 [(1, .pointer (some ⟨b1, 0, none⟩)), (15, .bool (((rightM xv).1) == 3))] (by kernel_rfl) ?_
        refine Ok.nil ?_
        refine Ok.thenN ?_
        refine Ok.cond (b := (((rightM xv).1) == 3)) rfl (fun hc4 => ?_) (fun hc4 => ?_)
        · replace hF := hF.1 hc4
          refine Ok.seq ?_
          refine Ok.region ?_
          refine Ok.batch 1 [(17, .pointer (some ⟨b1, 2, none⟩))] (by kernel_rfl) ?_
          refine Ok.op rfl (OpOk.step (v := .string ⟨⟨((rightM xv).2).2⟩⟩) (Yields.load 0 rfl rfl Tryd.underlying9 rfl (by kernel_rfl)) rfl rfl ?_)
          refine Ok.op rfl (OpOk.step (v := .bool (!((((rightM xv).2).2) == ([] : List UInt8)))) (Yields.strCmp (f := .neq) (a := (((rightM xv).2).2)) (b := ([] : List UInt8)) (by kernel_rfl) (by kernel_rfl) rfl) rfl rfl ?_)
          refine Ok.batch 1 [(2, .bool (!((((rightM xv).2).2) == ([] : List UInt8))))] (by kernel_rfl) ?_
          refine Ok.nil ?_
          refine Ok.thenN ?_
          refine Ok.ret ?_
          refine Ok.blockR ?_
          refine Ok.thenR ?_
          exact Ok.resP (vs := [.bool (!((((rightM xv).2).2) == ([] : List UInt8)))]) [] [] (by decide) rfl (.inl rfl) rfl (.cons (.tmp rfl) .nil) (Gext.refl w0 g) ⟨(!((((rightM xv).2).2) == ([] : List UInt8))), rfl, rfl, hF⟩
        · replace hF := hF.2 hc4
          refine Ok.skip ?_
          refine Ok.blockN ?_
          refine Ok.thenN ?_
          refine Ok.seq ?_
          refine Ok.region ?_
          refine Ok.batch 1 [(2, .bool true)] (by kernel_rfl) ?_
          refine Ok.nil ?_
          refine Ok.thenN ?_
          refine Ok.ret ?_
          exact Ok.resP (vs := [.bool true]) [] [] (by decide) rfl (.inl rfl) rfl (.cons (.tmp rfl) .nil) (Gext.refl w0 g) ⟨true, rfl, rfl, hF⟩
def truthj15M (xv : Int × Int × List UInt8) : Bool := (if ((((rightM xv).1) == 1) || (((rightM xv).1) == 2)) = true then ((((rightM xv).2).1) != 0) else (if (((rightM xv).1) == 3) = true then (!((((rightM xv).2).2) == ([] : List UInt8))) else true))
set_option linter.unusedSimpArgs false in
set_option linter.unusedVariables false in
theorem truthj15_A (xv : Int × Int × List UInt8) (P : Bool → Prop) (h : P (truthj15M xv)) : truthj15 xv (fun k0 => P k0) := by
  unfold truthj15M at h
  unfold truthj15
  refine ⟨fun hc0 => ?_, fun hc0 => ?_⟩
  · rw [if_t hc0] at h
    have hd0 := hc0; try simp only [Bool.and_eq_true, Bool.or_eq_true, Bool.and_eq_false_iff, Bool.or_eq_false_iff, Bool.not_eq_true', Bool.not_eq_false', decide_eq_true_eq, decide_eq_false_iff_not, beq_iff_eq, beq_eq_false_iff_ne, ne_eq] at hd0
    exact h
  · rw [if_f hc0] at h
    have hd0 := hc0; try simp only [Bool.and_eq_true, Bool.or_eq_true, Bool.and_eq_false_iff, Bool.or_eq_false_iff, Bool.not_eq_true', Bool.not_eq_false', decide_eq_true_eq, decide_eq_false_iff_not, beq_iff_eq, beq_eq_false_iff_ne, ne_eq] at hd0
    refine ⟨fun hc1 => ?_, fun hc1 => ?_⟩
    · rw [if_t hc1] at h
      have hd1 := hc1; try simp only [Bool.and_eq_true, Bool.or_eq_true, Bool.and_eq_false_iff, Bool.or_eq_false_iff, Bool.not_eq_true', Bool.not_eq_false', decide_eq_true_eq, decide_eq_false_iff_not, beq_iff_eq, beq_eq_false_iff_ne, ne_eq] at hd1
      exact h
    · rw [if_f hc1] at h
      have hd1 := hc1; try simp only [Bool.and_eq_true, Bool.or_eq_true, Bool.and_eq_false_iff, Bool.or_eq_false_iff, Bool.not_eq_true', Bool.not_eq_false', decide_eq_true_eq, decide_eq_false_iff_not, beq_iff_eq, beq_eq_false_iff_ne, ne_eq] at hd1
      exact h
def truthM (xv : Int × Int × List UInt8) : Bool := (if (((rightM xv).1) == 0) = true then false else (truthj15M xv))
set_option linter.unusedSimpArgs false in
set_option linter.unusedVariables false in
theorem truthF_A (xv : Int × Int × List UInt8) (P : Bool → Prop) (h : P (truthM xv)) : truthF xv (fun k0 => P k0) := by
  unfold truthM at h
  unfold truthF
  refine ⟨fun hc0 => ?_, fun hc0 => ?_⟩
  · rw [if_t hc0] at h
    have hd0 := hc0; try simp only [Bool.and_eq_true, Bool.or_eq_true, Bool.and_eq_false_iff, Bool.or_eq_false_iff, Bool.not_eq_true', Bool.not_eq_false', decide_eq_true_eq, decide_eq_false_iff_not, beq_iff_eq, beq_eq_false_iff_ne, ne_eq] at hd0
    exact h
  · rw [if_f hc0] at h
    have hd0 := hc0; try simp only [Bool.and_eq_true, Bool.or_eq_true, Bool.and_eq_false_iff, Bool.or_eq_false_iff, Bool.not_eq_true', Bool.not_eq_false', decide_eq_true_eq, decide_eq_false_iff_not, beq_iff_eq, beq_eq_false_iff_ne, ne_eq] at hd0
    refine ⟨fun hc1 => ?_, fun hc1 => ?_⟩
    · skip
      have hd1 := hc1; try simp only [Bool.and_eq_true, Bool.or_eq_true, Bool.and_eq_false_iff, Bool.or_eq_false_iff, Bool.not_eq_true', Bool.not_eq_false', decide_eq_true_eq, decide_eq_false_iff_not, beq_iff_eq, beq_eq_false_iff_ne, ne_eq] at hd1
      exact truthj15_A xv _ h
    · skip
      have hd1 := hc1; try simp only [Bool.and_eq_true, Bool.or_eq_true, Bool.and_eq_false_iff, Bool.or_eq_false_iff, Bool.not_eq_true', Bool.not_eq_false', decide_eq_true_eq, decide_eq_false_iff_not, beq_iff_eq, beq_eq_false_iff_ne, ne_eq] at hd1
      exact truthj15_A xv _ h
theorem truth_F (xv : Int × Int × List UInt8) : truthF xv (fun k0 => k0 = truthM xv) :=
  truthF_A xv (fun z => z = truthM xv) rfl
set_option linter.unusedVariables false in
theorem truth_c {g : Ghost} (xv : Int × Int × List UInt8)  : CallsG Tryd.prog 59 #[.agg #[.int .i64 xv.1, .int .i64 xv.2.1, .string ⟨⟨xv.2.2⟩⟩]] g (.bool (truthM xv)) :=
  (truth_ok xv _ (truth_F xv)).gives (by rintro g' H' v _ ⟨r0, rfl, rfl, hK⟩; subst hK; rfl)
theorem chk_kind {v : JV} (h : chkM v = true) : 0 ≤ v.1 ∧ v.1 < 6 := by
  unfold chkM at h
  by_cases h0 : 0 ≤ v.1 ∧ v.1 < 6
  · exact h0
  · rw [if_f (by simp; omega), if_f (by simp; omega), if_f (by simp; omega), if_f (by simp; omega), if_f (by simp; omega), if_f (by simp; omega)] at h
    cases h
theorem right_cases (v : JV) : (chkM v = true ∧ rightM v = v) ∨ (chkM v = false ∧ rightM v = (0, 0, [])) := by
  unfold rightM
  cases h : chkM v
  · exact .inr ⟨rfl, rfl⟩
  · exact .inl ⟨rfl, rfl⟩
theorem right_kind (v : JV) : 0 ≤ (rightM v).1 ∧ (rightM v).1 < 6 := by
  rcases right_cases v with ⟨h, e⟩ | ⟨h, e⟩
  · rw [e]; exact chk_kind h
  · rw [e]; decide
def textP (v : JV) : Prop := i64P v.2.1 ∧ v.2.2.length ≤ 140737488351232
theorem right_i64 {v : JV} (h : textP v) : i64P (rightM v).2.1 := by
  rcases right_cases v with ⟨_, e⟩ | ⟨_, e⟩
  · rw [e]; exact h.1
  · rw [e]; unfold i64P; decide
theorem right_len {v : JV} (h : textP v) : (rightM v).2.2.length ≤ 140737488351232 := by
  rcases right_cases v with ⟨_, e⟩ | ⟨_, e⟩
  · rw [e]; exact h.2
  · rw [e]; decide
def ifbF (xb : Bool) (K : (List UInt8) → Prop) : Prop :=
  ((xb) = true → K ([116, 114, 117, 101] : List UInt8)) ∧ ((xb) = false → K ([102, 97, 108, 115, 101] : List UInt8))
set_option maxHeartbeats 4000000 in
set_option maxRecDepth 100000 in
set_option linter.unusedVariables false in
theorem ifb_ok {g : Ghost} (xb : Bool) (K : (List UInt8) → Prop)
    (hF : ifbF xb K) : CallsH Tryd.prog 189 #[.bool xb] g [] (fun g' H' v => ∃ (r0 : List UInt8), v = .string ⟨⟨r0⟩⟩ ∧ H' = [] ∧ K r0) := by
  refine CallsH.enter 4 [(0, .bool xb)] Tryd.func189 rfl (by kernel_rfl) (by kernel_rfl) (by kernel_rfl) fun w0 => ?_
  refine Ok.seq ?_
  refine Ok.region ?_
  refine Ok.batch 1 [(0, .bool xb)] (by kernel_rfl) ?_
  refine Ok.nil ?_
  refine Ok.thenN ?_
  refine Ok.seq ?_
  refine Ok.seq ?_
  refine Ok.region ?_
  refine Ok.batch 1 [(3, .bool xb)] (by kernel_rfl) ?_
  refine Ok.nil ?_
  refine Ok.thenN ?_
  refine Ok.cond (b := xb) rfl (fun hc1 => ?_) (fun hc1 => ?_)
  · replace hF := hF.1 hc1
    refine Ok.seq ?_
    refine Ok.region ?_
    refine Ok.batch 1 [(2, .string ⟨⟨([116, 114, 117, 101] : List UInt8)⟩⟩)] (by kernel_rfl) ?_
    refine Ok.nil ?_
    refine Ok.thenN ?_
    refine Ok.ret ?_
    refine Ok.thenR ?_
    exact Ok.resH (vs := [.string ⟨⟨([116, 114, 117, 101] : List UInt8)⟩⟩]) (.inl rfl) rfl (.cons (.tmp rfl) .nil) (Gext.refl w0 g) ⟨([116, 114, 117, 101] : List UInt8), rfl, rfl, hF⟩
  · replace hF := hF.2 hc1
    refine Ok.skip ?_
    refine Ok.thenN ?_
    refine Ok.seq ?_
    refine Ok.region ?_
    refine Ok.batch 1 [(2, .string ⟨⟨([102, 97, 108, 115, 101] : List UInt8)⟩⟩)] (by kernel_rfl) ?_
    refine Ok.nil ?_
    refine Ok.thenN ?_
    refine Ok.ret ?_
    exact Ok.resH (vs := [.string ⟨⟨([102, 97, 108, 115, 101] : List UInt8)⟩⟩]) (.inl rfl) rfl (.cons (.tmp rfl) .nil) (Gext.refl w0 g) ⟨([102, 97, 108, 115, 101] : List UInt8), rfl, rfl, hF⟩
def ifbM (xb : Bool) : List UInt8 := (if xb = true then ([116, 114, 117, 101] : List UInt8) else ([102, 97, 108, 115, 101] : List UInt8))
set_option linter.unusedSimpArgs false in
set_option linter.unusedVariables false in
theorem ifbF_A (xb : Bool) (P : List UInt8 → Prop) (h : P (ifbM xb)) : ifbF xb (fun k0 => P k0) := by
  unfold ifbM at h
  unfold ifbF
  refine ⟨fun hc0 => ?_, fun hc0 => ?_⟩
  · rw [if_t hc0] at h
    exact h
  · rw [if_f hc0] at h
    exact h
theorem ifb_F (xb : Bool) : ifbF xb (fun k0 => k0 = ifbM xb) :=
  ifbF_A xb (fun z => z = ifbM xb) rfl
set_option linter.unusedVariables false in
theorem ifb_c {g : Ghost} (xb : Bool)  : CallsG Tryd.prog 189 #[.bool xb] g (.string ⟨⟨(ifbM xb)⟩⟩) :=
  (ifb_ok xb _ (ifb_F xb)).gives (by rintro g' H' v _ ⟨r0, rfl, rfl, hK⟩; subst hK; rfl)
def fbF (xb : Bool) (K : (List UInt8) → Prop) : Prop :=
  K (ifbM xb)
set_option maxHeartbeats 4000000 in
set_option maxRecDepth 100000 in
set_option linter.unusedVariables false in
theorem fb_ok {g : Ghost} (xb : Bool) (K : (List UInt8) → Prop)
    (hF : fbF xb K) : CallsH Tryd.prog 131 #[.bool xb] g [] (fun g' H' v => ∃ (r0 : List UInt8), v = .string ⟨⟨r0⟩⟩ ∧ H' = [] ∧ K r0) := by
  refine CallsH.enter 5 [(0, .bool xb)] Tryd.func131 rfl (by kernel_rfl) (by kernel_rfl) (by kernel_rfl) fun w0 => ?_
  refine Ok.seq ?_
  refine Ok.region ?_
  refine Ok.batch 1 [(0, .bool xb)] (by kernel_rfl) ?_
  refine Ok.nil ?_
  refine Ok.thenN ?_
  refine Ok.seq ?_
  refine Ok.region ?_
  refine Ok.batch 1 [(3, .bool xb)] (by kernel_rfl) ?_
  refine Ok.op rfl (OpOk.callG (v := .string ⟨⟨(ifbM xb)⟩⟩) (enters (by kernel_rfl) (fun _ => by kernel_rfl)) (fun W hW => ifb_c xb) rfl ?_)
  refine Ok.batch 1 [(2, .string ⟨⟨(ifbM xb)⟩⟩)] (by kernel_rfl) ?_
  refine Ok.nil ?_
  refine Ok.thenN ?_
  refine Ok.ret ?_
  exact Ok.resH (vs := [.string ⟨⟨(ifbM xb)⟩⟩]) (.inl rfl) rfl (.cons (.tmp rfl) .nil) (Gext.refl w0 g) ⟨(ifbM xb), rfl, rfl, hF⟩
def fbM (xb : Bool) : List UInt8 := (ifbM xb)
set_option linter.unusedSimpArgs false in
set_option linter.unusedVariables false in
theorem fbF_A (xb : Bool) (P : List UInt8 → Prop) (h : P (fbM xb)) : fbF xb (fun k0 => P k0) := by
  unfold fbM at h
  unfold fbF
  exact h
theorem fb_F (xb : Bool) : fbF xb (fun k0 => k0 = fbM xb) :=
  fbF_A xb (fun z => z = fbM xb) rfl
set_option linter.unusedVariables false in
theorem fb_c {g : Ghost} (xb : Bool)  : CallsG Tryd.prog 131 #[.bool xb] g (.string ⟨⟨(fbM xb)⟩⟩) :=
  (fb_ok xb _ (fb_F xb)).gives (by rintro g' H' v _ ⟨r0, rfl, rfl, hK⟩; subst hK; rfl)
def textF (xv : Int × Int × List UInt8) (K : (List UInt8) → Prop) : Prop :=
  (((((rightM xv).1) == 1)) = true → K (fbM ((((rightM xv).2).1) == 1))) ∧ (((((rightM xv).1) == 1)) = false → (((((rightM xv).1) == 2)) = true → i64P (((rightM xv).2).1) ∧ K (Lib.itoa (((rightM xv).2).1))) ∧ (((((rightM xv).1) == 2)) = false → (((((rightM xv).1) == 3)) = true → K (((rightM xv).2).2)) ∧ (((((rightM xv).1) == 3)) = false → (((((rightM xv).1) == 4)) = true → K ([91, 114, 101, 102, 93] : List UInt8)) ∧ (((((rightM xv).1) == 4)) = false → (((((rightM xv).1) == 5)) = true → ([91, 99, 97, 108, 108, 32] : List UInt8).length + (((rightM xv).2).2).length ≤ maxLen ∧ (([91, 99, 97, 108, 108, 32] : List UInt8) ++ (((rightM xv).2).2)).length + ([93] : List UInt8).length ≤ maxLen ∧ K ((([91, 99, 97, 108, 108, 32] : List UInt8) ++ (((rightM xv).2).2)) ++ ([93] : List UInt8))) ∧ (((((rightM xv).1) == 5)) = false → K ([110, 117, 108, 108] : List UInt8))))))
set_option maxHeartbeats 4000000 in
set_option maxRecDepth 100000 in
set_option linter.unusedVariables false in
theorem text_ok {g : Ghost} (xv : Int × Int × List UInt8) (hG5 : GlobL g 5 (.int .u64) DPow) (K : (List UInt8) → Prop)
    (hF : textF xv K) : CallsH Tryd.prog 62 #[.agg #[.int .i64 xv.1, .int .i64 xv.2.1, .string ⟨⟨xv.2.2⟩⟩]] g [] (fun g' H' v => ∃ (r0 : List UInt8), v = .string ⟨⟨r0⟩⟩ ∧ H' = [] ∧ K r0) := by
  refine CallsH.enter 30 [(0, .agg #[.int .i64 xv.1, .int .i64 xv.2.1, .string ⟨⟨xv.2.2⟩⟩])] Tryd.func62 rfl (by kernel_rfl) (by kernel_rfl) (by kernel_rfl) fun w0 => ?_
  refine Ok.seq ?_
  refine Ok.region ?_
  refine Ok.op rfl (OpOk.box (v := .agg #[.int .i64 xv.1, .int .i64 xv.2.1, .string ⟨⟨xv.2.2⟩⟩]) (cs := #[.int .i64 xv.1, .int .i64 xv.2.1, .string ⟨⟨xv.2.2⟩⟩]) rfl (by kernel_rfl) rfl fun b1 => ?_)
  refine Ok.batch 1 [(1, .pointer (some ⟨b1, 0, none⟩))] (by kernel_rfl) ?_
  refine Ok.nil ?_
  refine Ok.thenN ?_
  refine Ok.seq ?_
  refine Ok.seq ?_
  refine Ok.region ?_
  refine Ok.op rfl (OpOk.step (v := .agg #[.int .i64 xv.1, .int .i64 xv.2.1, .string ⟨⟨xv.2.2⟩⟩]) (Yields.loadAgg 0 3 #[.int .i64 xv.1, .int .i64 xv.2.1, .string ⟨⟨xv.2.2⟩⟩] rfl rfl Tryd.underlying31 rfl (by kernel_rfl) (by kernel_rfl) (by kernel_rfl)) rfl rfl ?_)
  refine Ok.op rfl (OpOk.callG (v := .agg #[.int .i64 ((rightM xv).1), .int .i64 (((rightM xv).2).1), .string ⟨⟨((rightM xv).2).2⟩⟩]) (enters (by kernel_rfl) (fun _ => by kernel_rfl)) (fun W hW => right_c xv) rfl ?_)
  refine Ok.op rfl (OpOk.store (k := 3) (v := .agg #[.int .i64 ((rightM xv).1), .int .i64 (((rightM xv).2).1), .string ⟨⟨((rightM xv).2).2⟩⟩]) (H' := [.blk b1 (.cells #[.int .i64 ((rightM xv).1), .int .i64 (((rightM xv).2).1), .string ⟨⟨((rightM xv).2).2⟩⟩] 31)]) 0 rfl rfl rfl (by kernel_rfl) (by kernel_rfl) (by kernel_rfl) (by kernel_rfl) (by kernel_rfl) ?_)
  refine Ok.nil ?_
  refine Ok.thenN ?_
  refine Ok.seq ?_
  refine Ok.region ?_
  refine Ok.batch 1 [(1, .pointer (some ⟨b1, 0, none⟩)), (5, .pointer (some ⟨b1, 0, none⟩))] (by kernel_rfl) ?_
  refine Ok.op rfl (OpOk.step (v := .int .i64 ((rightM xv).1)) (Yields.load 0 rfl rfl Tryd.underlying3 rfl (by kernel_rfl)) rfl rfl ?_)
  refine Ok.nil ?_
  refine Ok.thenN ?_
  refine Ok.block ?_
  refine Ok.seq ?_
  refine Ok.region ?_
  refine Ok.batch 2 [(1, .pointer (some ⟨b1, 0, none⟩)), (6, .int .i64 ((rightM xv).1)), (7, .bool (((rightM xv).1) == 1))] (by kernel_rfl) ?_
  refine Ok.nil ?_
  refine Ok.thenN ?_
  refine Ok.cond (b := (((rightM xv).1) == 1)) rfl (fun hc2 => ?_) (fun hc2 => ?_)
  · replace hF := hF.1 hc2
    refine Ok.seq ?_
    refine Ok.region ?_
    refine Ok.batch 1 [(9, .pointer (some ⟨b1, 1, none⟩))] (by kernel_rfl) ?_
    refine Ok.op rfl (OpOk.step (v := .int .i64 (((rightM xv).2).1)) (Yields.load 0 rfl rfl Tryd.underlying3 rfl (by kernel_rfl)) rfl rfl ?_)
    refine Ok.batch 1 [(11, .bool ((((rightM xv).2).1) == 1))] (by kernel_rfl) ?_
    refine Ok.op rfl (OpOk.callG (v := .string ⟨⟨(fbM ((((rightM xv).2).1) == 1))⟩⟩) (enters (by kernel_rfl) (fun _ => by kernel_rfl)) (fun W hW => fb_c ((((rightM xv).2).1) == 1)) rfl ?_)
    refine Ok.batch 1 [(2, .string ⟨⟨(fbM ((((rightM xv).2).1) == 1))⟩⟩)] (by kernel_rfl) ?_
    refine Ok.nil ?_
    refine Ok.thenN ?_
    refine Ok.ret ?_
    refine Ok.blockR ?_
    refine Ok.thenR ?_
    exact Ok.resP (vs := [.string ⟨⟨(fbM ((((rightM xv).2).1) == 1))⟩⟩]) [] [] (by decide) rfl (.inl rfl) rfl (.cons (.tmp rfl) .nil) (Gext.refl w0 g) ⟨(fbM ((((rightM xv).2).1) == 1)), rfl, rfl, hF⟩
  · replace hF := hF.2 hc2
    refine Ok.seq ?_
    refine Ok.region ?_
    refine Ok.batch 2 [(1, .pointer (some ⟨b1, 0, none⟩)), (6, .int .i64 ((rightM xv).1)), (13, .bool (((rightM xv).1) == 2))] (by kernel_rfl) ?_
    refine Ok.nil ?_
    refine Ok.thenN ?_
    refine Ok.cond (b := (((rightM xv).1) == 2)) rfl (fun hc3 => ?_) (fun hc3 => ?_)
    · replace hF := hF.1 hc3
      refine Ok.seq ?_
      refine Ok.region ?_
      refine Ok.batch 1 [(15, .pointer (some ⟨b1, 1, none⟩))] (by kernel_rfl) ?_
      refine Ok.op rfl (OpOk.step (v := .int .i64 (((rightM xv).2).1)) (Yields.load 0 rfl rfl Tryd.underlying3 rfl (by kernel_rfl)) rfl rfl ?_)
      obtain ⟨hp4, hF⟩ := hF
      refine Ok.op rfl (OpOk.callG (v := .string ⟨⟨(Lib.itoa (((rightM xv).2).1))⟩⟩) (enters (by kernel_rfl) (fun _ => by kernel_rfl)) (fun W hW => itoa_c (((rightM xv).2).1) (hG5.mono hW.sees) hp4) rfl ?_)
      refine Ok.batch 1 [(2, .string ⟨⟨(Lib.itoa (((rightM xv).2).1))⟩⟩)] (by kernel_rfl) ?_
      refine Ok.nil ?_
      refine Ok.thenN ?_
      refine Ok.ret ?_
      refine Ok.blockR ?_
      refine Ok.thenR ?_
      exact Ok.resP (vs := [.string ⟨⟨(Lib.itoa (((rightM xv).2).1))⟩⟩]) [] [] (by decide) rfl (.inl rfl) rfl (.cons (.tmp rfl) .nil) (Gext.refl w0 g) ⟨(Lib.itoa (((rightM xv).2).1)), rfl, rfl, hF⟩
    · replace hF := hF.2 hc3
      refine Ok.seq ?_
      refine Ok.region ?_
      refine Ok.batch 2 [(1, .pointer (some ⟨b1, 0, none⟩)), (6, .int .i64 ((rightM xv).1)), (18, .bool (((rightM xv).1) == 3))] (by kernel_rfl) ?_
      refine Ok.nil ?_
      refine Ok.thenN ?_
      refine Ok.cond (b := (((rightM xv).1) == 3)) rfl (fun hc5 => ?_) (fun hc5 => ?_)
      · replace hF := hF.1 hc5
        refine Ok.seq ?_
        refine Ok.region ?_
        refine Ok.batch 1 [(20, .pointer (some ⟨b1, 2, none⟩))] (by kernel_rfl) ?_
        refine Ok.op rfl (OpOk.step (v := .string ⟨⟨((rightM xv).2).2⟩⟩) (Yields.load 0 rfl rfl Tryd.underlying9 rfl (by kernel_rfl)) rfl rfl ?_)
        refine Ok.batch 1 [(2, .string ⟨⟨((rightM xv).2).2⟩⟩)] (by kernel_rfl) ?_
        refine Ok.nil ?_
        refine Ok.thenN ?_
        refine Ok.ret ?_
        refine Ok.blockR ?_
        refine Ok.thenR ?_
        exact Ok.resP (vs := [.string ⟨⟨((rightM xv).2).2⟩⟩]) [] [] (by decide) rfl (.inl rfl) rfl (.cons (.tmp rfl) .nil) (Gext.refl w0 g) ⟨(((rightM xv).2).2), rfl, rfl, hF⟩
      · replace hF := hF.2 hc5
        refine Ok.seq ?_
        refine Ok.region ?_
        refine Ok.batch 2 [(1, .pointer (some ⟨b1, 0, none⟩)), (6, .int .i64 ((rightM xv).1)), (22, .bool (((rightM xv).1) == 4))] (by kernel_rfl) ?_
        refine Ok.nil ?_
        refine Ok.thenN ?_
        refine Ok.cond (b := (((rightM xv).1) == 4)) rfl (fun hc6 => ?_) (fun hc6 => ?_)
        · replace hF := hF.1 hc6
          refine Ok.seq ?_
          refine Ok.region ?_
          refine Ok.batch 1 [(2, .string ⟨⟨([91, 114, 101, 102, 93] : List UInt8)⟩⟩)] (by kernel_rfl) ?_
          refine Ok.nil ?_
          refine Ok.thenN ?_
          refine Ok.ret ?_
          refine Ok.blockR ?_
          refine Ok.thenR ?_
          exact Ok.resP (vs := [.string ⟨⟨([91, 114, 101, 102, 93] : List UInt8)⟩⟩]) [] [] (by decide) rfl (.inl rfl) rfl (.cons (.tmp rfl) .nil) (Gext.refl w0 g) ⟨([91, 114, 101, 102, 93] : List UInt8), rfl, rfl, hF⟩
        · replace hF := hF.2 hc6
          refine Ok.seq ?_
          refine Ok.region ?_
          refine Ok.batch 2 [(1, .pointer (some ⟨b1, 0, none⟩)), (24, .bool (((rightM xv).1) == 5))] (by kernel_rfl) ?_
          refine Ok.nil ?_
          refine Ok.thenN ?_
          refine Ok.cond (b := (((rightM xv).1) == 5)) rfl (fun hc7 => ?_) (fun hc7 => ?_)
          · replace hF := hF.1 hc7
            refine Ok.seq ?_
            refine Ok.region ?_
            refine Ok.batch 1 [(26, .pointer (some ⟨b1, 2, none⟩))] (by kernel_rfl) ?_
            refine Ok.op rfl (OpOk.step (v := .string ⟨⟨((rightM xv).2).2⟩⟩) (Yields.load 0 rfl rfl Tryd.underlying9 rfl (by kernel_rfl)) rfl rfl ?_)
            obtain ⟨hv, hF⟩ := hF
            refine Ok.op rfl (OpOk.step (v := .string ⟨⟨([91, 99, 97, 108, 108, 32] : List UInt8) ++ (((rightM xv).2).2)⟩⟩) (Yields.strAdd rfl rfl hv) rfl rfl ?_)
            obtain ⟨hv, hF⟩ := hF
            refine Ok.op rfl (OpOk.step (v := .string ⟨⟨(([91, 99, 97, 108, 108, 32] : List UInt8) ++ (((rightM xv).2).2)) ++ ([93] : List UInt8)⟩⟩) (Yields.strAdd rfl rfl hv) rfl rfl ?_)
            refine Ok.batch 1 [(2, .string ⟨⟨(([91, 99, 97, 108, 108, 32] : List UInt8) ++ (((rightM xv).2).2)) ++ ([93] : List UInt8)⟩⟩)] (by kernel_rfl) ?_
            refine Ok.nil ?_
            refine Ok.thenN ?_
            refine Ok.ret ?_
            refine Ok.blockR ?_
            refine Ok.thenR ?_
            exact Ok.resP (vs := [.string ⟨⟨(([91, 99, 97, 108, 108, 32] : List UInt8) ++ (((rightM xv).2).2)) ++ ([93] : List UInt8)⟩⟩]) [] [] (by decide) rfl (.inl rfl) rfl (.cons (.tmp rfl) .nil) (Gext.refl w0 g) ⟨((([91, 99, 97, 108, 108, 32] : List UInt8) ++ (((rightM xv).2).2)) ++ ([93] : List UInt8)), rfl, rfl, hF⟩
          · replace hF := hF.2 hc7
            refine Ok.skip ?_
            refine Ok.blockN ?_
            refine Ok.thenN ?_
            refine Ok.seq ?_
            refine Ok.region ?_
            refine Ok.batch 1 [(2, .string ⟨⟨([110, 117, 108, 108] : List UInt8)⟩⟩)] (by kernel_rfl) ?_
            refine Ok.nil ?_
            refine Ok.thenN ?_
            refine Ok.ret ?_
            exact Ok.resP (vs := [.string ⟨⟨([110, 117, 108, 108] : List UInt8)⟩⟩]) [] [] (by decide) rfl (.inl rfl) rfl (.cons (.tmp rfl) .nil) (Gext.refl w0 g) ⟨([110, 117, 108, 108] : List UInt8), rfl, rfl, hF⟩
def textM (xv : Int × Int × List UInt8) : List UInt8 := (if (((rightM xv).1) == 1) = true then (fbM ((((rightM xv).2).1) == 1)) else (if (((rightM xv).1) == 2) = true then (Lib.itoa (((rightM xv).2).1)) else (if (((rightM xv).1) == 3) = true then (((rightM xv).2).2) else (if (((rightM xv).1) == 4) = true then ([91, 114, 101, 102, 93] : List UInt8) else (if (((rightM xv).1) == 5) = true then ((([91, 99, 97, 108, 108, 32] : List UInt8) ++ (((rightM xv).2).2)) ++ ([93] : List UInt8)) else ([110, 117, 108, 108] : List UInt8))))))
set_option linter.unusedSimpArgs false in
set_option linter.unusedVariables false in
theorem textF_A (xv : Int × Int × List UInt8) (hp : textP xv) (P : List UInt8 → Prop) (h : P (textM xv)) : textF xv (fun k0 => P k0) := by
  unfold textM at h
  unfold textF
  refine ⟨fun hc0 => ?_, fun hc0 => ?_⟩
  · rw [if_t hc0] at h
    have hd0 := hc0; try simp only [Bool.and_eq_true, Bool.or_eq_true, Bool.and_eq_false_iff, Bool.or_eq_false_iff, Bool.not_eq_true', Bool.not_eq_false', decide_eq_true_eq, decide_eq_false_iff_not, beq_iff_eq, beq_eq_false_iff_ne, ne_eq] at hd0
    exact h
  · rw [if_f hc0] at h
    have hd0 := hc0; try simp only [Bool.and_eq_true, Bool.or_eq_true, Bool.and_eq_false_iff, Bool.or_eq_false_iff, Bool.not_eq_true', Bool.not_eq_false', decide_eq_true_eq, decide_eq_false_iff_not, beq_iff_eq, beq_eq_false_iff_ne, ne_eq] at hd0
    refine ⟨fun hc1 => ?_, fun hc1 => ?_⟩
    · rw [if_t hc1] at h
      have hd1 := hc1; try simp only [Bool.and_eq_true, Bool.or_eq_true, Bool.and_eq_false_iff, Bool.or_eq_false_iff, Bool.not_eq_true', Bool.not_eq_false', decide_eq_true_eq, decide_eq_false_iff_not, beq_iff_eq, beq_eq_false_iff_ne, ne_eq] at hd1
      refine ⟨?_, ?_⟩
      · first | (have := right_len hp; rw [maxLen_eq]; simp only [List.length_cons, List.length_nil, List.length_append]; omega) | exact right_i64 hp | omega | assumption | exact trivial | (simp; omega) | (simp at *; omega)
      exact h
    · rw [if_f hc1] at h
      have hd1 := hc1; try simp only [Bool.and_eq_true, Bool.or_eq_true, Bool.and_eq_false_iff, Bool.or_eq_false_iff, Bool.not_eq_true', Bool.not_eq_false', decide_eq_true_eq, decide_eq_false_iff_not, beq_iff_eq, beq_eq_false_iff_ne, ne_eq] at hd1
      refine ⟨fun hc2 => ?_, fun hc2 => ?_⟩
      · rw [if_t hc2] at h
        have hd2 := hc2; try simp only [Bool.and_eq_true, Bool.or_eq_true, Bool.and_eq_false_iff, Bool.or_eq_false_iff, Bool.not_eq_true', Bool.not_eq_false', decide_eq_true_eq, decide_eq_false_iff_not, beq_iff_eq, beq_eq_false_iff_ne, ne_eq] at hd2
        exact h
      · rw [if_f hc2] at h
        have hd2 := hc2; try simp only [Bool.and_eq_true, Bool.or_eq_true, Bool.and_eq_false_iff, Bool.or_eq_false_iff, Bool.not_eq_true', Bool.not_eq_false', decide_eq_true_eq, decide_eq_false_iff_not, beq_iff_eq, beq_eq_false_iff_ne, ne_eq] at hd2
        refine ⟨fun hc3 => ?_, fun hc3 => ?_⟩
        · rw [if_t hc3] at h
          have hd3 := hc3; try simp only [Bool.and_eq_true, Bool.or_eq_true, Bool.and_eq_false_iff, Bool.or_eq_false_iff, Bool.not_eq_true', Bool.not_eq_false', decide_eq_true_eq, decide_eq_false_iff_not, beq_iff_eq, beq_eq_false_iff_ne, ne_eq] at hd3
          exact h
        · rw [if_f hc3] at h
          have hd3 := hc3; try simp only [Bool.and_eq_true, Bool.or_eq_true, Bool.and_eq_false_iff, Bool.or_eq_false_iff, Bool.not_eq_true', Bool.not_eq_false', decide_eq_true_eq, decide_eq_false_iff_not, beq_iff_eq, beq_eq_false_iff_ne, ne_eq] at hd3
          refine ⟨fun hc4 => ?_, fun hc4 => ?_⟩
          · rw [if_t hc4] at h
            have hd4 := hc4; try simp only [Bool.and_eq_true, Bool.or_eq_true, Bool.and_eq_false_iff, Bool.or_eq_false_iff, Bool.not_eq_true', Bool.not_eq_false', decide_eq_true_eq, decide_eq_false_iff_not, beq_iff_eq, beq_eq_false_iff_ne, ne_eq] at hd4
            refine ⟨?_, ?_⟩
            · first | (have := right_len hp; rw [maxLen_eq]; simp only [List.length_cons, List.length_nil, List.length_append]; omega) | exact right_i64 hp | omega | assumption | exact trivial | (simp; omega) | (simp at *; omega)
            refine ⟨?_, ?_⟩
            · first | (have := right_len hp; rw [maxLen_eq]; simp only [List.length_cons, List.length_nil, List.length_append]; omega) | exact right_i64 hp | omega | assumption | exact trivial | (simp; omega) | (simp at *; omega)
            exact h
          · rw [if_f hc4] at h
            have hd4 := hc4; try simp only [Bool.and_eq_true, Bool.or_eq_true, Bool.and_eq_false_iff, Bool.or_eq_false_iff, Bool.not_eq_true', Bool.not_eq_false', decide_eq_true_eq, decide_eq_false_iff_not, beq_iff_eq, beq_eq_false_iff_ne, ne_eq] at hd4
            exact h
theorem text_F (xv : Int × Int × List UInt8) (hp : textP xv) : textF xv (fun k0 => k0 = textM xv) :=
  textF_A xv hp (fun z => z = textM xv) rfl
set_option linter.unusedVariables false in
theorem text_c {g : Ghost} (xv : Int × Int × List UInt8) (hG5 : GlobL g 5 (.int .u64) DPow)  (hp : textP xv) : CallsG Tryd.prog 62 #[.agg #[.int .i64 xv.1, .int .i64 xv.2.1, .string ⟨⟨xv.2.2⟩⟩]] g (.string ⟨⟨(textM xv)⟩⟩) :=
  (text_ok xv hG5 _ (text_F xv hp)).gives (by rintro g' H' v _ ⟨r0, rfl, rfl, hK⟩; subst hK; rfl)
def btwF (xn : Int) (xlow : Int) (xhigh : Int) (K : Bool → Prop) : Prop :=
  K ((decide (xlow ≤ xn)) && (decide (xn ≤ xhigh)))
set_option maxHeartbeats 4000000 in
set_option maxRecDepth 100000 in
set_option linter.unusedVariables false in
theorem btw_ok {g : Ghost} (xn : Int) (xlow : Int) (xhigh : Int) (K : Bool → Prop)
    (hF : btwF xn xlow xhigh K) : CallsH Tryd.prog 89 #[.int .i64 xn, .int .i64 xlow, .int .i64 xhigh] g [] (fun g' H' v => ∃ (r0 : Bool), v = .bool r0 ∧ H' = [] ∧ K r0) := by
  refine CallsH.enter 15 [(0, .int .i64 xn), (1, .int .i64 xlow), (2, .int .i64 xhigh)] Tryd.func89 rfl (by kernel_rfl) (by kernel_rfl) (by kernel_rfl) fun w0 => ?_
  refine Ok.seq ?_
  refine Ok.region ?_
  refine Ok.batch 1 [(0, .int .i64 xn), (1, .int .i64 xlow), (2, .int .i64 xhigh)] (by kernel_rfl) ?_
  refine Ok.nil ?_
  refine Ok.thenN ?_
  refine Ok.seq ?_
  refine Ok.region ?_
  refine Ok.batch 4 [(0, .int .i64 xn), (2, .int .i64 xhigh), (10, .bool (decide (xlow ≤ xn)))] (by kernel_rfl) ?_
  refine Ok.midway 4 [(14, .bool ((decide (xlow ≤ xn)) && (decide (xn ≤ xhigh))))] (fun hR1 => ?_) ?_
  · refine Ok.boolAt 10 (decide (xlow ≤ xn)) rfl (fun hc2 => ?_) (fun hc2 => ?_)
    · skip
      refine Ok.batch 4 [(14, .bool (decide (xn ≤ xhigh)))] (by kernel_rfl) ?_
      refine Ok.reval 14 rfl (show (.bool (decide (xn ≤ xhigh)) : Value) = .bool ((decide (xlow ≤ xn)) && (decide (xn ≤ xhigh))) from congrArg Value.bool (mand_t hc2)) ?_
      refine Ok.batch 0 [(14, .bool ((decide (xlow ≤ xn)) && (decide (xn ≤ xhigh))))] (by kernel_rfl) ?_
      exact hR1
    · skip
      refine Ok.batch 4 [(14, .bool false)] (by kernel_rfl) ?_
      refine Ok.reval 14 rfl (show (.bool false : Value) = .bool ((decide (xlow ≤ xn)) && (decide (xn ≤ xhigh))) from congrArg Value.bool (mand_f hc2)) ?_
      refine Ok.batch 0 [(14, .bool ((decide (xlow ≤ xn)) && (decide (xn ≤ xhigh))))] (by kernel_rfl) ?_
      exact hR1
  refine Ok.batch 1 [(6, .bool ((decide (xlow ≤ xn)) && (decide (xn ≤ xhigh))))] (by kernel_rfl) ?_
  refine Ok.nil ?_
  refine Ok.thenN ?_
  refine Ok.ret ?_
  exact Ok.resH (vs := [.bool ((decide (xlow ≤ xn)) && (decide (xn ≤ xhigh)))]) (.inl rfl) rfl (.cons (.tmp rfl) .nil) (Gext.refl w0 g) ⟨((decide (xlow ≤ xn)) && (decide (xn ≤ xhigh))), rfl, rfl, hF⟩
def btwM (xn : Int) (xlow : Int) (xhigh : Int) : Bool := ((decide (xlow ≤ xn)) && (decide (xn ≤ xhigh)))
set_option linter.unusedSimpArgs false in
set_option linter.unusedVariables false in
theorem btwF_A (xn : Int) (xlow : Int) (xhigh : Int) (P : Bool → Prop) (h : P (btwM xn xlow xhigh)) : btwF xn xlow xhigh (fun k0 => P k0) := by
  unfold btwM at h
  unfold btwF
  exact h
theorem btw_F (xn : Int) (xlow : Int) (xhigh : Int) : btwF xn xlow xhigh (fun k0 => k0 = btwM xn xlow xhigh) :=
  btwF_A xn xlow xhigh (fun z => z = btwM xn xlow xhigh) rfl
set_option linter.unusedVariables false in
theorem btw_c {g : Ghost} (xn : Int) (xlow : Int) (xhigh : Int)  : CallsG Tryd.prog 89 #[.int .i64 xn, .int .i64 xlow, .int .i64 xhigh] g (.bool (btwM xn xlow xhigh)) :=
  (btw_ok xn xlow xhigh _ (btw_F xn xlow xhigh)).gives (by rintro g' H' v _ ⟨r0, rfl, rfl, hK⟩; subst hK; rfl)
def vrj5 (xv : Int × Int × List UInt8) (K : Bool → Prop) : Prop :=
  K ([(xv.1 == xv.1), (xv.2.1 == 0), (xv.2.2 == (if (xv.1 == 0) = true then ([] : List UInt8) else xv.2.2))].all id)
def vrj16 (xv : Int × Int × List UInt8) (K : Bool → Prop) : Prop :=
  K (([(xv.1 == xv.1), (xv.2.1 == 0), (xv.2.2 == ([] : List UInt8))].all id) || ([(xv.1 == 1), (xv.2.1 == 1), (xv.2.2 == ([] : List UInt8))].all id))
def vrj24 (xv : Int × Int × List UInt8) (K : Bool → Prop) : Prop :=
  K (([(xv.1 == xv.1), (xv.2.1 == xv.2.1), (xv.2.2 == ([] : List UInt8))].all id) && (btwM xv.2.1 (-9007199254740992) 9007199254740992))
def vrj32 (xv : Int × Int × List UInt8) (K : Bool → Prop) : Prop :=
  K (([(xv.1 == xv.1), (xv.2.1 == 0), (xv.2.2 == xv.2.2)].all id) && (decide ((xv.2.2.length : Int) ≤ 2000)))
def vrj40 (xv : Int × Int × List UInt8) (K : Bool → Prop) : Prop :=
  K (([(xv.1 == xv.1), (xv.2.1 == xv.2.1), (xv.2.2 == ([] : List UInt8))].all id) && (decide (xv.2.1 > (-1))))
def vrF (xv : Int × Int × List UInt8) (K : Bool → Prop) : Prop :=
  (((xv.1 == 0)) = true → vrj5 xv K) ∧ (((xv.1 == 0)) = false → (((xv.1 == 1)) = true → ((([(xv.1 == xv.1), (xv.2.1 == 0), (xv.2.2 == ([] : List UInt8))].all id)) = true → vrj16 xv K) ∧ ((([(xv.1 == xv.1), (xv.2.1 == 0), (xv.2.2 == ([] : List UInt8))].all id)) = false → vrj16 xv K)) ∧ (((xv.1 == 1)) = false → (((xv.1 == 2)) = true → ((([(xv.1 == xv.1), (xv.2.1 == xv.2.1), (xv.2.2 == ([] : List UInt8))].all id)) = true → vrj24 xv K) ∧ ((([(xv.1 == xv.1), (xv.2.1 == xv.2.1), (xv.2.2 == ([] : List UInt8))].all id)) = false → vrj24 xv K)) ∧ (((xv.1 == 2)) = false → (((xv.1 == 3)) = true → ((([(xv.1 == xv.1), (xv.2.1 == 0), (xv.2.2 == xv.2.2)].all id)) = true → vrj32 xv K) ∧ ((([(xv.1 == xv.1), (xv.2.1 == 0), (xv.2.2 == xv.2.2)].all id)) = false → vrj32 xv K)) ∧ (((xv.1 == 3)) = false → (((xv.1 == 4)) = true → ((([(xv.1 == xv.1), (xv.2.1 == xv.2.1), (xv.2.2 == ([] : List UInt8))].all id)) = true → vrj40 xv K) ∧ ((([(xv.1 == xv.1), (xv.2.1 == xv.2.1), (xv.2.2 == ([] : List UInt8))].all id)) = false → vrj40 xv K)) ∧ (((xv.1 == 4)) = false → (((xv.1 == 5)) = true → vrj5 xv K) ∧ (((xv.1 == 5)) = false → K false))))))
set_option maxHeartbeats 4000000 in
set_option maxRecDepth 100000 in
set_option linter.unusedVariables false in
theorem vr_ok {g : Ghost} (xv : Int × Int × List UInt8) (K : Bool → Prop)
    (hF : vrF xv K) : CallsH Tryd.prog 135 #[.agg #[.int .i64 xv.1, .int .i64 xv.2.1, .string ⟨⟨xv.2.2⟩⟩]] g [] (fun g' H' v => ∃ (r0 : Bool), v = .bool r0 ∧ H' = [] ∧ K r0) := by
  refine CallsH.enter 69 [(0, .agg #[.int .i64 xv.1, .int .i64 xv.2.1, .string ⟨⟨xv.2.2⟩⟩])] Tryd.func135 rfl (by kernel_rfl) (by kernel_rfl) (by kernel_rfl) fun w0 => ?_
  refine Ok.seq ?_
  refine Ok.region ?_
  refine Ok.op rfl (OpOk.box (v := .agg #[.int .i64 xv.1, .int .i64 xv.2.1, .string ⟨⟨xv.2.2⟩⟩]) (cs := #[.int .i64 xv.1, .int .i64 xv.2.1, .string ⟨⟨xv.2.2⟩⟩]) rfl (by kernel_rfl) rfl fun b1 => ?_)
  refine Ok.batch 1 [(1, .pointer (some ⟨b1, 0, none⟩))] (by kernel_rfl) ?_
  refine Ok.nil ?_
  refine Ok.thenN ?_
  refine Ok.seq ?_
  refine Ok.region ?_
  refine Ok.batch 1 [(1, .pointer (some ⟨b1, 0, none⟩)), (4, .pointer (some ⟨b1, 0, none⟩))] (by kernel_rfl) ?_
  refine Ok.op rfl (OpOk.step (v := .int .i64 xv.1) (Yields.load 0 rfl rfl Tryd.underlying3 rfl (by kernel_rfl)) rfl rfl ?_)
  refine Ok.batch 1 [(1, .pointer (some ⟨b1, 0, none⟩)), (6, .agg #[.int .i64 xv.1, .int .i64 0, .string ⟨⟨([] : List UInt8)⟩⟩])] (by kernel_rfl) ?_
  refine Ok.op rfl (OpOk.alloc (z := .agg #[.int .i64 0, .int .i64 0, .string ⟨⟨([] : List UInt8)⟩⟩]) (cs := #[.int .i64 0, .int .i64 0, .string ⟨⟨([] : List UInt8)⟩⟩]) (by kernel_rfl) (by kernel_rfl) rfl fun b2 => ?_)
  refine Ok.op rfl (OpOk.store (k := 3) (v := .agg #[.int .i64 xv.1, .int .i64 0, .string ⟨⟨([] : List UInt8)⟩⟩]) (H' := [.blk b2 (.cells #[.int .i64 xv.1, .int .i64 0, .string ⟨⟨([] : List UInt8)⟩⟩] 31), .blk b1 (.cells #[.int .i64 xv.1, .int .i64 xv.2.1, .string ⟨⟨xv.2.2⟩⟩] 31)]) 0 rfl rfl rfl (by kernel_rfl) (by kernel_rfl) (by kernel_rfl) (by kernel_rfl) (by kernel_rfl) ?_)
  refine Ok.nil ?_
  refine Ok.thenN ?_
  refine Ok.cut (fun a W => StA 69 [(1, .pointer (some ⟨b1, 0, none⟩)), (3, .pointer (some ⟨b2, 0, none⟩))] a ∧ StW w0 [.blk b2 (.cells #[.int .i64 xv.1, .int .i64 0, .string ⟨⟨(if (xv.1 == 0) = true then ([] : List UInt8) else xv.2.2)⟩⟩] 31), .blk b1 (.cells #[.int .i64 xv.1, .int .i64 xv.2.1, .string ⟨⟨xv.2.2⟩⟩] 31)] g W ∧ vrj5 xv K) ?_ ?_
  ·
    refine Ok.seq ?_
    refine Ok.region ?_
    refine Ok.batch 1 [(1, .pointer (some ⟨b1, 0, none⟩)), (3, .pointer (some ⟨b2, 0, none⟩)), (7, .pointer (some ⟨b1, 0, none⟩))] (by kernel_rfl) ?_
    refine Ok.op rfl (OpOk.step (v := .int .i64 xv.1) (Yields.load 1 rfl rfl Tryd.underlying3 rfl (by kernel_rfl)) rfl rfl ?_)
    refine Ok.nil ?_
    refine Ok.thenN ?_
    refine Ok.block ?_
    refine Ok.seq ?_
    refine Ok.region ?_
    refine Ok.batch 2 [(1, .pointer (some ⟨b1, 0, none⟩)), (3, .pointer (some ⟨b2, 0, none⟩)), (8, .int .i64 xv.1), (9, .bool (xv.1 == 0))] (by kernel_rfl) ?_
    refine Ok.nil ?_
    refine Ok.thenN ?_
    refine Ok.cond (b := (xv.1 == 0)) rfl (fun hc3 => ?_) (fun hc3 => ?_)
    · replace hF := hF.1 hc3
      refine Ok.skip ?_
      refine Ok.blockN ?_
      refine Ok.thenN ?_
      refine Ok.heapEq (H' := [.blk b2 (.cells #[.int .i64 xv.1, .int .i64 0, .string ⟨⟨(if (xv.1 == 0) = true then ([] : List UInt8) else xv.2.2)⟩⟩] 31), .blk b1 (.cells #[.int .i64 xv.1, .int .i64 xv.2.1, .string ⟨⟨xv.2.2⟩⟩] 31)]) (econs (congrArg (fun l : List Value => Ent.blk b2 (.cells ⟨l⟩ 31)) (lcons (rfl) (lcons (rfl) (lcons (congrArg ((fun s : List UInt8 => Value.string ⟨⟨s⟩⟩)) ((if_t hc3).symm)) rfl)))) (econs (rfl) rfl)) ?_
      exact fun a W hA hW => ⟨hA.sub (by kernel_rfl), hW, hF⟩
    · replace hF := hF.2 hc3
      refine Ok.seq ?_
      refine Ok.region ?_
      refine Ok.batch 2 [(1, .pointer (some ⟨b1, 0, none⟩)), (3, .pointer (some ⟨b2, 0, none⟩)), (8, .int .i64 xv.1), (11, .bool (xv.1 == 1))] (by kernel_rfl) ?_
      refine Ok.nil ?_
      refine Ok.thenN ?_
      refine Ok.cond (b := (xv.1 == 1)) rfl (fun hc4 => ?_) (fun hc4 => ?_)
      · replace hF := hF.1 hc4
        refine Ok.cut (fun a W => StA 69 [(2, .bool (([(xv.1 == xv.1), (xv.2.1 == 0), (xv.2.2 == ([] : List UInt8))].all id) || ([(xv.1 == 1), (xv.2.1 == 1), (xv.2.2 == ([] : List UInt8))].all id)))] a ∧ StW w0 [] g W ∧ vrj16 xv K) ?_ ?_
        ·
          refine Ok.region ?_
          refine Ok.op rfl (OpOk.step (v := .agg #[.int .i64 xv.1, .int .i64 xv.2.1, .string ⟨⟨xv.2.2⟩⟩]) (Yields.loadAgg 1 3 #[.int .i64 xv.1, .int .i64 xv.2.1, .string ⟨⟨xv.2.2⟩⟩] rfl rfl Tryd.underlying31 rfl (by kernel_rfl) (by kernel_rfl) (by kernel_rfl)) rfl rfl ?_)
          refine Ok.op rfl (OpOk.step (v := .agg #[.int .i64 xv.1, .int .i64 0, .string ⟨⟨([] : List UInt8)⟩⟩]) (Yields.loadAgg 0 3 #[.int .i64 xv.1, .int .i64 0, .string ⟨⟨([] : List UInt8)⟩⟩] rfl rfl Tryd.underlying31 rfl (by kernel_rfl) (by kernel_rfl) (by kernel_rfl)) rfl rfl ?_)
          refine Ok.op rfl (OpOk.step (v := .bool ([(xv.1 == xv.1), (xv.2.1 == 0), (xv.2.2 == ([] : List UInt8))].all id)) (Yields.eqAgg (k := 2) rfl rfl (.struct (k := 1) Tryd.underlying31 (by kernel_rfl) ⟨by decide, ⟨.int .i64 xv.1, .int .i64 xv.1, fun _ => by kernel_rfl, fun _ => by kernel_rfl, EqR.mono (k := 1) (.int Tryd.underlying3) (by decide)⟩, ⟨by decide, ⟨.int .i64 xv.2.1, .int .i64 0, fun _ => by kernel_rfl, fun _ => by kernel_rfl, EqR.mono (k := 1) (.int Tryd.underlying3) (by decide)⟩, ⟨by decide, ⟨.string ⟨⟨xv.2.2⟩⟩, .string ⟨⟨([] : List UInt8)⟩⟩, fun _ => by kernel_rfl, fun _ => by kernel_rfl, EqR.mono (k := 1) (.str Tryd.underlying9) (by decide)⟩, trivial⟩⟩⟩) rfl (by kernel_rfl)) rfl rfl ?_)
          refine Ok.batch 1 [(1, .pointer (some ⟨b1, 0, none⟩)), (16, .bool ([(xv.1 == xv.1), (xv.2.1 == 0), (xv.2.2 == ([] : List UInt8))].all id))] (by kernel_rfl) ?_
          refine Ok.boolAt 16 (([(xv.1 == xv.1), (xv.2.1 == 0), (xv.2.2 == ([] : List UInt8))].all id)) rfl (fun hc5 => ?_) (fun hc5 => ?_)
          · replace hF := hF.1 hc5
            refine Ok.batch 5 [(2, .bool true)] (by kernel_rfl) ?_
            refine Ok.nil ?_
            refine Ok.thenN ?_
            refine Ok.reval 2 rfl (show (.bool true : Value) = .bool (([(xv.1 == xv.1), (xv.2.1 == 0), (xv.2.2 == ([] : List UInt8))].all id) || ([(xv.1 == 1), (xv.2.1 == 1), (xv.2.2 == ([] : List UInt8))].all id)) from congrArg (Value.bool) (mor_t hc5)) ?_
            exact fun a W hA hW => ⟨hA.sub (by kernel_rfl), hW.sub (.cons _ (.cons _ .slnil)), hF⟩
          · replace hF := hF.2 hc5
            refine Ok.opYes (j := 3) (d := 16) (want := false) (b := false) rfl (by kernel_rfl) (by kernel_rfl) rfl (OpOk.step (v := .agg #[.int .i64 xv.1, .int .i64 xv.2.1, .string ⟨⟨xv.2.2⟩⟩]) (Yields.loadAgg 1 3 #[.int .i64 xv.1, .int .i64 xv.2.1, .string ⟨⟨xv.2.2⟩⟩] rfl rfl Tryd.underlying31 rfl (by kernel_rfl) (by kernel_rfl) (by kernel_rfl)) rfl rfl ?_)
            refine Ok.batch 1 [(16, .bool false), (17, .agg #[.int .i64 xv.1, .int .i64 xv.2.1, .string ⟨⟨xv.2.2⟩⟩]), (18, .agg #[.int .i64 1, .int .i64 1, .string ⟨⟨([] : List UInt8)⟩⟩])] (by kernel_rfl) ?_
            refine Ok.opYes (j := 3) (d := 16) (want := false) (b := false) rfl (by kernel_rfl) (by kernel_rfl) rfl (OpOk.step (v := .bool ([(xv.1 == 1), (xv.2.1 == 1), (xv.2.2 == ([] : List UInt8))].all id)) (Yields.eqAgg (k := 2) rfl rfl (.struct (k := 1) Tryd.underlying31 (by kernel_rfl) ⟨by decide, ⟨.int .i64 xv.1, .int .i64 1, fun _ => by kernel_rfl, fun _ => by kernel_rfl, EqR.mono (k := 1) (.int Tryd.underlying3) (by decide)⟩, ⟨by decide, ⟨.int .i64 xv.2.1, .int .i64 1, fun _ => by kernel_rfl, fun _ => by kernel_rfl, EqR.mono (k := 1) (.int Tryd.underlying3) (by decide)⟩, ⟨by decide, ⟨.string ⟨⟨xv.2.2⟩⟩, .string ⟨⟨([] : List UInt8)⟩⟩, fun _ => by kernel_rfl, fun _ => by kernel_rfl, EqR.mono (k := 1) (.str Tryd.underlying9) (by decide)⟩, trivial⟩⟩⟩) rfl (by kernel_rfl)) rfl rfl ?_)
            refine Ok.batch 2 [(2, .bool ([(xv.1 == 1), (xv.2.1 == 1), (xv.2.2 == ([] : List UInt8))].all id))] (by kernel_rfl) ?_
            refine Ok.nil ?_
            refine Ok.thenN ?_
            refine Ok.reval 2 rfl (show (.bool ([(xv.1 == 1), (xv.2.1 == 1), (xv.2.2 == ([] : List UInt8))].all id) : Value) = .bool (([(xv.1 == xv.1), (xv.2.1 == 0), (xv.2.2 == ([] : List UInt8))].all id) || ([(xv.1 == 1), (xv.2.1 == 1), (xv.2.2 == ([] : List UInt8))].all id)) from congrArg (Value.bool) (mor_f hc5)) ?_
            exact fun a W hA hW => ⟨hA.sub (by kernel_rfl), hW.sub (.cons _ (.cons _ .slnil)), hF⟩
        ·
          rintro a W ⟨hA, hW, hF⟩
          refine (?_ : Ok _ _ _ _ _ _) a W hA hW
          clear hA hW
          refine Ok.ret ?_
          refine Ok.blockR ?_
          refine Ok.thenR ?_
          exact Ok.resH (vs := [.bool (([(xv.1 == xv.1), (xv.2.1 == 0), (xv.2.2 == ([] : List UInt8))].all id) || ([(xv.1 == 1), (xv.2.1 == 1), (xv.2.2 == ([] : List UInt8))].all id))]) (.inl rfl) rfl (.cons (.tmp rfl) .nil) (Gext.refl w0 g) ⟨(([(xv.1 == xv.1), (xv.2.1 == 0), (xv.2.2 == ([] : List UInt8))].all id) || ([(xv.1 == 1), (xv.2.1 == 1), (xv.2.2 == ([] : List UInt8))].all id)), rfl, rfl, hF⟩
      · replace hF := hF.2 hc4
        refine Ok.seq ?_
        refine Ok.region ?_
        refine Ok.batch 2 [(1, .pointer (some ⟨b1, 0, none⟩)), (3, .pointer (some ⟨b2, 0, none⟩)), (8, .int .i64 xv.1), (21, .bool (xv.1 == 2))] (by kernel_rfl) ?_
        refine Ok.nil ?_
        refine Ok.thenN ?_
        refine Ok.cond (b := (xv.1 == 2)) rfl (fun hc6 => ?_) (fun hc6 => ?_)
        · replace hF := hF.1 hc6
          refine Ok.seq ?_
          refine Ok.region ?_
          refine Ok.batch 1 [(1, .pointer (some ⟨b1, 0, none⟩)), (3, .pointer (some ⟨b2, 0, none⟩)), (23, .pointer (some ⟨b1, 1, none⟩))] (by kernel_rfl) ?_
          refine Ok.op rfl (OpOk.step (v := .int .i64 xv.2.1) (Yields.load 1 rfl rfl Tryd.underlying3 rfl (by kernel_rfl)) rfl rfl ?_)
          refine Ok.batch 1 [(1, .pointer (some ⟨b1, 0, none⟩)), (3, .pointer (some ⟨b2, 0, none⟩)), (24, .int .i64 xv.2.1), (25, .pointer (some ⟨b2, 1, none⟩))] (by kernel_rfl) ?_
          refine Ok.op rfl (OpOk.store (k := 1) (v := .int .i64 xv.2.1) (H' := [.blk b2 (.cells #[.int .i64 xv.1, .int .i64 xv.2.1, .string ⟨⟨([] : List UInt8)⟩⟩] 31), .blk b1 (.cells #[.int .i64 xv.1, .int .i64 xv.2.1, .string ⟨⟨xv.2.2⟩⟩] 31)]) 0 rfl rfl rfl (by kernel_rfl) (by kernel_rfl) (by kernel_rfl) (by kernel_rfl) (by kernel_rfl) ?_)
          refine Ok.nil ?_
          refine Ok.thenN ?_
          refine Ok.cut (fun a W => StA 69 [(2, .bool (([(xv.1 == xv.1), (xv.2.1 == xv.2.1), (xv.2.2 == ([] : List UInt8))].all id) && (btwM xv.2.1 (-9007199254740992) 9007199254740992)))] a ∧ StW w0 [] g W ∧ vrj24 xv K) ?_ ?_
          ·
            refine Ok.region ?_
            refine Ok.op rfl (OpOk.step (v := .agg #[.int .i64 xv.1, .int .i64 xv.2.1, .string ⟨⟨xv.2.2⟩⟩]) (Yields.loadAgg 1 3 #[.int .i64 xv.1, .int .i64 xv.2.1, .string ⟨⟨xv.2.2⟩⟩] rfl rfl Tryd.underlying31 rfl (by kernel_rfl) (by kernel_rfl) (by kernel_rfl)) rfl rfl ?_)
            refine Ok.op rfl (OpOk.step (v := .agg #[.int .i64 xv.1, .int .i64 xv.2.1, .string ⟨⟨([] : List UInt8)⟩⟩]) (Yields.loadAgg 0 3 #[.int .i64 xv.1, .int .i64 xv.2.1, .string ⟨⟨([] : List UInt8)⟩⟩] rfl rfl Tryd.underlying31 rfl (by kernel_rfl) (by kernel_rfl) (by kernel_rfl)) rfl rfl ?_)
            refine Ok.op rfl (OpOk.step (v := .bool ([(xv.1 == xv.1), (xv.2.1 == xv.2.1), (xv.2.2 == ([] : List UInt8))].all id)) (Yields.eqAgg (k := 2) rfl rfl (.struct (k := 1) Tryd.underlying31 (by kernel_rfl) ⟨by decide, ⟨.int .i64 xv.1, .int .i64 xv.1, fun _ => by kernel_rfl, fun _ => by kernel_rfl, EqR.mono (k := 1) (.int Tryd.underlying3) (by decide)⟩, ⟨by decide, ⟨.int .i64 xv.2.1, .int .i64 xv.2.1, fun _ => by kernel_rfl, fun _ => by kernel_rfl, EqR.mono (k := 1) (.int Tryd.underlying3) (by decide)⟩, ⟨by decide, ⟨.string ⟨⟨xv.2.2⟩⟩, .string ⟨⟨([] : List UInt8)⟩⟩, fun _ => by kernel_rfl, fun _ => by kernel_rfl, EqR.mono (k := 1) (.str Tryd.underlying9) (by decide)⟩, trivial⟩⟩⟩) rfl (by kernel_rfl)) rfl rfl ?_)
            refine Ok.batch 1 [(1, .pointer (some ⟨b1, 0, none⟩)), (29, .bool ([(xv.1 == xv.1), (xv.2.1 == xv.2.1), (xv.2.2 == ([] : List UInt8))].all id))] (by kernel_rfl) ?_
            refine Ok.boolAt 29 (([(xv.1 == xv.1), (xv.2.1 == xv.2.1), (xv.2.2 == ([] : List UInt8))].all id)) rfl (fun hc7 => ?_) (fun hc7 => ?_)
            · replace hF := hF.1 hc7
              refine Ok.batch 1 [(29, .bool true), (30, .pointer (some ⟨b1, 1, none⟩))] (by kernel_rfl) ?_
              refine Ok.opYes (j := 3) (d := 29) (want := true) (b := true) rfl (by kernel_rfl) (by kernel_rfl) rfl (OpOk.step (v := .int .i64 xv.2.1) (Yields.load 1 rfl rfl Tryd.underlying3 rfl (by kernel_rfl)) rfl rfl ?_)
              refine Ok.opYes (j := 3) (d := 29) (want := true) (b := true) rfl (by kernel_rfl) (by kernel_rfl) rfl (OpOk.callG (v := .bool (btwM xv.2.1 (-9007199254740992) 9007199254740992)) (enters (by kernel_rfl) (fun _ => by kernel_rfl)) (fun W hW => btw_c xv.2.1 (-9007199254740992) 9007199254740992) rfl ?_)
              refine Ok.batch 2 [(2, .bool (btwM xv.2.1 (-9007199254740992) 9007199254740992))] (by kernel_rfl) ?_
              refine Ok.nil ?_
              refine Ok.thenN ?_
              refine Ok.reval 2 rfl (show (.bool (btwM xv.2.1 (-9007199254740992) 9007199254740992) : Value) = .bool (([(xv.1 == xv.1), (xv.2.1 == xv.2.1), (xv.2.2 == ([] : List UInt8))].all id) && (btwM xv.2.1 (-9007199254740992) 9007199254740992)) from congrArg (Value.bool) (mand_t hc7)) ?_
              exact fun a W hA hW => ⟨hA.sub (by kernel_rfl), hW.sub (.cons _ (.cons _ .slnil)), hF⟩
            · replace hF := hF.2 hc7
              refine Ok.batch 5 [(2, .bool false)] (by kernel_rfl) ?_
              refine Ok.nil ?_
              refine Ok.thenN ?_
              refine Ok.reval 2 rfl (show (.bool false : Value) = .bool (([(xv.1 == xv.1), (xv.2.1 == xv.2.1), (xv.2.2 == ([] : List UInt8))].all id) && (btwM xv.2.1 (-9007199254740992) 9007199254740992)) from congrArg (Value.bool) (mand_f hc7)) ?_
              exact fun a W hA hW => ⟨hA.sub (by kernel_rfl), hW.sub (.cons _ (.cons _ .slnil)), hF⟩
          ·
            rintro a W ⟨hA, hW, hF⟩
            refine (?_ : Ok _ _ _ _ _ _) a W hA hW
            clear hA hW
            refine Ok.ret ?_
            refine Ok.blockR ?_
            refine Ok.thenR ?_
            exact Ok.resH (vs := [.bool (([(xv.1 == xv.1), (xv.2.1 == xv.2.1), (xv.2.2 == ([] : List UInt8))].all id) && (btwM xv.2.1 (-9007199254740992) 9007199254740992))]) (.inl rfl) rfl (.cons (.tmp rfl) .nil) (Gext.refl w0 g) ⟨(([(xv.1 == xv.1), (xv.2.1 == xv.2.1), (xv.2.2 == ([] : List UInt8))].all id) && (btwM xv.2.1 (-9007199254740992) 9007199254740992)), rfl, rfl, hF⟩
        · replace hF := hF.2 hc6
          refine Ok.seq ?_
          refine Ok.region ?_
          refine Ok.batch 2 [(1, .pointer (some ⟨b1, 0, none⟩)), (3, .pointer (some ⟨b2, 0, none⟩)), (8, .int .i64 xv.1), (34, .bool (xv.1 == 3))] (by kernel_rfl) ?_
          refine Ok.nil ?_
          refine Ok.thenN ?_
          refine Ok.cond (b := (xv.1 == 3)) rfl (fun hc8 => ?_) (fun hc8 => ?_)
          · replace hF := hF.1 hc8
            refine Ok.seq ?_
            refine Ok.region ?_
            refine Ok.batch 1 [(1, .pointer (some ⟨b1, 0, none⟩)), (3, .pointer (some ⟨b2, 0, none⟩)), (36, .pointer (some ⟨b1, 2, none⟩))] (by kernel_rfl) ?_
            refine Ok.op rfl (OpOk.step (v := .string ⟨⟨xv.2.2⟩⟩) (Yields.load 1 rfl rfl Tryd.underlying9 rfl (by kernel_rfl)) rfl rfl ?_)
            refine Ok.batch 1 [(1, .pointer (some ⟨b1, 0, none⟩)), (3, .pointer (some ⟨b2, 0, none⟩)), (37, .string ⟨⟨xv.2.2⟩⟩), (38, .pointer (some ⟨b2, 2, none⟩))] (by kernel_rfl) ?_
            refine Ok.op rfl (OpOk.store (k := 1) (v := .string ⟨⟨xv.2.2⟩⟩) (H' := [.blk b2 (.cells #[.int .i64 xv.1, .int .i64 0, .string ⟨⟨xv.2.2⟩⟩] 31), .blk b1 (.cells #[.int .i64 xv.1, .int .i64 xv.2.1, .string ⟨⟨xv.2.2⟩⟩] 31)]) 0 rfl rfl rfl (by kernel_rfl) (by kernel_rfl) (by kernel_rfl) (by kernel_rfl) (by kernel_rfl) ?_)
            refine Ok.nil ?_
            refine Ok.thenN ?_
            refine Ok.cut (fun a W => StA 69 [(2, .bool (([(xv.1 == xv.1), (xv.2.1 == 0), (xv.2.2 == xv.2.2)].all id) && (decide ((xv.2.2.length : Int) ≤ 2000))))] a ∧ StW w0 [] g W ∧ vrj32 xv K) ?_ ?_
            ·
              refine Ok.region ?_
              refine Ok.op rfl (OpOk.step (v := .agg #[.int .i64 xv.1, .int .i64 xv.2.1, .string ⟨⟨xv.2.2⟩⟩]) (Yields.loadAgg 1 3 #[.int .i64 xv.1, .int .i64 xv.2.1, .string ⟨⟨xv.2.2⟩⟩] rfl rfl Tryd.underlying31 rfl (by kernel_rfl) (by kernel_rfl) (by kernel_rfl)) rfl rfl ?_)
              refine Ok.op rfl (OpOk.step (v := .agg #[.int .i64 xv.1, .int .i64 0, .string ⟨⟨xv.2.2⟩⟩]) (Yields.loadAgg 0 3 #[.int .i64 xv.1, .int .i64 0, .string ⟨⟨xv.2.2⟩⟩] rfl rfl Tryd.underlying31 rfl (by kernel_rfl) (by kernel_rfl) (by kernel_rfl)) rfl rfl ?_)
              refine Ok.op rfl (OpOk.step (v := .bool ([(xv.1 == xv.1), (xv.2.1 == 0), (xv.2.2 == xv.2.2)].all id)) (Yields.eqAgg (k := 2) rfl rfl (.struct (k := 1) Tryd.underlying31 (by kernel_rfl) ⟨by decide, ⟨.int .i64 xv.1, .int .i64 xv.1, fun _ => by kernel_rfl, fun _ => by kernel_rfl, EqR.mono (k := 1) (.int Tryd.underlying3) (by decide)⟩, ⟨by decide, ⟨.int .i64 xv.2.1, .int .i64 0, fun _ => by kernel_rfl, fun _ => by kernel_rfl, EqR.mono (k := 1) (.int Tryd.underlying3) (by decide)⟩, ⟨by decide, ⟨.string ⟨⟨xv.2.2⟩⟩, .string ⟨⟨xv.2.2⟩⟩, fun _ => by kernel_rfl, fun _ => by kernel_rfl, EqR.mono (k := 1) (.str Tryd.underlying9) (by decide)⟩, trivial⟩⟩⟩) rfl (by kernel_rfl)) rfl rfl ?_)
              refine Ok.batch 1 [(1, .pointer (some ⟨b1, 0, none⟩)), (42, .bool ([(xv.1 == xv.1), (xv.2.1 == 0), (xv.2.2 == xv.2.2)].all id))] (by kernel_rfl) ?_
              refine Ok.boolAt 42 (([(xv.1 == xv.1), (xv.2.1 == 0), (xv.2.2 == xv.2.2)].all id)) rfl (fun hc9 => ?_) (fun hc9 => ?_)
              · replace hF := hF.1 hc9
                refine Ok.batch 1 [(42, .bool true), (43, .pointer (some ⟨b1, 2, none⟩))] (by kernel_rfl) ?_
                refine Ok.opYes (j := 3) (d := 42) (want := true) (b := true) rfl (by kernel_rfl) (by kernel_rfl) rfl (OpOk.step (v := .string ⟨⟨xv.2.2⟩⟩) (Yields.load 1 rfl rfl Tryd.underlying9 rfl (by kernel_rfl)) rfl rfl ?_)
                refine Ok.batch 4 [(2, .bool (decide ((xv.2.2.length : Int) ≤ 2000)))] (by kernel_rfl) ?_
                refine Ok.nil ?_
                refine Ok.thenN ?_
                refine Ok.reval 2 rfl (show (.bool (decide ((xv.2.2.length : Int) ≤ 2000)) : Value) = .bool (([(xv.1 == xv.1), (xv.2.1 == 0), (xv.2.2 == xv.2.2)].all id) && (decide ((xv.2.2.length : Int) ≤ 2000))) from congrArg (Value.bool) (mand_t hc9)) ?_
                exact fun a W hA hW => ⟨hA.sub (by kernel_rfl), hW.sub (.cons _ (.cons _ .slnil)), hF⟩
              · replace hF := hF.2 hc9
                refine Ok.batch 6 [(2, .bool false)] (by kernel_rfl) ?_
                refine Ok.nil ?_
                refine Ok.thenN ?_
                refine Ok.reval 2 rfl (show (.bool false : Value) = .bool (([(xv.1 == xv.1), (xv.2.1 == 0), (xv.2.2 == xv.2.2)].all id) && (decide ((xv.2.2.length : Int) ≤ 2000))) from congrArg (Value.bool) (mand_f hc9)) ?_
                exact fun a W hA hW => ⟨hA.sub (by kernel_rfl), hW.sub (.cons _ (.cons _ .slnil)), hF⟩
            ·
              rintro a W ⟨hA, hW, hF⟩
              refine (?_ : Ok _ _ _ _ _ _) a W hA hW
              clear hA hW
              refine Ok.ret ?_
              refine Ok.blockR ?_
              refine Ok.thenR ?_
              exact Ok.resH (vs := [.bool (([(xv.1 == xv.1), (xv.2.1 == 0), (xv.2.2 == xv.2.2)].all id) && (decide ((xv.2.2.length : Int) ≤ 2000)))]) (.inl rfl) rfl (.cons (.tmp rfl) .nil) (Gext.refl w0 g) ⟨(([(xv.1 == xv.1), (xv.2.1 == 0), (xv.2.2 == xv.2.2)].all id) && (decide ((xv.2.2.length : Int) ≤ 2000))), rfl, rfl, hF⟩
          · replace hF := hF.2 hc8
            refine Ok.seq ?_
            refine Ok.region ?_
            refine Ok.batch 2 [(1, .pointer (some ⟨b1, 0, none⟩)), (3, .pointer (some ⟨b2, 0, none⟩)), (8, .int .i64 xv.1), (48, .bool (xv.1 == 4))] (by kernel_rfl) ?_
            refine Ok.nil ?_
            refine Ok.thenN ?_
            refine Ok.cond (b := (xv.1 == 4)) rfl (fun hc10 => ?_) (fun hc10 => ?_)
            · replace hF := hF.1 hc10
              refine Ok.seq ?_
              refine Ok.region ?_
              refine Ok.batch 1 [(1, .pointer (some ⟨b1, 0, none⟩)), (3, .pointer (some ⟨b2, 0, none⟩)), (50, .pointer (some ⟨b1, 1, none⟩))] (by kernel_rfl) ?_
              refine Ok.op rfl (OpOk.step (v := .int .i64 xv.2.1) (Yields.load 1 rfl rfl Tryd.underlying3 rfl (by kernel_rfl)) rfl rfl ?_)
              refine Ok.batch 1 [(1, .pointer (some ⟨b1, 0, none⟩)), (3, .pointer (some ⟨b2, 0, none⟩)), (51, .int .i64 xv.2.1), (52, .pointer (some ⟨b2, 1, none⟩))] (by kernel_rfl) ?_
              refine Ok.op rfl (OpOk.store (k := 1) (v := .int .i64 xv.2.1) (H' := [.blk b2 (.cells #[.int .i64 xv.1, .int .i64 xv.2.1, .string ⟨⟨([] : List UInt8)⟩⟩] 31), .blk b1 (.cells #[.int .i64 xv.1, .int .i64 xv.2.1, .string ⟨⟨xv.2.2⟩⟩] 31)]) 0 rfl rfl rfl (by kernel_rfl) (by kernel_rfl) (by kernel_rfl) (by kernel_rfl) (by kernel_rfl) ?_)
              refine Ok.nil ?_
              refine Ok.thenN ?_
              refine Ok.cut (fun a W => StA 69 [(2, .bool (([(xv.1 == xv.1), (xv.2.1 == xv.2.1), (xv.2.2 == ([] : List UInt8))].all id) && (decide (xv.2.1 > (-1)))))] a ∧ StW w0 [] g W ∧ vrj40 xv K) ?_ ?_
              ·
                refine Ok.region ?_
                refine Ok.op rfl (OpOk.step (v := .agg #[.int .i64 xv.1, .int .i64 xv.2.1, .string ⟨⟨xv.2.2⟩⟩]) (Yields.loadAgg 1 3 #[.int .i64 xv.1, .int .i64 xv.2.1, .string ⟨⟨xv.2.2⟩⟩] rfl rfl Tryd.underlying31 rfl (by kernel_rfl) (by kernel_rfl) (by kernel_rfl)) rfl rfl ?_)
                refine Ok.op rfl (OpOk.step (v := .agg #[.int .i64 xv.1, .int .i64 xv.2.1, .string ⟨⟨([] : List UInt8)⟩⟩]) (Yields.loadAgg 0 3 #[.int .i64 xv.1, .int .i64 xv.2.1, .string ⟨⟨([] : List UInt8)⟩⟩] rfl rfl Tryd.underlying31 rfl (by kernel_rfl) (by kernel_rfl) (by kernel_rfl)) rfl rfl ?_)
                refine Ok.op rfl (OpOk.step (v := .bool ([(xv.1 == xv.1), (xv.2.1 == xv.2.1), (xv.2.2 == ([] : List UInt8))].all id)) (Yields.eqAgg (k := 2) rfl rfl (.struct (k := 1) Tryd.underlying31 (by kernel_rfl) ⟨by decide, ⟨.int .i64 xv.1, .int .i64 xv.1, fun _ => by kernel_rfl, fun _ => by kernel_rfl, EqR.mono (k := 1) (.int Tryd.underlying3) (by decide)⟩, ⟨by decide, ⟨.int .i64 xv.2.1, .int .i64 xv.2.1, fun _ => by kernel_rfl, fun _ => by kernel_rfl, EqR.mono (k := 1) (.int Tryd.underlying3) (by decide)⟩, ⟨by decide, ⟨.string ⟨⟨xv.2.2⟩⟩, .string ⟨⟨([] : List UInt8)⟩⟩, fun _ => by kernel_rfl, fun _ => by kernel_rfl, EqR.mono (k := 1) (.str Tryd.underlying9) (by decide)⟩, trivial⟩⟩⟩) rfl (by kernel_rfl)) rfl rfl ?_)
                refine Ok.batch 1 [(1, .pointer (some ⟨b1, 0, none⟩)), (56, .bool ([(xv.1 == xv.1), (xv.2.1 == xv.2.1), (xv.2.2 == ([] : List UInt8))].all id))] (by kernel_rfl) ?_
                refine Ok.boolAt 56 (([(xv.1 == xv.1), (xv.2.1 == xv.2.1), (xv.2.2 == ([] : List UInt8))].all id)) rfl (fun hc11 => ?_) (fun hc11 => ?_)
                · replace hF := hF.1 hc11
                  refine Ok.batch 1 [(56, .bool true), (57, .pointer (some ⟨b1, 1, none⟩))] (by kernel_rfl) ?_
                  refine Ok.opYes (j := 3) (d := 56) (want := true) (b := true) rfl (by kernel_rfl) (by kernel_rfl) rfl (OpOk.step (v := .int .i64 xv.2.1) (Yields.load 1 rfl rfl Tryd.underlying3 rfl (by kernel_rfl)) rfl rfl ?_)
                  refine Ok.batch 3 [(2, .bool (decide (xv.2.1 > (-1))))] (by kernel_rfl) ?_
                  refine Ok.nil ?_
                  refine Ok.thenN ?_
                  refine Ok.reval 2 rfl (show (.bool (decide (xv.2.1 > (-1))) : Value) = .bool (([(xv.1 == xv.1), (xv.2.1 == xv.2.1), (xv.2.2 == ([] : List UInt8))].all id) && (decide (xv.2.1 > (-1)))) from congrArg (Value.bool) (mand_t hc11)) ?_
                  exact fun a W hA hW => ⟨hA.sub (by kernel_rfl), hW.sub (.cons _ (.cons _ .slnil)), hF⟩
                · replace hF := hF.2 hc11
                  refine Ok.batch 5 [(2, .bool false)] (by kernel_rfl) ?_
                  refine Ok.nil ?_
                  refine Ok.thenN ?_
                  refine Ok.reval 2 rfl (show (.bool false : Value) = .bool (([(xv.1 == xv.1), (xv.2.1 == xv.2.1), (xv.2.2 == ([] : List UInt8))].all id) && (decide (xv.2.1 > (-1)))) from congrArg (Value.bool) (mand_f hc11)) ?_
                  exact fun a W hA hW => ⟨hA.sub (by kernel_rfl), hW.sub (.cons _ (.cons _ .slnil)), hF⟩
              ·
                rintro a W ⟨hA, hW, hF⟩
                refine (?_ : Ok _ _ _ _ _ _) a W hA hW
                clear hA hW
                refine Ok.ret ?_
                refine Ok.blockR ?_
                refine Ok.thenR ?_
                exact Ok.resH (vs := [.bool (([(xv.1 == xv.1), (xv.2.1 == xv.2.1), (xv.2.2 == ([] : List UInt8))].all id) && (decide (xv.2.1 > (-1))))]) (.inl rfl) rfl (.cons (.tmp rfl) .nil) (Gext.refl w0 g) ⟨(([(xv.1 == xv.1), (xv.2.1 == xv.2.1), (xv.2.2 == ([] : List UInt8))].all id) && (decide (xv.2.1 > (-1)))), rfl, rfl, hF⟩
            · replace hF := hF.2 hc10
              refine Ok.seq ?_
              refine Ok.region ?_
              refine Ok.batch 2 [(1, .pointer (some ⟨b1, 0, none⟩)), (3, .pointer (some ⟨b2, 0, none⟩)), (61, .bool (xv.1 == 5))] (by kernel_rfl) ?_
              refine Ok.nil ?_
              refine Ok.thenN ?_
              refine Ok.cond (b := (xv.1 == 5)) rfl (fun hc12 => ?_) (fun hc12 => ?_)
              · replace hF := hF.1 hc12
                refine Ok.region ?_
                refine Ok.batch 1 [(1, .pointer (some ⟨b1, 0, none⟩)), (3, .pointer (some ⟨b2, 0, none⟩)), (63, .pointer (some ⟨b1, 2, none⟩))] (by kernel_rfl) ?_
                refine Ok.op rfl (OpOk.step (v := .string ⟨⟨xv.2.2⟩⟩) (Yields.load 1 rfl rfl Tryd.underlying9 rfl (by kernel_rfl)) rfl rfl ?_)
                refine Ok.batch 1 [(1, .pointer (some ⟨b1, 0, none⟩)), (3, .pointer (some ⟨b2, 0, none⟩)), (64, .string ⟨⟨xv.2.2⟩⟩), (65, .pointer (some ⟨b2, 2, none⟩))] (by kernel_rfl) ?_
                refine Ok.op rfl (OpOk.store (k := 1) (v := .string ⟨⟨xv.2.2⟩⟩) (H' := [.blk b2 (.cells #[.int .i64 xv.1, .int .i64 0, .string ⟨⟨xv.2.2⟩⟩] 31), .blk b1 (.cells #[.int .i64 xv.1, .int .i64 xv.2.1, .string ⟨⟨xv.2.2⟩⟩] 31)]) 0 rfl rfl rfl (by kernel_rfl) (by kernel_rfl) (by kernel_rfl) (by kernel_rfl) (by kernel_rfl) ?_)
                refine Ok.nil ?_
                refine Ok.blockN ?_
                refine Ok.thenN ?_
                refine Ok.heapEq (H' := [.blk b2 (.cells #[.int .i64 xv.1, .int .i64 0, .string ⟨⟨(if (xv.1 == 0) = true then ([] : List UInt8) else xv.2.2)⟩⟩] 31), .blk b1 (.cells #[.int .i64 xv.1, .int .i64 xv.2.1, .string ⟨⟨xv.2.2⟩⟩] 31)]) (econs (congrArg (fun l : List Value => Ent.blk b2 (.cells ⟨l⟩ 31)) (lcons (rfl) (lcons (rfl) (lcons (congrArg ((fun s : List UInt8 => Value.string ⟨⟨s⟩⟩)) ((if_f hc3).symm)) rfl)))) (econs (rfl) rfl)) ?_
                exact fun a W hA hW => ⟨hA.sub (by kernel_rfl), hW, hF⟩
              · replace hF := hF.2 hc12
                refine Ok.seq ?_
                refine Ok.region ?_
                refine Ok.batch 1 [(2, .bool false)] (by kernel_rfl) ?_
                refine Ok.nil ?_
                refine Ok.thenN ?_
                refine Ok.ret ?_
                refine Ok.blockR ?_
                refine Ok.thenR ?_
                exact Ok.resP (vs := [.bool false]) [] [] (by decide) rfl (.inl rfl) rfl (.cons (.tmp rfl) .nil) (Gext.refl w0 g) ⟨false, rfl, rfl, hF⟩
  ·
    rintro a W ⟨hA, hW, hF⟩
    refine (?_ : Ok _ _ _ _ _ _) a W hA hW
    clear hA hW
    refine Ok.seq ?_
    refine Ok.region ?_
    refine Ok.op rfl (OpOk.step (v := .agg #[.int .i64 xv.1, .int .i64 xv.2.1, .string ⟨⟨xv.2.2⟩⟩]) (Yields.loadAgg 1 3 #[.int .i64 xv.1, .int .i64 xv.2.1, .string ⟨⟨xv.2.2⟩⟩] rfl rfl Tryd.underlying31 rfl (by kernel_rfl) (by kernel_rfl) (by kernel_rfl)) rfl rfl ?_)
    refine Ok.op rfl (OpOk.step (v := .agg #[.int .i64 xv.1, .int .i64 0, .string ⟨⟨(if (xv.1 == 0) = true then ([] : List UInt8) else xv.2.2)⟩⟩]) (Yields.loadAgg 0 3 #[.int .i64 xv.1, .int .i64 0, .string ⟨⟨(if (xv.1 == 0) = true then ([] : List UInt8) else xv.2.2)⟩⟩] rfl rfl Tryd.underlying31 rfl (by kernel_rfl) (by kernel_rfl) (by kernel_rfl)) rfl rfl ?_)
    refine Ok.op rfl (OpOk.step (v := .bool ([(xv.1 == xv.1), (xv.2.1 == 0), (xv.2.2 == (if (xv.1 == 0) = true then ([] : List UInt8) else xv.2.2))].all id)) (Yields.eqAgg (k := 2) rfl rfl (.struct (k := 1) Tryd.underlying31 (by kernel_rfl) ⟨by decide, ⟨.int .i64 xv.1, .int .i64 xv.1, fun _ => by kernel_rfl, fun _ => by kernel_rfl, EqR.mono (k := 1) (.int Tryd.underlying3) (by decide)⟩, ⟨by decide, ⟨.int .i64 xv.2.1, .int .i64 0, fun _ => by kernel_rfl, fun _ => by kernel_rfl, EqR.mono (k := 1) (.int Tryd.underlying3) (by decide)⟩, ⟨by decide, ⟨.string ⟨⟨xv.2.2⟩⟩, .string ⟨⟨(if (xv.1 == 0) = true then ([] : List UInt8) else xv.2.2)⟩⟩, fun _ => by kernel_rfl, fun _ => by kernel_rfl, EqR.mono (k := 1) (.str Tryd.underlying9) (by decide)⟩, trivial⟩⟩⟩) rfl (by kernel_rfl)) rfl rfl ?_)
    refine Ok.batch 1 [(2, .bool ([(xv.1 == xv.1), (xv.2.1 == 0), (xv.2.2 == (if (xv.1 == 0) = true then ([] : List UInt8) else xv.2.2))].all id))] (by kernel_rfl) ?_
    refine Ok.nil ?_
    refine Ok.thenN ?_
    refine Ok.ret ?_
    exact Ok.resP (vs := [.bool ([(xv.1 == xv.1), (xv.2.1 == 0), (xv.2.2 == (if (xv.1 == 0) = true then ([] : List UInt8) else xv.2.2))].all id)]) [] [] (by decide) rfl (.inl rfl) rfl (.cons (.tmp rfl) .nil) (Gext.refl w0 g) ⟨([(xv.1 == xv.1), (xv.2.1 == 0), (xv.2.2 == (if (xv.1 == 0) = true then ([] : List UInt8) else xv.2.2))].all id), rfl, rfl, hF⟩
def vrj5M (xv : Int × Int × List UInt8) : Bool := ([(xv.1 == xv.1), (xv.2.1 == 0), (xv.2.2 == (if (xv.1 == 0) = true then ([] : List UInt8) else xv.2.2))].all id)
set_option linter.unusedSimpArgs false in
set_option linter.unusedVariables false in
theorem vrj5_A (xv : Int × Int × List UInt8) (P : Bool → Prop) (h : P (vrj5M xv)) : vrj5 xv (fun k0 => P k0) := by
  unfold vrj5M at h
  unfold vrj5
  exact h
def vrj16M (xv : Int × Int × List UInt8) : Bool := (([(xv.1 == xv.1), (xv.2.1 == 0), (xv.2.2 == ([] : List UInt8))].all id) || ([(xv.1 == 1), (xv.2.1 == 1), (xv.2.2 == ([] : List UInt8))].all id))
set_option linter.unusedSimpArgs false in
set_option linter.unusedVariables false in
theorem vrj16_A (xv : Int × Int × List UInt8) (P : Bool → Prop) (h : P (vrj16M xv)) : vrj16 xv (fun k0 => P k0) := by
  unfold vrj16M at h
  unfold vrj16
  exact h
def vrj24M (xv : Int × Int × List UInt8) : Bool := (([(xv.1 == xv.1), (xv.2.1 == xv.2.1), (xv.2.2 == ([] : List UInt8))].all id) && (btwM xv.2.1 (-9007199254740992) 9007199254740992))
set_option linter.unusedSimpArgs false in
set_option linter.unusedVariables false in
theorem vrj24_A (xv : Int × Int × List UInt8) (P : Bool → Prop) (h : P (vrj24M xv)) : vrj24 xv (fun k0 => P k0) := by
  unfold vrj24M at h
  unfold vrj24
  exact h
def vrj32M (xv : Int × Int × List UInt8) : Bool := (([(xv.1 == xv.1), (xv.2.1 == 0), (xv.2.2 == xv.2.2)].all id) && (decide ((xv.2.2.length : Int) ≤ 2000)))
set_option linter.unusedSimpArgs false in
set_option linter.unusedVariables false in
theorem vrj32_A (xv : Int × Int × List UInt8) (P : Bool → Prop) (h : P (vrj32M xv)) : vrj32 xv (fun k0 => P k0) := by
  unfold vrj32M at h
  unfold vrj32
  exact h
def vrj40M (xv : Int × Int × List UInt8) : Bool := (([(xv.1 == xv.1), (xv.2.1 == xv.2.1), (xv.2.2 == ([] : List UInt8))].all id) && (decide (xv.2.1 > (-1))))
set_option linter.unusedSimpArgs false in
set_option linter.unusedVariables false in
theorem vrj40_A (xv : Int × Int × List UInt8) (P : Bool → Prop) (h : P (vrj40M xv)) : vrj40 xv (fun k0 => P k0) := by
  unfold vrj40M at h
  unfold vrj40
  exact h
def vrM (xv : Int × Int × List UInt8) : Bool := (if (xv.1 == 0) = true then (vrj5M xv) else (if (xv.1 == 1) = true then (vrj16M xv) else (if (xv.1 == 2) = true then (vrj24M xv) else (if (xv.1 == 3) = true then (vrj32M xv) else (if (xv.1 == 4) = true then (vrj40M xv) else (if (xv.1 == 5) = true then (vrj5M xv) else false))))))
set_option linter.unusedSimpArgs false in
set_option linter.unusedVariables false in
theorem vrF_A (xv : Int × Int × List UInt8) (P : Bool → Prop) (h : P (vrM xv)) : vrF xv (fun k0 => P k0) := by
  unfold vrM at h
  unfold vrF
  refine ⟨fun hc0 => ?_, fun hc0 => ?_⟩
  · rw [if_t hc0] at h
    have hd0 := hc0; try simp only [Bool.and_eq_true, Bool.or_eq_true, Bool.and_eq_false_iff, Bool.or_eq_false_iff, Bool.not_eq_true', Bool.not_eq_false', decide_eq_true_eq, decide_eq_false_iff_not, beq_iff_eq, beq_eq_false_iff_ne, ne_eq] at hd0
    exact vrj5_A xv _ h
  · rw [if_f hc0] at h
    have hd0 := hc0; try simp only [Bool.and_eq_true, Bool.or_eq_true, Bool.and_eq_false_iff, Bool.or_eq_false_iff, Bool.not_eq_true', Bool.not_eq_false', decide_eq_true_eq, decide_eq_false_iff_not, beq_iff_eq, beq_eq_false_iff_ne, ne_eq] at hd0
    refine ⟨fun hc1 => ?_, fun hc1 => ?_⟩
    · rw [if_t hc1] at h
      have hd1 := hc1; try simp only [Bool.and_eq_true, Bool.or_eq_true, Bool.and_eq_false_iff, Bool.or_eq_false_iff, Bool.not_eq_true', Bool.not_eq_false', decide_eq_true_eq, decide_eq_false_iff_not, beq_iff_eq, beq_eq_false_iff_ne, ne_eq] at hd1
      refine ⟨fun hc2 => ?_, fun hc2 => ?_⟩
      · skip
        have hd2 := hc2; try simp only [Bool.and_eq_true, Bool.or_eq_true, Bool.and_eq_false_iff, Bool.or_eq_false_iff, Bool.not_eq_true', Bool.not_eq_false', decide_eq_true_eq, decide_eq_false_iff_not, beq_iff_eq, beq_eq_false_iff_ne, ne_eq] at hd2
        exact vrj16_A xv _ h
      · skip
        have hd2 := hc2; try simp only [Bool.and_eq_true, Bool.or_eq_true, Bool.and_eq_false_iff, Bool.or_eq_false_iff, Bool.not_eq_true', Bool.not_eq_false', decide_eq_true_eq, decide_eq_false_iff_not, beq_iff_eq, beq_eq_false_iff_ne, ne_eq] at hd2
        exact vrj16_A xv _ h
    · rw [if_f hc1] at h
      have hd1 := hc1; try simp only [Bool.and_eq_true, Bool.or_eq_true, Bool.and_eq_false_iff, Bool.or_eq_false_iff, Bool.not_eq_true', Bool.not_eq_false', decide_eq_true_eq, decide_eq_false_iff_not, beq_iff_eq, beq_eq_false_iff_ne, ne_eq] at hd1
      refine ⟨fun hc2 => ?_, fun hc2 => ?_⟩
      · rw [if_t hc2] at h
        have hd2 := hc2; try simp only [Bool.and_eq_true, Bool.or_eq_true, Bool.and_eq_false_iff, Bool.or_eq_false_iff, Bool.not_eq_true', Bool.not_eq_false', decide_eq_true_eq, decide_eq_false_iff_not, beq_iff_eq, beq_eq_false_iff_ne, ne_eq] at hd2
        refine ⟨fun hc3 => ?_, fun hc3 => ?_⟩
        · skip
          have hd3 := hc3; try simp only [Bool.and_eq_true, Bool.or_eq_true, Bool.and_eq_false_iff, Bool.or_eq_false_iff, Bool.not_eq_true', Bool.not_eq_false', decide_eq_true_eq, decide_eq_false_iff_not, beq_iff_eq, beq_eq_false_iff_ne, ne_eq] at hd3
          exact vrj24_A xv _ h
        · skip
          have hd3 := hc3; try simp only [Bool.and_eq_true, Bool.or_eq_true, Bool.and_eq_false_iff, Bool.or_eq_false_iff, Bool.not_eq_true', Bool.not_eq_false', decide_eq_true_eq, decide_eq_false_iff_not, beq_iff_eq, beq_eq_false_iff_ne, ne_eq] at hd3
          exact vrj24_A xv _ h
      · rw [if_f hc2] at h
        have hd2 := hc2; try simp only [Bool.and_eq_true, Bool.or_eq_true, Bool.and_eq_false_iff, Bool.or_eq_false_iff, Bool.not_eq_true', Bool.not_eq_false', decide_eq_true_eq, decide_eq_false_iff_not, beq_iff_eq, beq_eq_false_iff_ne, ne_eq] at hd2
        refine ⟨fun hc3 => ?_, fun hc3 => ?_⟩
        · rw [if_t hc3] at h
          have hd3 := hc3; try simp only [Bool.and_eq_true, Bool.or_eq_true, Bool.and_eq_false_iff, Bool.or_eq_false_iff, Bool.not_eq_true', Bool.not_eq_false', decide_eq_true_eq, decide_eq_false_iff_not, beq_iff_eq, beq_eq_false_iff_ne, ne_eq] at hd3
          refine ⟨fun hc4 => ?_, fun hc4 => ?_⟩
          · skip
            have hd4 := hc4; try simp only [Bool.and_eq_true, Bool.or_eq_true, Bool.and_eq_false_iff, Bool.or_eq_false_iff, Bool.not_eq_true', Bool.not_eq_false', decide_eq_true_eq, decide_eq_false_iff_not, beq_iff_eq, beq_eq_false_iff_ne, ne_eq] at hd4
            exact vrj32_A xv _ h
          · skip
            have hd4 := hc4; try simp only [Bool.and_eq_true, Bool.or_eq_true, Bool.and_eq_false_iff, Bool.or_eq_false_iff, Bool.not_eq_true', Bool.not_eq_false', decide_eq_true_eq, decide_eq_false_iff_not, beq_iff_eq, beq_eq_false_iff_ne, ne_eq] at hd4
            exact vrj32_A xv _ h
        · rw [if_f hc3] at h
          have hd3 := hc3; try simp only [Bool.and_eq_true, Bool.or_eq_true, Bool.and_eq_false_iff, Bool.or_eq_false_iff, Bool.not_eq_true', Bool.not_eq_false', decide_eq_true_eq, decide_eq_false_iff_not, beq_iff_eq, beq_eq_false_iff_ne, ne_eq] at hd3
          refine ⟨fun hc4 => ?_, fun hc4 => ?_⟩
          · rw [if_t hc4] at h
            have hd4 := hc4; try simp only [Bool.and_eq_true, Bool.or_eq_true, Bool.and_eq_false_iff, Bool.or_eq_false_iff, Bool.not_eq_true', Bool.not_eq_false', decide_eq_true_eq, decide_eq_false_iff_not, beq_iff_eq, beq_eq_false_iff_ne, ne_eq] at hd4
            refine ⟨fun hc5 => ?_, fun hc5 => ?_⟩
            · skip
              have hd5 := hc5; try simp only [Bool.and_eq_true, Bool.or_eq_true, Bool.and_eq_false_iff, Bool.or_eq_false_iff, Bool.not_eq_true', Bool.not_eq_false', decide_eq_true_eq, decide_eq_false_iff_not, beq_iff_eq, beq_eq_false_iff_ne, ne_eq] at hd5
              exact vrj40_A xv _ h
            · skip
              have hd5 := hc5; try simp only [Bool.and_eq_true, Bool.or_eq_true, Bool.and_eq_false_iff, Bool.or_eq_false_iff, Bool.not_eq_true', Bool.not_eq_false', decide_eq_true_eq, decide_eq_false_iff_not, beq_iff_eq, beq_eq_false_iff_ne, ne_eq] at hd5
              exact vrj40_A xv _ h
          · rw [if_f hc4] at h
            have hd4 := hc4; try simp only [Bool.and_eq_true, Bool.or_eq_true, Bool.and_eq_false_iff, Bool.or_eq_false_iff, Bool.not_eq_true', Bool.not_eq_false', decide_eq_true_eq, decide_eq_false_iff_not, beq_iff_eq, beq_eq_false_iff_ne, ne_eq] at hd4
            refine ⟨fun hc5 => ?_, fun hc5 => ?_⟩
            · rw [if_t hc5] at h
              have hd5 := hc5; try simp only [Bool.and_eq_true, Bool.or_eq_true, Bool.and_eq_false_iff, Bool.or_eq_false_iff, Bool.not_eq_true', Bool.not_eq_false', decide_eq_true_eq, decide_eq_false_iff_not, beq_iff_eq, beq_eq_false_iff_ne, ne_eq] at hd5
              exact vrj5_A xv _ h
            · rw [if_f hc5] at h
              have hd5 := hc5; try simp only [Bool.and_eq_true, Bool.or_eq_true, Bool.and_eq_false_iff, Bool.or_eq_false_iff, Bool.not_eq_true', Bool.not_eq_false', decide_eq_true_eq, decide_eq_false_iff_not, beq_iff_eq, beq_eq_false_iff_ne, ne_eq] at hd5
              exact h
theorem vr_F (xv : Int × Int × List UInt8) : vrF xv (fun k0 => k0 = vrM xv) :=
  vrF_A xv (fun z => z = vrM xv) rfl
set_option linter.unusedVariables false in
theorem vr_c {g : Ghost} (xv : Int × Int × List UInt8)  : CallsG Tryd.prog 135 #[.agg #[.int .i64 xv.1, .int .i64 xv.2.1, .string ⟨⟨xv.2.2⟩⟩]] g (.bool (vrM xv)) :=
  (vr_ok xv _ (vr_F xv)).gives (by rintro g' H' v _ ⟨r0, rfl, rfl, hK⟩; subst hK; rfl)
def takenF (xv : Int × Int × List UInt8) (K : (Int × Int × List UInt8) → Prop) : Prop :=
  (((vrM xv)) = true → K xv) ∧ (((vrM xv)) = false → K (0, 0, ([] : List UInt8)))
set_option maxHeartbeats 4000000 in
set_option maxRecDepth 100000 in
set_option linter.unusedVariables false in
theorem taken_ok {g : Ghost} (xv : Int × Int × List UInt8) (K : (Int × Int × List UInt8) → Prop)
    (hF : takenF xv K) : CallsH Tryd.prog 66 #[.agg #[.int .i64 xv.1, .int .i64 xv.2.1, .string ⟨⟨xv.2.2⟩⟩]] g [] (fun g' H' v => ∃ (r0 : Int × Int × List UInt8), v = .agg #[.int .i64 r0.1, .int .i64 r0.2.1, .string ⟨⟨r0.2.2⟩⟩] ∧ H' = [] ∧ K r0) := by
  refine CallsH.enter 7 [(0, .agg #[.int .i64 xv.1, .int .i64 xv.2.1, .string ⟨⟨xv.2.2⟩⟩])] Tryd.func66 rfl (by kernel_rfl) (by kernel_rfl) (by kernel_rfl) fun w0 => ?_
  refine Ok.seq ?_
  refine Ok.region ?_
  refine Ok.op rfl (OpOk.box (v := .agg #[.int .i64 xv.1, .int .i64 xv.2.1, .string ⟨⟨xv.2.2⟩⟩]) (cs := #[.int .i64 xv.1, .int .i64 xv.2.1, .string ⟨⟨xv.2.2⟩⟩]) rfl (by kernel_rfl) rfl fun b1 => ?_)
  refine Ok.op rfl (OpOk.alloc (z := .agg #[.int .i64 0, .int .i64 0, .string ⟨⟨([] : List UInt8)⟩⟩]) (cs := #[.int .i64 0, .int .i64 0, .string ⟨⟨([] : List UInt8)⟩⟩]) (by kernel_rfl) (by kernel_rfl) rfl fun b2 => ?_)
  refine Ok.nil ?_
  refine Ok.thenN ?_
  refine Ok.seq ?_
  refine Ok.seq ?_
  refine Ok.region ?_
  refine Ok.op rfl (OpOk.step (v := .agg #[.int .i64 xv.1, .int .i64 xv.2.1, .string ⟨⟨xv.2.2⟩⟩]) (Yields.loadAgg 1 3 #[.int .i64 xv.1, .int .i64 xv.2.1, .string ⟨⟨xv.2.2⟩⟩] rfl rfl Tryd.underlying31 rfl (by kernel_rfl) (by kernel_rfl) (by kernel_rfl)) rfl rfl ?_)
  refine Ok.op rfl (OpOk.callG (v := .bool (vrM xv)) (enters (by kernel_rfl) (fun _ => by kernel_rfl)) (fun W hW => vr_c xv) rfl ?_)
  refine Ok.nil ?_
  refine Ok.thenN ?_
  refine Ok.cond (b := (vrM xv)) rfl (fun hc3 => ?_) (fun hc3 => ?_)
  · replace hF := hF.1 hc3
    refine Ok.seq ?_
    refine Ok.region ?_
    refine Ok.op rfl (OpOk.step (v := .agg #[.int .i64 xv.1, .int .i64 xv.2.1, .string ⟨⟨xv.2.2⟩⟩]) (Yields.loadAgg 1 3 #[.int .i64 xv.1, .int .i64 xv.2.1, .string ⟨⟨xv.2.2⟩⟩] rfl rfl Tryd.underlying31 rfl (by kernel_rfl) (by kernel_rfl) (by kernel_rfl)) rfl rfl ?_)
    refine Ok.op rfl (OpOk.store (k := 3) (v := .agg #[.int .i64 xv.1, .int .i64 xv.2.1, .string ⟨⟨xv.2.2⟩⟩]) (H' := [.blk b2 (.cells #[.int .i64 xv.1, .int .i64 xv.2.1, .string ⟨⟨xv.2.2⟩⟩] 31), .blk b1 (.cells #[.int .i64 xv.1, .int .i64 xv.2.1, .string ⟨⟨xv.2.2⟩⟩] 31)]) 0 rfl rfl rfl (by kernel_rfl) (by kernel_rfl) (by kernel_rfl) (by kernel_rfl) (by kernel_rfl) ?_)
    refine Ok.nil ?_
    refine Ok.thenN ?_
    refine Ok.ret ?_
    refine Ok.thenR ?_
    exact Ok.resP (vs := [.agg #[.int .i64 xv.1, .int .i64 xv.2.1, .string ⟨⟨xv.2.2⟩⟩]]) [] [] (by decide) rfl (.inl rfl) rfl (.cons (.cellAgg 0 3 #[.int .i64 xv.1, .int .i64 xv.2.1, .string ⟨⟨xv.2.2⟩⟩] rfl rfl Tryd.underlying31 rfl (by kernel_rfl) (by kernel_rfl) (by kernel_rfl)) .nil) (Gext.refl w0 g) ⟨xv, rfl, rfl, hF⟩
  · replace hF := hF.2 hc3
    refine Ok.skip ?_
    refine Ok.thenN ?_
    refine Ok.seq ?_
    refine Ok.region ?_
    refine Ok.batch 1 [(2, .pointer (some ⟨b2, 0, none⟩)), (6, .agg #[.int .i64 0, .int .i64 0, .string ⟨⟨([] : List UInt8)⟩⟩])] (by kernel_rfl) ?_
    refine Ok.op rfl (OpOk.store (k := 3) (v := .agg #[.int .i64 0, .int .i64 0, .string ⟨⟨([] : List UInt8)⟩⟩]) (H' := [.blk b2 (.cells #[.int .i64 0, .int .i64 0, .string ⟨⟨([] : List UInt8)⟩⟩] 31), .blk b1 (.cells #[.int .i64 xv.1, .int .i64 xv.2.1, .string ⟨⟨xv.2.2⟩⟩] 31)]) 0 rfl rfl rfl (by kernel_rfl) (by kernel_rfl) (by kernel_rfl) (by kernel_rfl) (by kernel_rfl) ?_)
    refine Ok.nil ?_
    refine Ok.thenN ?_
    refine Ok.ret ?_
    exact Ok.resP (vs := [.agg #[.int .i64 0, .int .i64 0, .string ⟨⟨([] : List UInt8)⟩⟩]]) [] [] (by decide) rfl (.inl rfl) rfl (.cons (.cellAgg 0 3 #[.int .i64 0, .int .i64 0, .string ⟨⟨([] : List UInt8)⟩⟩] rfl rfl Tryd.underlying31 rfl (by kernel_rfl) (by kernel_rfl) (by kernel_rfl)) .nil) (Gext.refl w0 g) ⟨(0, 0, ([] : List UInt8)), rfl, rfl, hF⟩
def takenM (xv : Int × Int × List UInt8) : (Int × Int × List UInt8) := (if (vrM xv) = true then xv else (0, 0, ([] : List UInt8)))
set_option linter.unusedSimpArgs false in
set_option linter.unusedVariables false in
theorem takenF_A (xv : Int × Int × List UInt8) (P : (Int × Int × List UInt8) → Prop) (h : P (takenM xv)) : takenF xv (fun k0 => P k0) := by
  unfold takenM at h
  unfold takenF
  refine ⟨fun hc0 => ?_, fun hc0 => ?_⟩
  · rw [if_t hc0] at h
    exact h
  · rw [if_f hc0] at h
    exact h
theorem taken_F (xv : Int × Int × List UInt8) : takenF xv (fun k0 => k0 = takenM xv) :=
  takenF_A xv (fun z => z = takenM xv) rfl
set_option linter.unusedVariables false in
theorem taken_c {g : Ghost} (xv : Int × Int × List UInt8)  : CallsG Tryd.prog 66 #[.agg #[.int .i64 xv.1, .int .i64 xv.2.1, .string ⟨⟨xv.2.2⟩⟩]] g (.agg #[.int .i64 (takenM xv).1, .int .i64 (takenM xv).2.1, .string ⟨⟨(takenM xv).2.2⟩⟩]) :=
  (taken_ok xv _ (taken_F xv)).gives (by rintro g' H' v _ ⟨r0, rfl, rfl, hK⟩; subst hK; rfl)
def istj5 (xv : Int × Int × List UInt8) (K : Bool → Prop) : Prop :=
  K ((decide (((takenM xv).1) > 3)) || ((decide (((takenM xv).1) > 0)) && (((((takenM xv).2).1) != 0) || (!((((takenM xv).2).2) == ([] : List UInt8))))))
def istF (xv : Int × Int × List UInt8) (K : Bool → Prop) : Prop :=
  ((decide (((takenM xv).1) > 3)) = true → istj5 xv K) ∧ ((decide (((takenM xv).1) > 3)) = false → ((decide (((takenM xv).1) > 0)) = true → ((((((takenM xv).2).1) != 0)) = true → istj5 xv K) ∧ ((((((takenM xv).2).1) != 0)) = false → istj5 xv K)) ∧ ((decide (((takenM xv).1) > 0)) = false → istj5 xv K))
set_option maxHeartbeats 4000000 in
set_option maxRecDepth 100000 in
set_option linter.unusedVariables false in
theorem ist_ok {g : Ghost} (xv : Int × Int × List UInt8) (K : Bool → Prop)
    (hF : istF xv K) : CallsH Tryd.prog 68 #[.agg #[.int .i64 xv.1, .int .i64 xv.2.1, .string ⟨⟨xv.2.2⟩⟩]] g [] (fun g' H' v => ∃ (r0 : Bool), v = .bool r0 ∧ H' = [] ∧ K r0) := by
  refine CallsH.enter 23 [(0, .agg #[.int .i64 xv.1, .int .i64 xv.2.1, .string ⟨⟨xv.2.2⟩⟩])] Tryd.func68 rfl (by kernel_rfl) (by kernel_rfl) (by kernel_rfl) fun w0 => ?_
  refine Ok.seq ?_
  refine Ok.region ?_
  refine Ok.op rfl (OpOk.box (v := .agg #[.int .i64 xv.1, .int .i64 xv.2.1, .string ⟨⟨xv.2.2⟩⟩]) (cs := #[.int .i64 xv.1, .int .i64 xv.2.1, .string ⟨⟨xv.2.2⟩⟩]) rfl (by kernel_rfl) rfl fun b1 => ?_)
  refine Ok.batch 1 [(1, .pointer (some ⟨b1, 0, none⟩))] (by kernel_rfl) ?_
  refine Ok.nil ?_
  refine Ok.thenN ?_
  refine Ok.seq ?_
  refine Ok.region ?_
  refine Ok.op rfl (OpOk.step (v := .agg #[.int .i64 xv.1, .int .i64 xv.2.1, .string ⟨⟨xv.2.2⟩⟩]) (Yields.loadAgg 0 3 #[.int .i64 xv.1, .int .i64 xv.2.1, .string ⟨⟨xv.2.2⟩⟩] rfl rfl Tryd.underlying31 rfl (by kernel_rfl) (by kernel_rfl) (by kernel_rfl)) rfl rfl ?_)
  refine Ok.op rfl (OpOk.callG (v := .agg #[.int .i64 ((takenM xv).1), .int .i64 (((takenM xv).2).1), .string ⟨⟨((takenM xv).2).2⟩⟩]) (enters (by kernel_rfl) (fun _ => by kernel_rfl)) (fun W hW => taken_c xv) rfl ?_)
  refine Ok.op rfl (OpOk.store (k := 3) (v := .agg #[.int .i64 ((takenM xv).1), .int .i64 (((takenM xv).2).1), .string ⟨⟨((takenM xv).2).2⟩⟩]) (H' := [.blk b1 (.cells #[.int .i64 ((takenM xv).1), .int .i64 (((takenM xv).2).1), .string ⟨⟨((takenM xv).2).2⟩⟩] 31)]) 0 rfl rfl rfl (by kernel_rfl) (by kernel_rfl) (by kernel_rfl) (by kernel_rfl) (by kernel_rfl) ?_)
  refine Ok.nil ?_
  refine Ok.thenN ?_
  refine Ok.cut (fun a W => StA 23 [(2, .bool ((decide (((takenM xv).1) > 3)) || ((decide (((takenM xv).1) > 0)) && (((((takenM xv).2).1) != 0) || (!((((takenM xv).2).2) == ([] : List UInt8)))))))] a ∧ StW w0 [] g W ∧ istj5 xv K) ?_ ?_
  ·
    refine Ok.region ?_
    refine Ok.batch 1 [(1, .pointer (some ⟨b1, 0, none⟩)), (5, .pointer (some ⟨b1, 0, none⟩))] (by kernel_rfl) ?_
    refine Ok.op rfl (OpOk.step (v := .int .i64 ((takenM xv).1)) (Yields.load 0 rfl rfl Tryd.underlying3 rfl (by kernel_rfl)) rfl rfl ?_)
    refine Ok.batch 2 [(1, .pointer (some ⟨b1, 0, none⟩)), (8, .bool (decide (((takenM xv).1) > 3)))] (by kernel_rfl) ?_
    refine Ok.boolAt 8 (decide (((takenM xv).1) > 3)) rfl (fun hc2 => ?_) (fun hc2 => ?_)
    · replace hF := hF.1 hc2
      refine Ok.batch 15 [(2, .bool true)] (by kernel_rfl) ?_
      refine Ok.nil ?_
      refine Ok.thenN ?_
      refine Ok.reval 2 rfl (show (.bool true : Value) = .bool ((decide (((takenM xv).1) > 3)) || ((decide (((takenM xv).1) > 0)) && (((((takenM xv).2).1) != 0) || (!((((takenM xv).2).2) == ([] : List UInt8)))))) from congrArg (Value.bool) (mor_t hc2)) ?_
      exact fun a W hA hW => ⟨hA.sub (by kernel_rfl), hW.sub (.cons _ .slnil), hF⟩
    · replace hF := hF.2 hc2
      refine Ok.batch 1 [(1, .pointer (some ⟨b1, 0, none⟩)), (8, .bool false), (9, .pointer (some ⟨b1, 0, none⟩))] (by kernel_rfl) ?_
      refine Ok.opYes (j := 3) (d := 8) (want := false) (b := false) rfl (by kernel_rfl) (by kernel_rfl) rfl (OpOk.step (v := .int .i64 ((takenM xv).1)) (Yields.load 0 rfl rfl Tryd.underlying3 rfl (by kernel_rfl)) rfl rfl ?_)
      refine Ok.batch 2 [(1, .pointer (some ⟨b1, 0, none⟩)), (8, .bool false), (12, .bool (decide (((takenM xv).1) > 0)))] (by kernel_rfl) ?_
      refine Ok.boolAt 12 (decide (((takenM xv).1) > 0)) rfl (fun hc3 => ?_) (fun hc3 => ?_)
      · replace hF := hF.1 hc3
        refine Ok.batch 1 [(1, .pointer (some ⟨b1, 0, none⟩)), (8, .bool false), (12, .bool true), (13, .pointer (some ⟨b1, 1, none⟩))] (by kernel_rfl) ?_
        refine Ok.opYes (j := 7) (d := 12) (want := true) (b := true) rfl (by kernel_rfl) (by kernel_rfl) rfl (OpOk.step (v := .int .i64 (((takenM xv).2).1)) (Yields.load 0 rfl rfl Tryd.underlying3 rfl (by kernel_rfl)) rfl rfl ?_)
        refine Ok.batch 2 [(1, .pointer (some ⟨b1, 0, none⟩)), (8, .bool false), (12, .bool true), (16, .bool ((((takenM xv).2).1) != 0))] (by kernel_rfl) ?_
        refine Ok.boolAt 16 (((((takenM xv).2).1) != 0)) rfl (fun hc4 => ?_) (fun hc4 => ?_)
        · replace hF := hF.1 hc4
          refine Ok.batch 7 [(2, .bool true)] (by kernel_rfl) ?_
          refine Ok.nil ?_
          refine Ok.thenN ?_
          refine Ok.reval 2 rfl (show (.bool true : Value) = .bool ((decide (((takenM xv).1) > 3)) || ((decide (((takenM xv).1) > 0)) && (((((takenM xv).2).1) != 0) || (!((((takenM xv).2).2) == ([] : List UInt8)))))) from congrArg (Value.bool) ((Eq.trans ((Eq.trans (mor_t hc4) (mand_t hc3))) (mor_f hc2)))) ?_
          exact fun a W hA hW => ⟨hA.sub (by kernel_rfl), hW.sub (.cons _ .slnil), hF⟩
        · replace hF := hF.2 hc4
          refine Ok.batch 1 [(8, .bool false), (12, .bool true), (16, .bool false), (17, .pointer (some ⟨b1, 2, none⟩))] (by kernel_rfl) ?_
          refine Ok.opYes (j := 11) (d := 16) (want := false) (b := false) rfl (by kernel_rfl) (by kernel_rfl) rfl (OpOk.step (v := .string ⟨⟨((takenM xv).2).2⟩⟩) (Yields.load 0 rfl rfl Tryd.underlying9 rfl (by kernel_rfl)) rfl rfl ?_)
          refine Ok.opYes (j := 11) (d := 16) (want := false) (b := false) rfl (by kernel_rfl) (by kernel_rfl) rfl (OpOk.step (v := .bool (!((((takenM xv).2).2) == ([] : List UInt8)))) (Yields.strCmp (f := .neq) (a := (((takenM xv).2).2)) (b := ([] : List UInt8)) (by kernel_rfl) (by kernel_rfl) rfl) rfl rfl ?_)
          refine Ok.batch 4 [(2, .bool (!((((takenM xv).2).2) == ([] : List UInt8))))] (by kernel_rfl) ?_
          refine Ok.nil ?_
          refine Ok.thenN ?_
          refine Ok.reval 2 rfl (show (.bool (!((((takenM xv).2).2) == ([] : List UInt8))) : Value) = .bool ((decide (((takenM xv).1) > 3)) || ((decide (((takenM xv).1) > 0)) && (((((takenM xv).2).1) != 0) || (!((((takenM xv).2).2) == ([] : List UInt8)))))) from congrArg (Value.bool) ((Eq.trans ((Eq.trans (mor_f hc4) (mand_t hc3))) (mor_f hc2)))) ?_
          exact fun a W hA hW => ⟨hA.sub (by kernel_rfl), hW.sub (.cons _ .slnil), hF⟩
      · replace hF := hF.2 hc3
        refine Ok.batch 11 [(2, .bool false)] (by kernel_rfl) ?_
        refine Ok.nil ?_
        refine Ok.thenN ?_
        refine Ok.reval 2 rfl (show (.bool false : Value) = .bool ((decide (((takenM xv).1) > 3)) || ((decide (((takenM xv).1) > 0)) && (((((takenM xv).2).1) != 0) || (!((((takenM xv).2).2) == ([] : List UInt8)))))) from congrArg (Value.bool) ((Eq.trans (mand_f hc3) (mor_f hc2)))) ?_
        exact fun a W hA hW => ⟨hA.sub (by kernel_rfl), hW.sub (.cons _ .slnil), hF⟩
  ·
    rintro a W ⟨hA, hW, hF⟩
    refine (?_ : Ok _ _ _ _ _ _) a W hA hW
    clear hA hW
    refine Ok.ret ?_
    exact Ok.resH (vs := [.bool ((decide (((takenM xv).1) > 3)) || ((decide (((takenM xv).1) > 0)) && (((((takenM xv).2).1) != 0) || (!((((takenM xv).2).2) == ([] : List UInt8))))))]) (.inl rfl) rfl (.cons (.tmp rfl) .nil) (Gext.refl w0 g) ⟨((decide (((takenM xv).1) > 3)) || ((decide (((takenM xv).1) > 0)) && (((((takenM xv).2).1) != 0) || (!((((takenM xv).2).2) == ([] : List UInt8)))))), rfl, rfl, hF⟩
def istj5M (xv : Int × Int × List UInt8) : Bool := ((decide (((takenM xv).1) > 3)) || ((decide (((takenM xv).1) > 0)) && (((((takenM xv).2).1) != 0) || (!((((takenM xv).2).2) == ([] : List UInt8))))))
set_option linter.unusedSimpArgs false in
set_option linter.unusedVariables false in
theorem istj5_A (xv : Int × Int × List UInt8) (P : Bool → Prop) (h : P (istj5M xv)) : istj5 xv (fun k0 => P k0) := by
  unfold istj5M at h
  unfold istj5
  exact h
def istM (xv : Int × Int × List UInt8) : Bool := (istj5M xv)
set_option linter.unusedSimpArgs false in
set_option linter.unusedVariables false in
theorem istF_A (xv : Int × Int × List UInt8) (P : Bool → Prop) (h : P (istM xv)) : istF xv (fun k0 => P k0) := by
  unfold istM at h
  unfold istF
  refine ⟨fun hc0 => ?_, fun hc0 => ?_⟩
  · skip
    have hd0 := hc0; try simp only [Bool.and_eq_true, Bool.or_eq_true, Bool.and_eq_false_iff, Bool.or_eq_false_iff, Bool.not_eq_true', Bool.not_eq_false', decide_eq_true_eq, decide_eq_false_iff_not, beq_iff_eq, beq_eq_false_iff_ne, ne_eq] at hd0
    exact istj5_A xv _ h
  · skip
    have hd0 := hc0; try simp only [Bool.and_eq_true, Bool.or_eq_true, Bool.and_eq_false_iff, Bool.or_eq_false_iff, Bool.not_eq_true', Bool.not_eq_false', decide_eq_true_eq, decide_eq_false_iff_not, beq_iff_eq, beq_eq_false_iff_ne, ne_eq] at hd0
    refine ⟨fun hc1 => ?_, fun hc1 => ?_⟩
    · skip
      have hd1 := hc1; try simp only [Bool.and_eq_true, Bool.or_eq_true, Bool.and_eq_false_iff, Bool.or_eq_false_iff, Bool.not_eq_true', Bool.not_eq_false', decide_eq_true_eq, decide_eq_false_iff_not, beq_iff_eq, beq_eq_false_iff_ne, ne_eq] at hd1
      refine ⟨fun hc2 => ?_, fun hc2 => ?_⟩
      · skip
        exact istj5_A xv _ h
      · skip
        exact istj5_A xv _ h
    · skip
      have hd1 := hc1; try simp only [Bool.and_eq_true, Bool.or_eq_true, Bool.and_eq_false_iff, Bool.or_eq_false_iff, Bool.not_eq_true', Bool.not_eq_false', decide_eq_true_eq, decide_eq_false_iff_not, beq_iff_eq, beq_eq_false_iff_ne, ne_eq] at hd1
      exact istj5_A xv _ h
theorem ist_F (xv : Int × Int × List UInt8) : istF xv (fun k0 => k0 = istM xv) :=
  istF_A xv (fun z => z = istM xv) rfl
set_option linter.unusedVariables false in
theorem ist_c {g : Ghost} (xv : Int × Int × List UInt8)  : CallsG Tryd.prog 68 #[.agg #[.int .i64 xv.1, .int .i64 xv.2.1, .string ⟨⟨xv.2.2⟩⟩]] g (.bool (istM xv)) :=
  (ist_ok xv _ (ist_F xv)).gives (by rintro g' H' v _ ⟨r0, rfl, rfl, hK⟩; subst hK; rfl)
def digS (n : Int) : List UInt8 := Lib.decDigits n.toNat
def digP (N : Nat) (n : Int) : Prop := 0 ≤ n ∧ n < 10 ^ N ∧ (1 ≤ N ∧ N ≤ 100) ∧ n ≤ 9223372036854775807
def dig_C (N : Nat) : Prop := ∀ (g : Ghost) (xn : Int)  (hp : digP N xn), CallsG Tryd.prog 136 #[.int .i64 xn] g (.string ⟨⟨(digS xn)⟩⟩)
def digF (N : Nat) (xn : Int) (K : (List UInt8) → Prop) : Prop :=
  ((decide (xn < 10)) = true → (0 : Int) ≤ xn ∧ xn ≤ (IntKind.wrap .i64 (xn + 1)) ∧ (IntKind.wrap .i64 (xn + 1)) ≤ (([48, 49, 50, 51, 52, 53, 54, 55, 56, 57] : List UInt8).length : Int) ∧ K ((([48, 49, 50, 51, 52, 53, 54, 55, 56, 57] : List UInt8).take (Int.toNat (IntKind.wrap .i64 (xn + 1)))).drop (Int.toNat xn))) ∧ ((decide (xn < 10)) = false → digP N (IntKind.wrap .i64 (Int.tdiv xn 10)) ∧ digP N (Int.tmod xn 10) ∧ (digS (IntKind.wrap .i64 (Int.tdiv xn 10))).length + (digS (Int.tmod xn 10)).length ≤ maxLen ∧ K ((digS (IntKind.wrap .i64 (Int.tdiv xn 10))) ++ (digS (Int.tmod xn 10))))
set_option maxHeartbeats 4000000 in
set_option maxRecDepth 100000 in
set_option linter.unusedVariables false in
theorem dig_ok {g : Ghost} (N : Nat) (ih_dig : dig_C N) (xn : Int) (K : (List UInt8) → Prop)
    (hF : digF N xn K) : CallsH Tryd.prog 136 #[.int .i64 xn] g [] (fun g' H' v => ∃ (r0 : List UInt8), v = .string ⟨⟨r0⟩⟩ ∧ H' = [] ∧ K r0) := by
  refine CallsH.enter 16 [(0, .int .i64 xn)] Tryd.func136 rfl (by kernel_rfl) (by kernel_rfl) (by kernel_rfl) fun w0 => ?_
  refine Ok.seq ?_
  refine Ok.region ?_
  refine Ok.batch 1 [(0, .int .i64 xn)] (by kernel_rfl) ?_
  refine Ok.nil ?_
  refine Ok.thenN ?_
  refine Ok.seq ?_
  refine Ok.seq ?_
  refine Ok.region ?_
  refine Ok.batch 2 [(0, .int .i64 xn), (4, .bool (decide (xn < 10)))] (by kernel_rfl) ?_
  refine Ok.nil ?_
  refine Ok.thenN ?_
  refine Ok.cond (b := decide (xn < 10)) rfl (fun hc1 => ?_) (fun hc1 => ?_)
  · replace hF := hF.1 hc1
    refine Ok.seq ?_
    refine Ok.region ?_
    refine Ok.batch 3 [(5, .int .i64 xn), (7, .int .i64 (IntKind.wrap .i64 (xn + 1)))] (by kernel_rfl) ?_
    obtain ⟨h02, h12, h22, hF⟩ := hF
    refine Ok.op rfl (OpOk.step (v := .string ⟨⟨(([48, 49, 50, 51, 52, 53, 54, 55, 56, 57] : List UInt8).take (Int.toNat (IntKind.wrap .i64 (xn + 1)))).drop (Int.toNat xn)⟩⟩) (Yields.sliceStr (s := ([48, 49, 50, 51, 52, 53, 54, 55, 56, 57] : List UInt8)) (l := xn) (h := (IntKind.wrap .i64 (xn + 1))) (by kernel_rfl) Tryd.underlying9 (.inl ⟨_, _, rfl, rfl⟩) (.inl ⟨_, _, rfl, rfl⟩) h02 h12 h22 ((([48, 49, 50, 51, 52, 53, 54, 55, 56, 57] : List UInt8).take (Int.toNat (IntKind.wrap .i64 (xn + 1)))).drop (Int.toNat xn)) rfl) rfl rfl ?_)
    refine Ok.batch 1 [(2, .string ⟨⟨(([48, 49, 50, 51, 52, 53, 54, 55, 56, 57] : List UInt8).take (Int.toNat (IntKind.wrap .i64 (xn + 1)))).drop (Int.toNat xn)⟩⟩)] (by kernel_rfl) ?_
    refine Ok.nil ?_
    refine Ok.thenN ?_
    refine Ok.ret ?_
    refine Ok.thenR ?_
    exact Ok.resH (vs := [.string ⟨⟨(([48, 49, 50, 51, 52, 53, 54, 55, 56, 57] : List UInt8).take (Int.toNat (IntKind.wrap .i64 (xn + 1)))).drop (Int.toNat xn)⟩⟩]) (.inl rfl) rfl (.cons (.tmp rfl) .nil) (Gext.refl w0 g) ⟨((([48, 49, 50, 51, 52, 53, 54, 55, 56, 57] : List UInt8).take (Int.toNat (IntKind.wrap .i64 (xn + 1)))).drop (Int.toNat xn)), rfl, rfl, hF⟩
  · replace hF := hF.2 hc1
    refine Ok.skip ?_
    refine Ok.thenN ?_
    refine Ok.seq ?_
    refine Ok.region ?_
    refine Ok.batch 2 [(0, .int .i64 xn), (10, .int .i64 (IntKind.wrap .i64 (Int.tdiv xn 10)))] (by kernel_rfl) ?_
    obtain ⟨hp3, hF⟩ := hF
    refine Ok.op rfl (OpOk.callG (v := .string ⟨⟨(digS (IntKind.wrap .i64 (Int.tdiv xn 10)))⟩⟩) (enters (by kernel_rfl) (fun _ => by kernel_rfl)) (fun W hW => ih_dig _ (IntKind.wrap .i64 (Int.tdiv xn 10)) hp3) rfl ?_)
    refine Ok.batch 2 [(11, .string ⟨⟨(digS (IntKind.wrap .i64 (Int.tdiv xn 10)))⟩⟩), (13, .int .i64 (Int.tmod xn 10))] (by kernel_rfl) ?_
    obtain ⟨hp4, hF⟩ := hF
    refine Ok.op rfl (OpOk.callG (v := .string ⟨⟨(digS (Int.tmod xn 10))⟩⟩) (enters (by kernel_rfl) (fun _ => by kernel_rfl)) (fun W hW => ih_dig _ (Int.tmod xn 10) hp4) rfl ?_)
    obtain ⟨hv, hF⟩ := hF
    refine Ok.op rfl (OpOk.step (v := .string ⟨⟨(digS (IntKind.wrap .i64 (Int.tdiv xn 10))) ++ (digS (Int.tmod xn 10))⟩⟩) (Yields.strAdd rfl rfl hv) rfl rfl ?_)
    refine Ok.batch 1 [(2, .string ⟨⟨(digS (IntKind.wrap .i64 (Int.tdiv xn 10))) ++ (digS (Int.tmod xn 10))⟩⟩)] (by kernel_rfl) ?_
    refine Ok.nil ?_
    refine Ok.thenN ?_
    refine Ok.ret ?_
    exact Ok.resH (vs := [.string ⟨⟨(digS (IntKind.wrap .i64 (Int.tdiv xn 10))) ++ (digS (Int.tmod xn 10))⟩⟩]) (.inl rfl) rfl (.cons (.tmp rfl) .nil) (Gext.refl w0 g) ⟨((digS (IntKind.wrap .i64 (Int.tdiv xn 10))) ++ (digS (Int.tmod xn 10))), rfl, rfl, hF⟩
theorem dig_0 (n : Int) : ¬ digP 0 n := fun h => by have := h.2.2.1.1; omega
theorem decDigits_small {u : Nat} : ∀ (N : Nat), u < 10 ^ (N + 1) → (Lib.decDigits u).length ≤ N + 1 := by
  intro N
  induction N generalizing u with
  | zero => intro h; rw [Lib.decDigits, dif_pos (by simpa using h)]; simp
  | succ N ih =>
    intro h
    rw [Lib.decDigits]
    split
    · simp
    · have := ih (u := u / 10) (by rw [Nat.pow_succ] at h; omega)
      simp; omega
theorem pow_cast (N : Nat) : ((10 ^ N : Nat) : Int) = (10 : Int) ^ N := by simp
theorem dig_F (N : Nat) (n : Int) (h : digP (N + 1) n) : digF N n (fun r => r = digS n) := by
  obtain ⟨h0, h1, hN, hm⟩ := h
  obtain ⟨u, rfl⟩ : ∃ u : Nat, n = u := ⟨n.toNat, by omega⟩
  rw [← pow_cast] at h1
  have h1 : u < 10 ^ (N + 1) := by omega
  unfold digF
  refine ⟨fun h => ?_, fun h => ?_⟩
  · have h := of_decide_eq_true h
    have hu : u < 10 := by omega
    rw [w64 (by omega)]
    refine ⟨by omega, by omega, by simp; omega, ?_⟩
    unfold digS
    rw [Int.toNat_natCast, Lib.decDigits, dif_pos hu]
    have key : ∀ q : Fin 10, (([48, 49, 50, 51, 52, 53, 54, 55, 56, 57] : List UInt8).take ((q : Nat) + 1)).drop q = [UInt8.ofNat (48 + q)] := by decide
    rw [show ((u : Int) + 1).toNat = u + 1 by omega]
    exact key ⟨u, hu⟩
  · have h := of_decide_eq_false h
    have hu : ¬ u < 10 := by omega
    have h104 : 10 ^ (N + 1) ≤ 10 ^ 100 := Nat.pow_le_pow_right (by decide) hN.2
    have e1 : Int.tdiv (u : Int) 10 = ((u / 10 : Nat) : Int) := by rw [Int.tdiv_eq_ediv_of_nonneg (by omega)]; omega
    have e2 : Int.tmod (u : Int) 10 = ((u % 10 : Nat) : Int) := by rw [Int.tmod_eq_emod_of_nonneg (by omega)]; omega
    have hN1 : 1 ≤ N := by
      rcases Nat.eq_zero_or_pos N with h | h
      · subst h; simp at h1; omega
      · exact h
    obtain ⟨M, rfl⟩ : ∃ M, N = M + 1 := ⟨N - 1, by omega⟩
    have h10 : 10 ≤ 10 ^ (M + 1) := by rw [Nat.pow_succ]; have := Nat.pow_pos (n := M) (show 0 < 10 by decide); omega
    have hq : u / 10 < 10 ^ (M + 1) := by rw [Nat.pow_succ] at h1; omega
    rw [e1, e2, w64 (by omega)]
    have l1 := decDigits_small M hq
    have l2 : (Lib.decDigits (u % 10)).length = 1 := by rw [Lib.decDigits, dif_pos (by omega)]; rfl
    refine ⟨⟨by omega, by rw [← pow_cast]; omega, by omega, by omega⟩, ⟨by omega, by rw [← pow_cast]; omega, by omega, by omega⟩, ?_, ?_⟩
    · unfold digS
      rw [Int.toNat_natCast, Int.toNat_natCast, l2, maxLen_eq]
      omega
    · unfold digS
      rw [Int.toNat_natCast, Int.toNat_natCast, Int.toNat_natCast]
      have e3 := Lib.decDigits.eq_def u
      rw [dif_neg hu] at e3
      have e4 := Lib.decDigits.eq_def (u % 10)
      rw [dif_pos (by omega)] at e4
      rw [e3, e4]
set_option linter.unusedVariables false in
theorem dig_rec : ∀ N, dig_C N
  | 0 => (by intro g xn hp; exact (dig_0 xn hp).elim)
  | N + 1 =>
    have ih := dig_rec N
    (by intro g xn hp; exact (dig_ok N ih xn _ (dig_F N xn hp)).gives (by rintro g' H' v _ ⟨r0, rfl, rfl, hK⟩; subst hK; rfl))
def digPE (xn : Int) : Prop := ∃ N, digP N xn
set_option linter.unusedVariables false in
theorem dig_c {g : Ghost} (xn : Int)  (hp : digPE xn) : CallsG Tryd.prog 136 #[.int .i64 xn] g (.string ⟨⟨(digS xn)⟩⟩) := by
  obtain ⟨N, hp⟩ := hp
  exact (dig_rec N) _ xn hp
theorem dig_ok' {n : Int} (h : 0 ≤ n ∧ n ≤ 9223372036854775807) : digPE n := ⟨20, h.1, by have : (10 : Int) ^ 20 = 100000000000000000000 := rfl; omega, by omega, h.2⟩
theorem dig_len {n : Int} (h : 0 ≤ n ∧ n ≤ 9223372036854775807) : (digS n).length ≤ 20 := by
  unfold digS
  refine decDigits_small 19 ?_
  have : (10 : Nat) ^ 20 = 100000000000000000000 := rfl
  omega
theorem chk_vr (v : JV) : vrM v = chkM v := by
  obtain ⟨k, n, s⟩ := v
  unfold vrM chkM vrj5M vrj16M vrj24M vrj32M vrj40M chkj10M chkj16M chkj22M chkj28M chkj34M btwM witM
  by_cases h0 : k = 0
  · subst h0; simp
  by_cases h1 : k = 1
  · subst h1; rw [Bool.eq_iff_iff]; simp; constructor
    · rintro (⟨rfl, rfl⟩ | ⟨rfl, rfl⟩) <;> simp
    · rintro ⟨⟨a, b⟩, rfl⟩; simp; omega
  by_cases h2 : k = 2
  · subst h2; rw [Bool.eq_iff_iff]; simp; constructor
    · rintro ⟨rfl, a, b⟩; exact ⟨⟨a, b⟩, rfl⟩
    · rintro ⟨⟨a, b⟩, rfl⟩; exact ⟨rfl, a, b⟩
  by_cases h3 : k = 3
  · subst h3; rw [Bool.eq_iff_iff]; simp; exact And.comm
  by_cases h4 : k = 4
  · subst h4; rw [Bool.eq_iff_iff]; simp; constructor
    · rintro ⟨rfl, a⟩; exact ⟨by omega, rfl⟩
    · rintro ⟨a, rfl⟩; exact ⟨rfl, by omega⟩
  by_cases h5 : k = 5
  · subst h5; simp
  · simp [h0, h1, h2, h3, h4, h5]
theorem right_taken (v : JV) : takenM v = rightM v := by
  unfold takenM rightM
  rw [chk_vr]
  cases chkM v <;> rfl
theorem right_bool {v : JV} (h : (rightM v).1 = 1) : (rightM v).2.1 = 0 ∨ (rightM v).2.1 = 1 := by
  rcases right_cases v with ⟨h1, e⟩ | ⟨_, e⟩
  · rw [e] at h ⊢
    unfold chkM at h1
    rw [if_f (by rw [h]; rfl), if_t (by rw [h]; rfl)] at h1
    unfold chkj16M witM at h1
    simp at h1
    omega
  · rw [e] at h; cases h
theorem right_num {v : JV} (h : (rightM v).1 = 2) : -9007199254740992 ≤ (rightM v).2.1 ∧ (rightM v).2.1 ≤ 9007199254740992 := by
  rcases right_cases v with ⟨h1, e⟩ | ⟨_, e⟩
  · rw [e] at h ⊢
    unfold chkM at h1
    rw [if_f (by rw [h]; rfl), if_f (by rw [h]; rfl), if_t (by rw [h]; rfl)] at h1
    unfold chkj22M witM at h1
    simp at h1
    omega
  · rw [e] at h; cases h
theorem taken_num {v : JV} (h : (takenM v).1 = 2) : -9007199254740992 ≤ (takenM v).2.1 ∧ (takenM v).2.1 ≤ 9007199254740992 := by
  rw [right_taken] at h ⊢; exact right_num h
theorem taken_len {v : JV} (h : textP v) : (takenM v).2.2.length ≤ 140737488351232 := by
  rw [right_taken]; exact right_len h
def shownF (xv : Int × Int × List UInt8) (K : (List UInt8) → Prop) : Prop :=
  (((((takenM xv).1) == 1)) = true → ((((((takenM xv).2).1) == 0)) = true → K ([102, 97, 108, 115, 101] : List UInt8)) ∧ ((((((takenM xv).2).1) == 0)) = false → K ([116, 114, 117, 101] : List UInt8))) ∧ (((((takenM xv).1) == 1)) = false → (((((takenM xv).1) == 2)) = true → ((decide ((((takenM xv).2).1) < 0)) = true → digPE (IntKind.wrap .i64 (0 - (((takenM xv).2).1))) ∧ ([45] : List UInt8).length + (digS (IntKind.wrap .i64 (0 - (((takenM xv).2).1)))).length ≤ maxLen ∧ K (([45] : List UInt8) ++ (digS (IntKind.wrap .i64 (0 - (((takenM xv).2).1)))))) ∧ ((decide ((((takenM xv).2).1) < 0)) = false → digPE (((takenM xv).2).1) ∧ K (digS (((takenM xv).2).1)))) ∧ (((((takenM xv).1) == 2)) = false → (((((takenM xv).1) == 3)) = true → K (((takenM xv).2).2)) ∧ (((((takenM xv).1) == 3)) = false → (((((takenM xv).1) == 4)) = true → K ([91, 114, 101, 102, 93] : List UInt8)) ∧ (((((takenM xv).1) == 4)) = false → (((((takenM xv).1) == 5)) = true → ([91, 99, 97, 108, 108, 32] : List UInt8).length + (((takenM xv).2).2).length ≤ maxLen ∧ (([91, 99, 97, 108, 108, 32] : List UInt8) ++ (((takenM xv).2).2)).length + ([93] : List UInt8).length ≤ maxLen ∧ K ((([91, 99, 97, 108, 108, 32] : List UInt8) ++ (((takenM xv).2).2)) ++ ([93] : List UInt8))) ∧ (((((takenM xv).1) == 5)) = false → K ([110, 117, 108, 108] : List UInt8))))))
set_option maxHeartbeats 4000000 in
set_option maxRecDepth 100000 in
set_option linter.unusedVariables false in
theorem shown_ok {g : Ghost} (xv : Int × Int × List UInt8) (K : (List UInt8) → Prop)
    (hF : shownF xv K) : CallsH Tryd.prog 70 #[.agg #[.int .i64 xv.1, .int .i64 xv.2.1, .string ⟨⟨xv.2.2⟩⟩]] g [] (fun g' H' v => ∃ (r0 : List UInt8), v = .string ⟨⟨r0⟩⟩ ∧ H' = [] ∧ K r0) := by
  refine CallsH.enter 37 [(0, .agg #[.int .i64 xv.1, .int .i64 xv.2.1, .string ⟨⟨xv.2.2⟩⟩])] Tryd.func70 rfl (by kernel_rfl) (by kernel_rfl) (by kernel_rfl) fun w0 => ?_
  refine Ok.seq ?_
  refine Ok.region ?_
  refine Ok.op rfl (OpOk.box (v := .agg #[.int .i64 xv.1, .int .i64 xv.2.1, .string ⟨⟨xv.2.2⟩⟩]) (cs := #[.int .i64 xv.1, .int .i64 xv.2.1, .string ⟨⟨xv.2.2⟩⟩]) rfl (by kernel_rfl) rfl fun b1 => ?_)
  refine Ok.batch 1 [(1, .pointer (some ⟨b1, 0, none⟩))] (by kernel_rfl) ?_
  refine Ok.nil ?_
  refine Ok.thenN ?_
  refine Ok.seq ?_
  refine Ok.region ?_
  refine Ok.op rfl (OpOk.step (v := .agg #[.int .i64 xv.1, .int .i64 xv.2.1, .string ⟨⟨xv.2.2⟩⟩]) (Yields.loadAgg 0 3 #[.int .i64 xv.1, .int .i64 xv.2.1, .string ⟨⟨xv.2.2⟩⟩] rfl rfl Tryd.underlying31 rfl (by kernel_rfl) (by kernel_rfl) (by kernel_rfl)) rfl rfl ?_)
  refine Ok.op rfl (OpOk.callG (v := .agg #[.int .i64 ((takenM xv).1), .int .i64 (((takenM xv).2).1), .string ⟨⟨((takenM xv).2).2⟩⟩]) (enters (by kernel_rfl) (fun _ => by kernel_rfl)) (fun W hW => taken_c xv) rfl ?_)
  refine Ok.op rfl (OpOk.store (k := 3) (v := .agg #[.int .i64 ((takenM xv).1), .int .i64 (((takenM xv).2).1), .string ⟨⟨((takenM xv).2).2⟩⟩]) (H' := [.blk b1 (.cells #[.int .i64 ((takenM xv).1), .int .i64 (((takenM xv).2).1), .string ⟨⟨((takenM xv).2).2⟩⟩] 31)]) 0 rfl rfl rfl (by kernel_rfl) (by kernel_rfl) (by kernel_rfl) (by kernel_rfl) (by kernel_rfl) ?_)
  refine Ok.nil ?_
  refine Ok.thenN ?_
  refine Ok.seq ?_
  refine Ok.seq ?_
  refine Ok.region ?_
  refine Ok.batch 1 [(1, .pointer (some ⟨b1, 0, none⟩)), (5, .pointer (some ⟨b1, 0, none⟩))] (by kernel_rfl) ?_
  refine Ok.op rfl (OpOk.step (v := .int .i64 ((takenM xv).1)) (Yields.load 0 rfl rfl Tryd.underlying3 rfl (by kernel_rfl)) rfl rfl ?_)
  refine Ok.nil ?_
  refine Ok.thenN ?_
  refine Ok.block ?_
  refine Ok.seq ?_
  refine Ok.region ?_
  refine Ok.batch 2 [(1, .pointer (some ⟨b1, 0, none⟩)), (6, .int .i64 ((takenM xv).1)), (7, .bool (((takenM xv).1) == 1))] (by kernel_rfl) ?_
  refine Ok.nil ?_
  refine Ok.thenN ?_
  refine Ok.cond (b := (((takenM xv).1) == 1)) rfl (fun hc2 => ?_) (fun hc2 => ?_)
  · replace hF := hF.1 hc2
    refine Ok.seq ?_
    refine Ok.seq ?_
    refine Ok.region ?_
    refine Ok.batch 1 [(9, .pointer (some ⟨b1, 1, none⟩))] (by kernel_rfl) ?_
    refine Ok.op rfl (OpOk.step (v := .int .i64 (((takenM xv).2).1)) (Yields.load 0 rfl rfl Tryd.underlying3 rfl (by kernel_rfl)) rfl rfl ?_)
    refine Ok.batch 1 [(11, .bool ((((takenM xv).2).1) == 0))] (by kernel_rfl) ?_
    refine Ok.nil ?_
    refine Ok.thenN ?_
    refine Ok.cond (b := ((((takenM xv).2).1) == 0)) rfl (fun hc3 => ?_) (fun hc3 => ?_)
    · replace hF := hF.1 hc3
      refine Ok.seq ?_
      refine Ok.region ?_
      refine Ok.batch 1 [(2, .string ⟨⟨([102, 97, 108, 115, 101] : List UInt8)⟩⟩)] (by kernel_rfl) ?_
      refine Ok.nil ?_
      refine Ok.thenN ?_
      refine Ok.ret ?_
      refine Ok.thenR ?_
      refine Ok.blockR ?_
      refine Ok.thenR ?_
      exact Ok.resP (vs := [.string ⟨⟨([102, 97, 108, 115, 101] : List UInt8)⟩⟩]) [] [] (by decide) rfl (.inl rfl) rfl (.cons (.tmp rfl) .nil) (Gext.refl w0 g) ⟨([102, 97, 108, 115, 101] : List UInt8), rfl, rfl, hF⟩
    · replace hF := hF.2 hc3
      refine Ok.skip ?_
      refine Ok.thenN ?_
      refine Ok.seq ?_
      refine Ok.region ?_
      refine Ok.batch 1 [(2, .string ⟨⟨([116, 114, 117, 101] : List UInt8)⟩⟩)] (by kernel_rfl) ?_
      refine Ok.nil ?_
      refine Ok.thenN ?_
      refine Ok.ret ?_
      refine Ok.blockR ?_
      refine Ok.thenR ?_
      exact Ok.resP (vs := [.string ⟨⟨([116, 114, 117, 101] : List UInt8)⟩⟩]) [] [] (by decide) rfl (.inl rfl) rfl (.cons (.tmp rfl) .nil) (Gext.refl w0 g) ⟨([116, 114, 117, 101] : List UInt8), rfl, rfl, hF⟩
  · replace hF := hF.2 hc2
    refine Ok.seq ?_
    refine Ok.region ?_
    refine Ok.batch 2 [(1, .pointer (some ⟨b1, 0, none⟩)), (6, .int .i64 ((takenM xv).1)), (12, .bool (((takenM xv).1) == 2))] (by kernel_rfl) ?_
    refine Ok.nil ?_
    refine Ok.thenN ?_
    refine Ok.cond (b := (((takenM xv).1) == 2)) rfl (fun hc4 => ?_) (fun hc4 => ?_)
    · replace hF := hF.1 hc4
      refine Ok.seq ?_
      refine Ok.seq ?_
      refine Ok.region ?_
      refine Ok.batch 1 [(1, .pointer (some ⟨b1, 0, none⟩)), (14, .pointer (some ⟨b1, 1, none⟩))] (by kernel_rfl) ?_
      refine Ok.op rfl (OpOk.step (v := .int .i64 (((takenM xv).2).1)) (Yields.load 0 rfl rfl Tryd.underlying3 rfl (by kernel_rfl)) rfl rfl ?_)
      refine Ok.batch 1 [(1, .pointer (some ⟨b1, 0, none⟩)), (16, .bool (decide ((((takenM xv).2).1) < 0)))] (by kernel_rfl) ?_
      refine Ok.nil ?_
      refine Ok.thenN ?_
      refine Ok.cond (b := decide ((((takenM xv).2).1) < 0)) rfl (fun hc5 => ?_) (fun hc5 => ?_)
      · replace hF := hF.1 hc5
        refine Ok.seq ?_
        refine Ok.region ?_
        refine Ok.batch 1 [(17, .pointer (some ⟨b1, 1, none⟩))] (by kernel_rfl) ?_
        refine Ok.op rfl (OpOk.step (v := .int .i64 (((takenM xv).2).1)) (Yields.load 0 rfl rfl Tryd.underlying3 rfl (by kernel_rfl)) rfl rfl ?_)
        refine Ok.batch 1 [(19, .int .i64 (IntKind.wrap .i64 (0 - (((takenM xv).2).1))))] (by kernel_rfl) ?_
        obtain ⟨hp6, hF⟩ := hF
        refine Ok.op rfl (OpOk.callG (v := .string ⟨⟨(digS (IntKind.wrap .i64 (0 - (((takenM xv).2).1))))⟩⟩) (enters (by kernel_rfl) (fun _ => by kernel_rfl)) (fun W hW => dig_c (IntKind.wrap .i64 (0 - (((takenM xv).2).1))) hp6) rfl ?_)
        obtain ⟨hv, hF⟩ := hF
        refine Ok.op rfl (OpOk.step (v := .string ⟨⟨([45] : List UInt8) ++ (digS (IntKind.wrap .i64 (0 - (((takenM xv).2).1))))⟩⟩) (Yields.strAdd rfl rfl hv) rfl rfl ?_)
        refine Ok.batch 1 [(2, .string ⟨⟨([45] : List UInt8) ++ (digS (IntKind.wrap .i64 (0 - (((takenM xv).2).1))))⟩⟩)] (by kernel_rfl) ?_
        refine Ok.nil ?_
        refine Ok.thenN ?_
        refine Ok.ret ?_
        refine Ok.thenR ?_
        refine Ok.blockR ?_
        refine Ok.thenR ?_
        exact Ok.resP (vs := [.string ⟨⟨([45] : List UInt8) ++ (digS (IntKind.wrap .i64 (0 - (((takenM xv).2).1))))⟩⟩]) [] [] (by decide) rfl (.inl rfl) rfl (.cons (.tmp rfl) .nil) (Gext.refl w0 g) ⟨(([45] : List UInt8) ++ (digS (IntKind.wrap .i64 (0 - (((takenM xv).2).1))))), rfl, rfl, hF⟩
      · replace hF := hF.2 hc5
        refine Ok.skip ?_
        refine Ok.thenN ?_
        refine Ok.seq ?_
        refine Ok.region ?_
        refine Ok.batch 1 [(22, .pointer (some ⟨b1, 1, none⟩))] (by kernel_rfl) ?_
        refine Ok.op rfl (OpOk.step (v := .int .i64 (((takenM xv).2).1)) (Yields.load 0 rfl rfl Tryd.underlying3 rfl (by kernel_rfl)) rfl rfl ?_)
        obtain ⟨hp7, hF⟩ := hF
        refine Ok.op rfl (OpOk.callG (v := .string ⟨⟨(digS (((takenM xv).2).1))⟩⟩) (enters (by kernel_rfl) (fun _ => by kernel_rfl)) (fun W hW => dig_c (((takenM xv).2).1) hp7) rfl ?_)
        refine Ok.batch 1 [(2, .string ⟨⟨(digS (((takenM xv).2).1))⟩⟩)] (by kernel_rfl) ?_
        refine Ok.nil ?_
        refine Ok.thenN ?_
        refine Ok.ret ?_
        refine Ok.blockR ?_
        refine Ok.thenR ?_
        exact Ok.resP (vs := [.string ⟨⟨(digS (((takenM xv).2).1))⟩⟩]) [] [] (by decide) rfl (.inl rfl) rfl (.cons (.tmp rfl) .nil) (Gext.refl w0 g) ⟨(digS (((takenM xv).2).1)), rfl, rfl, hF⟩
    · replace hF := hF.2 hc4
      refine Ok.seq ?_
      refine Ok.region ?_
      refine Ok.batch 2 [(1, .pointer (some ⟨b1, 0, none⟩)), (6, .int .i64 ((takenM xv).1)), (25, .bool (((takenM xv).1) == 3))] (by kernel_rfl) ?_
      refine Ok.nil ?_
      refine Ok.thenN ?_
      refine Ok.cond (b := (((takenM xv).1) == 3)) rfl (fun hc8 => ?_) (fun hc8 => ?_)
      · replace hF := hF.1 hc8
        refine Ok.seq ?_
        refine Ok.region ?_
        refine Ok.batch 1 [(27, .pointer (some ⟨b1, 2, none⟩))] (by kernel_rfl) ?_
        refine Ok.op rfl (OpOk.step (v := .string ⟨⟨((takenM xv).2).2⟩⟩) (Yields.load 0 rfl rfl Tryd.underlying9 rfl (by kernel_rfl)) rfl rfl ?_)
        refine Ok.batch 1 [(2, .string ⟨⟨((takenM xv).2).2⟩⟩)] (by kernel_rfl) ?_
        refine Ok.nil ?_
        refine Ok.thenN ?_
        refine Ok.ret ?_
        refine Ok.blockR ?_
        refine Ok.thenR ?_
        exact Ok.resP (vs := [.string ⟨⟨((takenM xv).2).2⟩⟩]) [] [] (by decide) rfl (.inl rfl) rfl (.cons (.tmp rfl) .nil) (Gext.refl w0 g) ⟨(((takenM xv).2).2), rfl, rfl, hF⟩
      · replace hF := hF.2 hc8
        refine Ok.seq ?_
        refine Ok.region ?_
        refine Ok.batch 2 [(1, .pointer (some ⟨b1, 0, none⟩)), (6, .int .i64 ((takenM xv).1)), (29, .bool (((takenM xv).1) == 4))] (by kernel_rfl) ?_
        refine Ok.nil ?_
        refine Ok.thenN ?_
        refine Ok.cond (b := (((takenM xv).1) == 4)) rfl (fun hc9 => ?_) (fun hc9 => ?_)
        · replace hF := hF.1 hc9
          refine Ok.seq ?_
          refine Ok.region ?_
          refine Ok.batch 1 [(2, .string ⟨⟨([91, 114, 101, 102, 93] : List UInt8)⟩⟩)] (by kernel_rfl) ?_
          refine Ok.nil ?_
          refine Ok.thenN ?_
          refine Ok.ret ?_
          refine Ok.blockR ?_
          refine Ok.thenR ?_
          exact Ok.resP (vs := [.string ⟨⟨([91, 114, 101, 102, 93] : List UInt8)⟩⟩]) [] [] (by decide) rfl (.inl rfl) rfl (.cons (.tmp rfl) .nil) (Gext.refl w0 g) ⟨([91, 114, 101, 102, 93] : List UInt8), rfl, rfl, hF⟩
        · replace hF := hF.2 hc9
          refine Ok.seq ?_
          refine Ok.region ?_
          refine Ok.batch 2 [(1, .pointer (some ⟨b1, 0, none⟩)), (31, .bool (((takenM xv).1) == 5))] (by kernel_rfl) ?_
          refine Ok.nil ?_
          refine Ok.thenN ?_
          refine Ok.cond (b := (((takenM xv).1) == 5)) rfl (fun hc10 => ?_) (fun hc10 => ?_)
          · replace hF := hF.1 hc10
            refine Ok.seq ?_
            refine Ok.region ?_
            refine Ok.batch 1 [(33, .pointer (some ⟨b1, 2, none⟩))] (by kernel_rfl) ?_
            refine Ok.op rfl (OpOk.step (v := .string ⟨⟨((takenM xv).2).2⟩⟩) (Yields.load 0 rfl rfl Tryd.underlying9 rfl (by kernel_rfl)) rfl rfl ?_)
            obtain ⟨hv, hF⟩ := hF
            refine Ok.op rfl (OpOk.step (v := .string ⟨⟨([91, 99, 97, 108, 108, 32] : List UInt8) ++ (((takenM xv).2).2)⟩⟩) (Yields.strAdd rfl rfl hv) rfl rfl ?_)
            obtain ⟨hv, hF⟩ := hF
            refine Ok.op rfl (OpOk.step (v := .string ⟨⟨(([91, 99, 97, 108, 108, 32] : List UInt8) ++ (((takenM xv).2).2)) ++ ([93] : List UInt8)⟩⟩) (Yields.strAdd rfl rfl hv) rfl rfl ?_)
            refine Ok.batch 1 [(2, .string ⟨⟨(([91, 99, 97, 108, 108, 32] : List UInt8) ++ (((takenM xv).2).2)) ++ ([93] : List UInt8)⟩⟩)] (by kernel_rfl) ?_
            refine Ok.nil ?_
            refine Ok.thenN ?_
            refine Ok.ret ?_
            refine Ok.blockR ?_
            refine Ok.thenR ?_
            exact Ok.resP (vs := [.string ⟨⟨(([91, 99, 97, 108, 108, 32] : List UInt8) ++ (((takenM xv).2).2)) ++ ([93] : List UInt8)⟩⟩]) [] [] (by decide) rfl (.inl rfl) rfl (.cons (.tmp rfl) .nil) (Gext.refl w0 g) ⟨((([91, 99, 97, 108, 108, 32] : List UInt8) ++ (((takenM xv).2).2)) ++ ([93] : List UInt8)), rfl, rfl, hF⟩
          · replace hF := hF.2 hc10
            refine Ok.skip ?_
            refine Ok.blockN ?_
            refine Ok.thenN ?_
            refine Ok.seq ?_
            refine Ok.region ?_
            refine Ok.batch 1 [(2, .string ⟨⟨([110, 117, 108, 108] : List UInt8)⟩⟩)] (by kernel_rfl) ?_
            refine Ok.nil ?_
            refine Ok.thenN ?_
            refine Ok.ret ?_
            exact Ok.resP (vs := [.string ⟨⟨([110, 117, 108, 108] : List UInt8)⟩⟩]) [] [] (by decide) rfl (.inl rfl) rfl (.cons (.tmp rfl) .nil) (Gext.refl w0 g) ⟨([110, 117, 108, 108] : List UInt8), rfl, rfl, hF⟩
def shownM (xv : Int × Int × List UInt8) : List UInt8 := (if (((takenM xv).1) == 1) = true then (if ((((takenM xv).2).1) == 0) = true then ([102, 97, 108, 115, 101] : List UInt8) else ([116, 114, 117, 101] : List UInt8)) else (if (((takenM xv).1) == 2) = true then (if (decide ((((takenM xv).2).1) < 0)) = true then (([45] : List UInt8) ++ (digS (IntKind.wrap .i64 (0 - (((takenM xv).2).1))))) else (digS (((takenM xv).2).1))) else (if (((takenM xv).1) == 3) = true then (((takenM xv).2).2) else (if (((takenM xv).1) == 4) = true then ([91, 114, 101, 102, 93] : List UInt8) else (if (((takenM xv).1) == 5) = true then ((([91, 99, 97, 108, 108, 32] : List UInt8) ++ (((takenM xv).2).2)) ++ ([93] : List UInt8)) else ([110, 117, 108, 108] : List UInt8))))))
set_option linter.unusedSimpArgs false in
set_option linter.unusedVariables false in
theorem shownF_A (xv : Int × Int × List UInt8) (hp : textP xv) (P : List UInt8 → Prop) (h : P (shownM xv)) : shownF xv (fun k0 => P k0) := by
  unfold shownM at h
  unfold shownF
  refine ⟨fun hc0 => ?_, fun hc0 => ?_⟩
  · rw [if_t hc0] at h
    have hd0 := hc0; try simp only [Bool.and_eq_true, Bool.or_eq_true, Bool.and_eq_false_iff, Bool.or_eq_false_iff, Bool.not_eq_true', Bool.not_eq_false', decide_eq_true_eq, decide_eq_false_iff_not, beq_iff_eq, beq_eq_false_iff_ne, ne_eq] at hd0
    refine ⟨fun hc1 => ?_, fun hc1 => ?_⟩
    · rw [if_t hc1] at h
      have hd1 := hc1; try simp only [Bool.and_eq_true, Bool.or_eq_true, Bool.and_eq_false_iff, Bool.or_eq_false_iff, Bool.not_eq_true', Bool.not_eq_false', decide_eq_true_eq, decide_eq_false_iff_not, beq_iff_eq, beq_eq_false_iff_ne, ne_eq] at hd1
      exact h
    · rw [if_f hc1] at h
      have hd1 := hc1; try simp only [Bool.and_eq_true, Bool.or_eq_true, Bool.and_eq_false_iff, Bool.or_eq_false_iff, Bool.not_eq_true', Bool.not_eq_false', decide_eq_true_eq, decide_eq_false_iff_not, beq_iff_eq, beq_eq_false_iff_ne, ne_eq] at hd1
      exact h
  · rw [if_f hc0] at h
    have hd0 := hc0; try simp only [Bool.and_eq_true, Bool.or_eq_true, Bool.and_eq_false_iff, Bool.or_eq_false_iff, Bool.not_eq_true', Bool.not_eq_false', decide_eq_true_eq, decide_eq_false_iff_not, beq_iff_eq, beq_eq_false_iff_ne, ne_eq] at hd0
    refine ⟨fun hc1 => ?_, fun hc1 => ?_⟩
    · rw [if_t hc1] at h
      have hd1 := hc1; try simp only [Bool.and_eq_true, Bool.or_eq_true, Bool.and_eq_false_iff, Bool.or_eq_false_iff, Bool.not_eq_true', Bool.not_eq_false', decide_eq_true_eq, decide_eq_false_iff_not, beq_iff_eq, beq_eq_false_iff_ne, ne_eq] at hd1
      refine ⟨fun hc2 => ?_, fun hc2 => ?_⟩
      · rw [if_t hc2] at h
        have hd2 := hc2; try simp only [Bool.and_eq_true, Bool.or_eq_true, Bool.and_eq_false_iff, Bool.or_eq_false_iff, Bool.not_eq_true', Bool.not_eq_false', decide_eq_true_eq, decide_eq_false_iff_not, beq_iff_eq, beq_eq_false_iff_ne, ne_eq] at hd2
        refine ⟨?_, ?_⟩
        · first | (have := taken_len hp; rw [maxLen_eq]; simp only [List.length_cons, List.length_nil, List.length_append]; omega) | (have hk : (takenM xv).1 = 2 := (by assumption); have := taken_num hk; have h7 := dig_len (n := IntKind.wrap .i64 (0 - (takenM xv).2.1)) (by rw [w64 (by omega)]; omega); rw [maxLen_eq]; simp only [List.length_cons, List.length_nil]; omega) | (have hk : (takenM xv).1 = 2 := (by assumption); have := taken_num hk; exact dig_ok' (by first | (rw [w64 (by omega)]; omega) | omega)) | omega | assumption | exact trivial | (simp; omega) | (simp at *; omega)
        refine ⟨?_, ?_⟩
        · first | (have := taken_len hp; rw [maxLen_eq]; simp only [List.length_cons, List.length_nil, List.length_append]; omega) | (have hk : (takenM xv).1 = 2 := (by assumption); have := taken_num hk; have h7 := dig_len (n := IntKind.wrap .i64 (0 - (takenM xv).2.1)) (by rw [w64 (by omega)]; omega); rw [maxLen_eq]; simp only [List.length_cons, List.length_nil]; omega) | (have hk : (takenM xv).1 = 2 := (by assumption); have := taken_num hk; exact dig_ok' (by first | (rw [w64 (by omega)]; omega) | omega)) | omega | assumption | exact trivial | (simp; omega) | (simp at *; omega)
        exact h
      · rw [if_f hc2] at h
        have hd2 := hc2; try simp only [Bool.and_eq_true, Bool.or_eq_true, Bool.and_eq_false_iff, Bool.or_eq_false_iff, Bool.not_eq_true', Bool.not_eq_false', decide_eq_true_eq, decide_eq_false_iff_not, beq_iff_eq, beq_eq_false_iff_ne, ne_eq] at hd2
        refine ⟨?_, ?_⟩
        · first | (have := taken_len hp; rw [maxLen_eq]; simp only [List.length_cons, List.length_nil, List.length_append]; omega) | (have hk : (takenM xv).1 = 2 := (by assumption); have := taken_num hk; have h7 := dig_len (n := IntKind.wrap .i64 (0 - (takenM xv).2.1)) (by rw [w64 (by omega)]; omega); rw [maxLen_eq]; simp only [List.length_cons, List.length_nil]; omega) | (have hk : (takenM xv).1 = 2 := (by assumption); have := taken_num hk; exact dig_ok' (by first | (rw [w64 (by omega)]; omega) | omega)) | omega | assumption | exact trivial | (simp; omega) | (simp at *; omega)
        exact h
    · rw [if_f hc1] at h
      have hd1 := hc1; try simp only [Bool.and_eq_true, Bool.or_eq_true, Bool.and_eq_false_iff, Bool.or_eq_false_iff, Bool.not_eq_true', Bool.not_eq_false', decide_eq_true_eq, decide_eq_false_iff_not, beq_iff_eq, beq_eq_false_iff_ne, ne_eq] at hd1
      refine ⟨fun hc2 => ?_, fun hc2 => ?_⟩
      · rw [if_t hc2] at h
        have hd2 := hc2; try simp only [Bool.and_eq_true, Bool.or_eq_true, Bool.and_eq_false_iff, Bool.or_eq_false_iff, Bool.not_eq_true', Bool.not_eq_false', decide_eq_true_eq, decide_eq_false_iff_not, beq_iff_eq, beq_eq_false_iff_ne, ne_eq] at hd2
        exact h
      · rw [if_f hc2] at h
        have hd2 := hc2; try simp only [Bool.and_eq_true, Bool.or_eq_true, Bool.and_eq_false_iff, Bool.or_eq_false_iff, Bool.not_eq_true', Bool.not_eq_false', decide_eq_true_eq, decide_eq_false_iff_not, beq_iff_eq, beq_eq_false_iff_ne, ne_eq] at hd2
        refine ⟨fun hc3 => ?_, fun hc3 => ?_⟩
        · rw [if_t hc3] at h
          have hd3 := hc3; try simp only [Bool.and_eq_true, Bool.or_eq_true, Bool.and_eq_false_iff, Bool.or_eq_false_iff, Bool.not_eq_true', Bool.not_eq_false', decide_eq_true_eq, decide_eq_false_iff_not, beq_iff_eq, beq_eq_false_iff_ne, ne_eq] at hd3
          exact h
        · rw [if_f hc3] at h
          have hd3 := hc3; try simp only [Bool.and_eq_true, Bool.or_eq_true, Bool.and_eq_false_iff, Bool.or_eq_false_iff, Bool.not_eq_true', Bool.not_eq_false', decide_eq_true_eq, decide_eq_false_iff_not, beq_iff_eq, beq_eq_false_iff_ne, ne_eq] at hd3
          refine ⟨fun hc4 => ?_, fun hc4 => ?_⟩
          · rw [if_t hc4] at h
            have hd4 := hc4; try simp only [Bool.and_eq_true, Bool.or_eq_true, Bool.and_eq_false_iff, Bool.or_eq_false_iff, Bool.not_eq_true', Bool.not_eq_false', decide_eq_true_eq, decide_eq_false_iff_not, beq_iff_eq, beq_eq_false_iff_ne, ne_eq] at hd4
            refine ⟨?_, ?_⟩
            · first | (have := taken_len hp; rw [maxLen_eq]; simp only [List.length_cons, List.length_nil, List.length_append]; omega) | (have hk : (takenM xv).1 = 2 := (by assumption); have := taken_num hk; have h7 := dig_len (n := IntKind.wrap .i64 (0 - (takenM xv).2.1)) (by rw [w64 (by omega)]; omega); rw [maxLen_eq]; simp only [List.length_cons, List.length_nil]; omega) | (have hk : (takenM xv).1 = 2 := (by assumption); have := taken_num hk; exact dig_ok' (by first | (rw [w64 (by omega)]; omega) | omega)) | omega | assumption | exact trivial | (simp; omega) | (simp at *; omega)
            refine ⟨?_, ?_⟩
            · first | (have := taken_len hp; rw [maxLen_eq]; simp only [List.length_cons, List.length_nil, List.length_append]; omega) | (have hk : (takenM xv).1 = 2 := (by assumption); have := taken_num hk; have h7 := dig_len (n := IntKind.wrap .i64 (0 - (takenM xv).2.1)) (by rw [w64 (by omega)]; omega); rw [maxLen_eq]; simp only [List.length_cons, List.length_nil]; omega) | (have hk : (takenM xv).1 = 2 := (by assumption); have := taken_num hk; exact dig_ok' (by first | (rw [w64 (by omega)]; omega) | omega)) | omega | assumption | exact trivial | (simp; omega) | (simp at *; omega)
            exact h
          · rw [if_f hc4] at h
            have hd4 := hc4; try simp only [Bool.and_eq_true, Bool.or_eq_true, Bool.and_eq_false_iff, Bool.or_eq_false_iff, Bool.not_eq_true', Bool.not_eq_false', decide_eq_true_eq, decide_eq_false_iff_not, beq_iff_eq, beq_eq_false_iff_ne, ne_eq] at hd4
            exact h
theorem shown_F (xv : Int × Int × List UInt8) (hp : textP xv) : shownF xv (fun k0 => k0 = shownM xv) :=
  shownF_A xv hp (fun z => z = shownM xv) rfl
set_option linter.unusedVariables false in
theorem shown_c {g : Ghost} (xv : Int × Int × List UInt8)  (hp : textP xv) : CallsG Tryd.prog 70 #[.agg #[.int .i64 xv.1, .int .i64 xv.2.1, .string ⟨⟨xv.2.2⟩⟩]] g (.string ⟨⟨(shownM xv)⟩⟩) :=
  (shown_ok xv _ (shown_F xv hp)).gives (by rintro g' H' v _ ⟨r0, rfl, rfl, hK⟩; subst hK; rfl)
theorem shown_text (v : JV) : textM v = shownM v := by
  unfold textM shownM
  rw [right_taken]
  by_cases h1 : (rightM v).1 = 1
  · have e1 : ((rightM v).1 == 1) = true := by rw [h1]; rfl
    simp only [e1, if_true]
    rcases right_bool h1 with h | h
    · rw [h]; rfl
    · rw [h]; rfl
  have e1 : ((rightM v).1 == 1) = false := by simpa using h1
  simp only [e1, Bool.false_eq_true, if_false]
  by_cases h2 : (rightM v).1 = 2
  · have e2 : ((rightM v).1 == 2) = true := by rw [h2]; rfl
    simp only [e2, if_true]
    have := right_num h2
    unfold Lib.itoa digS
    by_cases h : (rightM v).2.1 < 0
    · rw [if_pos h, if_t (by simpa using h), w64 (by omega)]
      show _ = 45 :: _
      congr 2
      omega
    · rw [if_neg h, if_f (by simpa using h)]
  have e2 : ((rightM v).1 == 2) = false := by simpa using h2
  simp only [e2, Bool.false_eq_true, if_false]
theorem right_s {v : JV} (h : (rightM v).1 = 1 ∨ (rightM v).1 = 2) : (rightM v).2.2 = [] := by
  rcases right_cases v with ⟨h1, e⟩ | ⟨_, e⟩
  · rw [e] at h ⊢
    unfold chkM chkj16M chkj22M at h1
    rcases h with h | h <;> simp [h] at h1 <;> exact h1.2
  · rw [e]
theorem right_n {v : JV} (h : (rightM v).1 = 3) : (rightM v).2.1 = 0 := by
  rcases right_cases v with ⟨h1, e⟩ | ⟨_, e⟩
  · rw [e] at h ⊢
    unfold chkM chkj28M at h1
    simp [h] at h1
    exact h1.2
  · rw [e]
theorem truth_ist (v : JV) : truthM v = istM v := by
  unfold truthM istM truthj15M istj5M
  rw [right_taken]
  have hk := right_kind v
  have hs := @right_s v
  have hn := @right_n v
  generalize rightM v = w at hk hs hn ⊢
  obtain ⟨k, n, s⟩ := w
  simp only at hk hs hn ⊢
  rw [Bool.eq_iff_iff]
  by_cases h0 : k = 0
  · subst h0; simp
  by_cases h1 : k = 1
  · subst h1; simp [hs (.inl rfl)]
  by_cases h2 : k = 2
  · subst h2; simp [hs (.inr rfl)]
  by_cases h3 : k = 3
  · subst h3; simp [hn rfl]
  · have h4 : 3 < k := by omega
    simp [h0, h1, h2, h3, h4]
end Go.Proofs.YtabbinbmpeckkaaDoor.Vl
