/- RuleHeads: the Head of tokens. -/
import Derived.Test.YtabbinbmpeckkaaDoorTrl
namespace Go.Proofs.YtabbinbmpeckkaaDoor.Tk
open Go Go.Eng Bld Trm Css
set_option linter.unusedVariables false
def silentj3 (xt : Int × List UInt8 × List UInt8 × Int) (K : Bool → Prop) : Prop :=
  K ((xt.1 == 8) || (xt.1 == 9))
def silentF (xt : Int × List UInt8 × List UInt8 × Int) (K : Bool → Prop) : Prop :=
  (((xt.1 == 8)) = true → silentj3 xt K) ∧ (((xt.1 == 8)) = false → silentj3 xt K)
set_option maxHeartbeats 4000000 in
set_option maxRecDepth 100000 in
set_option linter.unusedVariables false in
theorem silent_ok {g : Ghost} (xt : Int × List UInt8 × List UInt8 × Int) (K : Bool → Prop)
    (hF : silentF xt K) : CallsH Tryd.prog 97 #[.agg #[.int .i64 xt.1, .string ⟨⟨xt.2.1⟩⟩, .string ⟨⟨xt.2.2.1⟩⟩, .int .i64 xt.2.2.2]] g [] (fun g' H' v => ∃ (r0 : Bool), v = .bool r0 ∧ H' = [] ∧ K r0) := by
  refine CallsH.enter 11 [(0, .agg #[.int .i64 xt.1, .string ⟨⟨xt.2.1⟩⟩, .string ⟨⟨xt.2.2.1⟩⟩, .int .i64 xt.2.2.2])] Tryd.func97 rfl (by kernel_rfl) (by kernel_rfl) (by kernel_rfl) fun w0 => ?_
  refine Ok.seq ?_
  refine Ok.region ?_
  refine Ok.op rfl (OpOk.box (v := .agg #[.int .i64 xt.1, .string ⟨⟨xt.2.1⟩⟩, .string ⟨⟨xt.2.2.1⟩⟩, .int .i64 xt.2.2.2]) (cs := #[.int .i64 xt.1, .string ⟨⟨xt.2.1⟩⟩, .string ⟨⟨xt.2.2.1⟩⟩, .int .i64 xt.2.2.2]) rfl (by kernel_rfl) rfl fun b1 => ?_)
  refine Ok.batch 1 [(1, .pointer (some ⟨b1, 0, none⟩))] (by kernel_rfl) ?_
  refine Ok.nil ?_
  refine Ok.thenN ?_
  refine Ok.cut (fun a W => StA 11 [(2, .bool ((xt.1 == 8) || (xt.1 == 9)))] a ∧ StW w0 [] g W ∧ silentj3 xt K) ?_ ?_
  ·
    refine Ok.region ?_
    refine Ok.batch 1 [(1, .pointer (some ⟨b1, 0, none⟩)), (3, .pointer (some ⟨b1, 0, none⟩))] (by kernel_rfl) ?_
    refine Ok.op rfl (OpOk.step (v := .int .i64 xt.1) (Yields.load 0 rfl rfl Tryd.underlying3 rfl (by kernel_rfl)) rfl rfl ?_)
    refine Ok.batch 2 [(1, .pointer (some ⟨b1, 0, none⟩)), (6, .bool (xt.1 == 8))] (by kernel_rfl) ?_
    refine Ok.boolAt 6 ((xt.1 == 8)) rfl (fun hc2 => ?_) (fun hc2 => ?_)
    · replace hF := hF.1 hc2
      refine Ok.batch 5 [(2, .bool true)] (by kernel_rfl) ?_
      refine Ok.nil ?_
      refine Ok.thenN ?_
      refine Ok.reval 2 rfl (show (.bool true : Value) = .bool ((xt.1 == 8) || (xt.1 == 9)) from congrArg (Value.bool) (mor_t hc2)) ?_
      exact fun a W hA hW => ⟨hA.sub (by kernel_rfl), hW.sub (.cons _ .slnil), hF⟩
    · replace hF := hF.2 hc2
      refine Ok.batch 1 [(6, .bool false), (7, .pointer (some ⟨b1, 0, none⟩))] (by kernel_rfl) ?_
      refine Ok.opYes (j := 3) (d := 6) (want := false) (b := false) rfl (by kernel_rfl) (by kernel_rfl) rfl (OpOk.step (v := .int .i64 xt.1) (Yields.load 0 rfl rfl Tryd.underlying3 rfl (by kernel_rfl)) rfl rfl ?_)
      refine Ok.batch 3 [(2, .bool (xt.1 == 9))] (by kernel_rfl) ?_
      refine Ok.nil ?_
      refine Ok.thenN ?_
      refine Ok.reval 2 rfl (show (.bool (xt.1 == 9) : Value) = .bool ((xt.1 == 8) || (xt.1 == 9)) from congrArg (Value.bool) (mor_f hc2)) ?_
      exact fun a W hA hW => ⟨hA.sub (by kernel_rfl), hW.sub (.cons _ .slnil), hF⟩
  ·
    clear hF
    rintro a W ⟨hA, hW, hF⟩
    refine (?_ : Ok _ _ _ _ _ _) a W hA hW
    clear hA hW
    refine Ok.ret ?_
    exact Ok.resH (vs := [.bool ((xt.1 == 8) || (xt.1 == 9))]) (.inl rfl) rfl (.cons (.tmp rfl) .nil) (Gext.refl w0 g) ⟨((xt.1 == 8) || (xt.1 == 9)), rfl, rfl, hF⟩
def silentj3M (xt : Int × List UInt8 × List UInt8 × Int) : Bool := ((xt.1 == 8) || (xt.1 == 9))
set_option linter.unusedSimpArgs false in
set_option linter.unusedVariables false in
theorem silentj3_A (xt : Int × List UInt8 × List UInt8 × Int) (P : Bool → Prop) (h : P (silentj3M xt)) : silentj3 xt (fun k0 => P k0) := by
  unfold silentj3M at h
  unfold silentj3
  exact h
def silentM (xt : Int × List UInt8 × List UInt8 × Int) : Bool := (silentj3M xt)
set_option linter.unusedSimpArgs false in
set_option linter.unusedVariables false in
theorem silentF_A (xt : Int × List UInt8 × List UInt8 × Int) (P : Bool → Prop) (h : P (silentM xt)) : silentF xt (fun k0 => P k0) := by
  unfold silentM at h
  unfold silentF
  refine ⟨fun hc0 => ?_, fun hc0 => ?_⟩
  · skip
    have hd0 := hc0; try simp only [Bool.and_eq_true, Bool.or_eq_true, Bool.and_eq_false_iff, Bool.or_eq_false_iff, Bool.not_eq_true', Bool.not_eq_false', decide_eq_true_eq, decide_eq_false_iff_not, beq_iff_eq, beq_eq_false_iff_ne, ne_eq] at hd0
    exact silentj3_A xt _ h
  · skip
    have hd0 := hc0; try simp only [Bool.and_eq_true, Bool.or_eq_true, Bool.and_eq_false_iff, Bool.or_eq_false_iff, Bool.not_eq_true', Bool.not_eq_false', decide_eq_true_eq, decide_eq_false_iff_not, beq_iff_eq, beq_eq_false_iff_ne, ne_eq] at hd0
    exact silentj3_A xt _ h
theorem silent_F (xt : Int × List UInt8 × List UInt8 × Int) : silentF xt (fun k0 => k0 = silentM xt) :=
  silentF_A xt (fun z => z = silentM xt) rfl
set_option linter.unusedVariables false in
theorem silent_c {g : Ghost} (xt : Int × List UInt8 × List UInt8 × Int)  : CallsG Tryd.prog 97 #[.agg #[.int .i64 xt.1, .string ⟨⟨xt.2.1⟩⟩, .string ⟨⟨xt.2.2.1⟩⟩, .int .i64 xt.2.2.2]] g (.bool (silentM xt)) :=
  (silent_ok xt _ (silent_F xt)).gives (by rintro g' H' v _ ⟨r0, rfl, rfl, hK⟩; subst hK; rfl)
def headV2 (x4l11 : Bool) (yown1_0l11 : List (Int)) : List (Int) :=
  (if x4l11 = true then (Bld.wbS yown1_0l11 32).2 else yown1_0l11)
def headV4 (xl : List (Int × List UInt8 × List UInt8 × Int)) (x9l11 : Int) (yown1_0l11 : List (Int)) : Bool :=
  ((silentM (xl.getD (Int.toNat x9l11) default)) && (decide (((Bld.lenS yown1_0l11).1) > 0)))
def headV5 (xl : List (Int × List UInt8 × List UInt8 × Int)) (x4l11 : Bool) (x9l11 : Int) (yown1_0l11 : List (Int)) : List (Int) :=
  (if (silentM (xl.getD (Int.toNat x9l11) default)) = true then (Bld.lenS yown1_0l11).2 else (Bld.wsS (headV2 x4l11 yown1_0l11) (xl.getD (Int.toNat x9l11) default).2.1).2.2)
def headj18 (xl : List (Int × List UInt8 × List UInt8 × Int)) (x4l11 : Bool) (x9l11 : Int) (yown1_0l11 : List (Int)) (C11 : Bool → Int → (List (Int)) → Prop) : Prop :=
  C11 (headV4 xl x9l11 yown1_0l11) (IntKind.wrap .i64 (x9l11 + 1)) (headV5 xl x4l11 x9l11 yown1_0l11)
def headj30 (xl : List (Int × List UInt8 × List UInt8 × Int)) (e5 : Int × List UInt8 × List UInt8 × Int) (x4l11 : Bool) (x9l11 : Int) (yown1_0l11 : List (Int)) (C11 : Bool → Int → (List (Int)) → Prop) : Prop :=
  Bld.wsP (headV2 x4l11 yown1_0l11) e5.2.1 ∧ headj18 xl x4l11 x9l11 yown1_0l11 C11
def headl11b (xl : List (Int × List UInt8 × List UInt8 × Int)) (K : (List UInt8) → Prop) (x4l11 : Bool) (x9l11 : Int) (yown1_0l11 : List (Int)) (C11 : Bool → Int → (List (Int)) → Prop) : Prop :=
  ((decide (x9l11 < (xl.length : Int))) = true → (0 : Int) ≤ x9l11 ∧ Int.toNat x9l11 < xl.length ∧ (((silentM (xl.getD (Int.toNat x9l11) default))) = true → headj18 xl x4l11 x9l11 yown1_0l11 C11) ∧ (((silentM (xl.getD (Int.toNat x9l11) default))) = false → ((x4l11) = true → Bld.wbP yown1_0l11 32 ∧ headj30 xl (xl.getD (Int.toNat x9l11) default) x4l11 x9l11 yown1_0l11 C11) ∧ ((x4l11) = false → headj30 xl (xl.getD (Int.toNat x9l11) default) x4l11 x9l11 yown1_0l11 C11))) ∧ ((decide (x9l11 < (xl.length : Int))) = false → Bld.stP yown1_0l11 ∧ K (bytesOf yown1_0l11))
def headl11 (xl : List (Int × List UInt8 × List UInt8 × Int)) (K : (List UInt8) → Prop) : Nat → Bool → Int → (List (Int)) → Prop
  | 0, _, _, _ => False
  | k + 1, x4l11, x9l11, yown1_0l11 => headl11b xl K x4l11 x9l11 yown1_0l11 (headl11 xl K k)
def headF (xl : List (Int × List UInt8 × List UInt8 × Int)) (K : (List UInt8) → Prop) : Prop :=
  ∃ k, headl11 xl K k false 0 ([] : List (Int))
set_option maxHeartbeats 4000000 in
set_option maxRecDepth 100000 in
set_option linter.unusedVariables false in
theorem head_ok {g : Ghost} {axl_0 : Option Addr} {cxl_0 : Nat} (xl : List (Int × List UInt8 × List UInt8 × Int)) (hRxl_0 : Rep g (.slice (.pair (.int .i64) (.pair (.str) (.pair (.str) (.int .i64))))) [.slice axl_0 xl.length cxl_0] xl) (K : (List UInt8) → Prop)
    (hF : headF xl K) : CallsH Tryd.prog 41 #[.slice axl_0 xl.length cxl_0] g [] (fun g' H' v => ∃ (r0 : List UInt8), v = .string ⟨⟨r0⟩⟩ ∧ H' = [] ∧ K r0) := by
  refine CallsH.enter 24 [(0, .slice axl_0 xl.length cxl_0)] Tryd.func41 rfl (by kernel_rfl) (by kernel_rfl) (by kernel_rfl) fun w0 => ?_
  refine Ok.seq ?_
  refine Ok.region ?_
  refine Ok.batch 1 [(0, .slice axl_0 xl.length cxl_0)] (by kernel_rfl) ?_
  refine Ok.nil ?_
  refine Ok.thenN ?_
  refine Ok.seq ?_
  refine Ok.region ?_
  have hL1 : RepL g (.int .u8) [] [] := rfl
  refine Ok.ownNil 5 1 ?_
  refine Ok.op rfl (OpOk.alloc (z := .agg #[.pointer none, .slice none 0 0]) (cs := #[.pointer none, .slice none 0 0]) (by kernel_rfl) (by kernel_rfl) rfl fun b2 => ?_)
  refine Ok.bhd ?_
  refine Ok.nil ?_
  refine Ok.thenN ?_
  refine Ok.seq ?_
  refine Ok.region ?_
  refine Ok.batch 1 [(0, .slice axl_0 xl.length cxl_0), (3, .pointer (some ⟨b2, 0, none⟩)), (4, .bool false)] (by kernel_rfl) ?_
  refine Ok.nil ?_
  refine Ok.thenN ?_
  refine Ok.seq ?_
  refine Ok.seq ?_
  refine Ok.region ?_
  refine Ok.batch 3 [(3, .pointer (some ⟨b2, 0, none⟩)), (4, .bool false), (7, .slice axl_0 xl.length cxl_0), (8, .int .i64 (xl.length : Int)), (9, .int .i64 0)] (by kernel_rfl) ?_
  refine Ok.nil ?_
  refine Ok.thenN ?_
  refine Ok.block ?_
  obtain ⟨k, hF⟩ := hF
  refine Ok.loop (fun k a W => ∃ gl11 : Ghost, Gext w0 g gl11 ∧ ∃ (x4l11 : Bool) (x9l11 : Int) (ayown1_0l11 : Option Addr) (cyown1_0l11 : Nat) (yown1_0l11 : List (Int)) (xsyown1_0l11 : List Value), RepL gl11 (.int .u8) xsyown1_0l11 yown1_0l11 ∧ StA 24 [(3, .pointer (some ⟨b2, 0, none⟩)), (4, .bool x4l11), (7, .slice axl_0 xl.length cxl_0), (8, .int .i64 (xl.length : Int)), (9, .int .i64 x9l11)] a ∧ StW w0 [.bhd b2 120 (.slice ayown1_0l11 yown1_0l11.length cyown1_0l11), .own (.slice ayown1_0l11 yown1_0l11.length cyown1_0l11) 5 1 yown1_0l11.length xsyown1_0l11] gl11 W ∧ headl11 xl K k x4l11 x9l11 yown1_0l11) k ?_ ?_
  ·
    exact fun a W hA hW => ⟨g, (Gext.refl w0 g), false, 0, none, 0, ([] : List (Int)), [], hL1, hA.sub (by kernel_rfl), hW, hF⟩
  ·
    clear hF
    rintro k11 a W ⟨gl11, hxl11, x4l11, x9l11, ayown1_0l11, cyown1_0l11, yown1_0l11, xsyown1_0l11, hLyown1_0l11, hA, hW, hF⟩
    cases k11 with
    | zero => exact (hF : False).elim
    | succ k11 =>
      refine (?_ : Ok _ _ _ _ _ _) a W hA hW
      clear hA hW
      replace hRxl_0 := hRxl_0.mono hxl11.1
      refine Ok.seq ?_
      refine Ok.region ?_
      refine Ok.batch 1 [(3, .pointer (some ⟨b2, 0, none⟩)), (4, .bool x4l11), (7, .slice axl_0 xl.length cxl_0), (8, .int .i64 (xl.length : Int)), (9, .int .i64 x9l11), (10, .bool (decide (x9l11 < (xl.length : Int))))] (by kernel_rfl) ?_
      refine Ok.nil ?_
      refine Ok.thenN ?_
      refine Ok.seq ?_
      refine Ok.cond (b := decide (x9l11 < (xl.length : Int))) rfl (fun hc3 => ?_) (fun hc3 => ?_)
      · replace hF := hF.1 hc3
        refine Ok.skip ?_
        refine Ok.thenN ?_
        refine Ok.cut (fun a W => ∃ gj18 : Ghost, Gext w0 gl11 gj18 ∧ ∃ (ayown1_0j18 : Option Addr) (cyown1_0j18 : Nat) (xsyown1_0j18 : List Value), RepL gj18 (.int .u8) xsyown1_0j18 (headV5 xl x4l11 x9l11 yown1_0l11) ∧ StA 24 [(3, .pointer (some ⟨b2, 0, none⟩)), (4, .bool (headV4 xl x9l11 yown1_0l11)), (7, .slice axl_0 xl.length cxl_0), (8, .int .i64 (xl.length : Int)), (9, .int .i64 x9l11)] a ∧ StW w0 [.bhd b2 120 (.slice ayown1_0j18 (headV5 xl x4l11 x9l11 yown1_0l11).length cyown1_0j18), .own (.slice ayown1_0j18 (headV5 xl x4l11 x9l11 yown1_0l11).length cyown1_0j18) 5 1 (headV5 xl x4l11 x9l11 yown1_0l11).length xsyown1_0j18] gj18 W ∧ headj18 xl x4l11 x9l11 yown1_0l11 (headl11 xl K k11)) ?_ ?_
        ·
          refine Ok.block ?_
          refine Ok.seq ?_
          refine Ok.region ?_
          obtain ⟨h05, h15, hF⟩ := hF
          have he5 := get_of (l := xl) (default : Int × List UInt8 × List UInt8 × Int) h15
          generalize hg5 : (xl.getD (Int.toNat x9l11) default) = e5 at he5 hF ⊢
          refine Ok.op rfl (OpOk.indexRo (e := .pair (.int .i64) (.pair (.str) (.pair (.str) (.int .i64)))) (i := x9l11) (el := e5) rfl rfl Tryd.underlying47 (by kernel_rfl) hRxl_0 h05 he5 rfl fun q4 o4 cs4 _ hat4 hr4 => ?_)
          obtain ⟨_, _, rfl, rfl, ⟨_, _, rfl, rfl, ⟨_, _, rfl, rfl, rfl⟩⟩⟩ := hr4
          replace hat4 : At gl11 q4 o4 [.int .i64 e5.1, .string ⟨⟨e5.2.1⟩⟩, .string ⟨⟨e5.2.2.1⟩⟩, .int .i64 e5.2.2.2] := hat4
          refine Ok.op rfl (OpOk.step (v := .agg #[.int .i64 e5.1, .string ⟨⟨e5.2.1⟩⟩, .string ⟨⟨e5.2.2.1⟩⟩, .int .i64 e5.2.2.2]) (Yields.loadAggRo 0 4 #[.int .i64 e5.1, .string ⟨⟨e5.2.1⟩⟩, .string ⟨⟨e5.2.2.1⟩⟩, .int .i64 e5.2.2.2] hat4 (by kernel_rfl) Tryd.underlying54 rfl (by kernel_rfl) (by kernel_rfl) (by kernel_rfl)) rfl rfl ?_)
          refine Ok.op rfl (OpOk.alloc (z := .agg #[.int .i64 0, .string ⟨⟨([] : List UInt8)⟩⟩, .string ⟨⟨([] : List UInt8)⟩⟩, .int .i64 0]) (cs := #[.int .i64 0, .string ⟨⟨([] : List UInt8)⟩⟩, .string ⟨⟨([] : List UInt8)⟩⟩, .int .i64 0]) (by kernel_rfl) (by kernel_rfl) rfl fun b6 => ?_)
          refine Ok.op rfl (OpOk.store (k := 4) (v := .agg #[.int .i64 e5.1, .string ⟨⟨e5.2.1⟩⟩, .string ⟨⟨e5.2.2.1⟩⟩, .int .i64 e5.2.2.2]) (H' := [.blk b6 (.cells #[.int .i64 e5.1, .string ⟨⟨e5.2.1⟩⟩, .string ⟨⟨e5.2.2.1⟩⟩, .int .i64 e5.2.2.2] 54), .bhd b2 120 (.slice ayown1_0l11 yown1_0l11.length cyown1_0l11), .own (.slice ayown1_0l11 yown1_0l11.length cyown1_0l11) 5 1 yown1_0l11.length xsyown1_0l11]) 0 rfl rfl rfl (by kernel_rfl) (by kernel_rfl) (by kernel_rfl) (by kernel_rfl) (by kernel_rfl) ?_)
          refine Ok.nil ?_
          refine Ok.thenN ?_
          refine Ok.seq ?_
          refine Ok.seq ?_
          refine Ok.region ?_
          refine Ok.op rfl (OpOk.step (v := .agg #[.int .i64 e5.1, .string ⟨⟨e5.2.1⟩⟩, .string ⟨⟨e5.2.2.1⟩⟩, .int .i64 e5.2.2.2]) (Yields.loadAgg 0 4 #[.int .i64 e5.1, .string ⟨⟨e5.2.1⟩⟩, .string ⟨⟨e5.2.2.1⟩⟩, .int .i64 e5.2.2.2] rfl rfl Tryd.underlying54 rfl (by kernel_rfl) (by kernel_rfl) (by kernel_rfl)) rfl rfl ?_)
          refine Ok.op rfl (OpOk.callG (v := .bool (silentM e5)) (enters (by kernel_rfl) (fun _ => by kernel_rfl)) (fun W hW => silent_c e5) rfl ?_)
          refine Ok.nil ?_
          refine Ok.thenN ?_
          refine Ok.cond (b := (silentM e5)) rfl (fun hc7 => ?_) (fun hc7 => ?_)
          · replace hF := hF.1 hc7
            refine Ok.seq ?_
            refine Ok.region ?_
            refine Ok.entries [1, 2, 0] [.bhd b2 120 (.slice ayown1_0l11 yown1_0l11.length cyown1_0l11), .own (.slice ayown1_0l11 yown1_0l11.length cyown1_0l11) 5 1 yown1_0l11.length xsyown1_0l11, .blk b6 (.cells #[.int .i64 e5.1, .string ⟨⟨e5.2.1⟩⟩, .string ⟨⟨e5.2.2.1⟩⟩, .int .i64 e5.2.2.2] 54)] (by decide) rfl ?_
            refine Ok.op rfl (OpOk.callH [.bhd b2 120 (.slice ayown1_0l11 yown1_0l11.length cyown1_0l11), .own (.slice ayown1_0l11 yown1_0l11.length cyown1_0l11) 5 1 yown1_0l11.length xsyown1_0l11] [.blk b6 (.cells #[.int .i64 e5.1, .string ⟨⟨e5.2.1⟩⟩, .string ⟨⟨e5.2.2.1⟩⟩, .int .i64 e5.2.2.2] 54)] (enters (by kernel_rfl) (fun _ => by kernel_rfl)) rfl (Bld.len_c yown1_0l11 hLyown1_0l11) rfl fun g8 _ _ hx8 hV8 => ?_)
            obtain ⟨a8_0, c8_0, xs8_0, rfl, hL8_0, rfl⟩ := hV8
            replace hRxl_0 := hRxl_0.mono hx8.1
            refine Ok.batch 2 [(3, .pointer (some ⟨b2, 0, none⟩)), (4, .bool (decide (((Bld.lenS yown1_0l11).1) > 0))), (7, .slice axl_0 xl.length cxl_0), (8, .int .i64 (xl.length : Int)), (9, .int .i64 x9l11)] (by kernel_rfl) ?_
            refine Ok.nil ?_
            refine Ok.thenN ?_
            refine Ok.exit ?_
            refine Ok.thenE ?_
            refine Ok.blockHit ?_
            refine Ok.thenN ?_
            subst hg5
            refine Ok.reval 4 rfl (show (.bool (decide (((Bld.lenS yown1_0l11).1) > 0)) : Value) = .bool (headV4 xl x9l11 yown1_0l11) from congrArg (Value.bool) (mand_t hc7)) ?_
            refine Ok.heapEq (H' := [.bhd b2 120 (.slice a8_0 (headV5 xl x4l11 x9l11 yown1_0l11).length c8_0), .own (.slice a8_0 (headV5 xl x4l11 x9l11 yown1_0l11).length c8_0) 5 1 (headV5 xl x4l11 x9l11 yown1_0l11).length xs8_0, .blk b6 (.cells #[.int .i64 ((xl.getD (Int.toNat x9l11) default).1), .string ⟨⟨(xl.getD (Int.toNat x9l11) default).2.1⟩⟩, .string ⟨⟨(xl.getD (Int.toNat x9l11) default).2.2.1⟩⟩, .int .i64 ((xl.getD (Int.toNat x9l11) default).2.2.2)] 54)]) (econs (congrArg (fun l : Value => Ent.bhd b2 120 l) (congrArg (fun l : List (Int) => Value.slice a8_0 l.length c8_0) ((if_t hc7).symm))) (econs (congrArg (fun l : List (Int) => Ent.own (.slice a8_0 l.length c8_0) 5 1 l.length xs8_0) ((if_t hc7).symm)) (econs (rfl) rfl))) ?_
            exact fun a W hA hW => ⟨g8, hx8, a8_0, c8_0, xs8_0, (Eq.mp (congrArg (fun l : List (Int) => RepL g8 (.int .u8) xs8_0 l) ((if_t hc7).symm)) hL8_0), hA.sub (by kernel_rfl), hW.sub (.cons_cons _ (.cons_cons _ (.cons _ .slnil))), hF⟩
          · replace hF := hF.2 hc7
            refine Ok.skip ?_
            refine Ok.thenN ?_
            refine Ok.cut (fun a W => ∃ gj30 : Ghost, Gext w0 gl11 gj30 ∧ ∃ (ayown1_0j30 : Option Addr) (cyown1_0j30 : Nat) (xsyown1_0j30 : List Value), RepL gj30 (.int .u8) xsyown1_0j30 (headV2 x4l11 yown1_0l11) ∧ StA 24 [(3, .pointer (some ⟨b2, 0, none⟩)), (6, .pointer (some ⟨b6, 0, none⟩)), (7, .slice axl_0 xl.length cxl_0), (8, .int .i64 (xl.length : Int)), (9, .int .i64 x9l11)] a ∧ StW w0 [.bhd b2 120 (.slice ayown1_0j30 (headV2 x4l11 yown1_0l11).length cyown1_0j30), .own (.slice ayown1_0j30 (headV2 x4l11 yown1_0l11).length cyown1_0j30) 5 1 (headV2 x4l11 yown1_0l11).length xsyown1_0j30, .blk b6 (.cells #[.int .i64 e5.1, .string ⟨⟨e5.2.1⟩⟩, .string ⟨⟨e5.2.2.1⟩⟩, .int .i64 e5.2.2.2] 54)] gj30 W ∧ headj30 xl e5 x4l11 x9l11 yown1_0l11 (headl11 xl K k11)) ?_ ?_
            ·
              refine Ok.seq ?_
              refine Ok.region ?_
              refine Ok.batch 1 [(3, .pointer (some ⟨b2, 0, none⟩)), (6, .pointer (some ⟨b6, 0, none⟩)), (7, .slice axl_0 xl.length cxl_0), (8, .int .i64 (xl.length : Int)), (9, .int .i64 x9l11), (17, .bool x4l11)] (by kernel_rfl) ?_
              refine Ok.nil ?_
              refine Ok.thenN ?_
              refine Ok.cond (b := x4l11) rfl (fun hc11 => ?_) (fun hc11 => ?_)
              · replace hF := hF.1 hc11
                refine Ok.region ?_
                obtain ⟨hp12, hF⟩ := hF
                refine Ok.entries [1, 2, 0] [.bhd b2 120 (.slice ayown1_0l11 yown1_0l11.length cyown1_0l11), .own (.slice ayown1_0l11 yown1_0l11.length cyown1_0l11) 5 1 yown1_0l11.length xsyown1_0l11, .blk b6 (.cells #[.int .i64 e5.1, .string ⟨⟨e5.2.1⟩⟩, .string ⟨⟨e5.2.2.1⟩⟩, .int .i64 e5.2.2.2] 54)] (by decide) rfl ?_
                refine Ok.op rfl (OpOk.callH [.bhd b2 120 (.slice ayown1_0l11 yown1_0l11.length cyown1_0l11), .own (.slice ayown1_0l11 yown1_0l11.length cyown1_0l11) 5 1 yown1_0l11.length xsyown1_0l11] [.blk b6 (.cells #[.int .i64 e5.1, .string ⟨⟨e5.2.1⟩⟩, .string ⟨⟨e5.2.2.1⟩⟩, .int .i64 e5.2.2.2] 54)] (enters (by kernel_rfl) (fun _ => by kernel_rfl)) rfl (Bld.wb_c yown1_0l11 32 hLyown1_0l11 hp12) rfl fun g13 _ _ hx13 hV13 => ?_)
                obtain ⟨a13_0, c13_0, xs13_0, rfl, hL13_0, rfl⟩ := hV13
                replace hRxl_0 := hRxl_0.mono hx13.1
                refine Ok.nil ?_
                refine Ok.thenN ?_
                refine Ok.heapEq (H' := [.bhd b2 120 (.slice a13_0 (headV2 x4l11 yown1_0l11).length c13_0), .own (.slice a13_0 (headV2 x4l11 yown1_0l11).length c13_0) 5 1 (headV2 x4l11 yown1_0l11).length xs13_0, .blk b6 (.cells #[.int .i64 e5.1, .string ⟨⟨e5.2.1⟩⟩, .string ⟨⟨e5.2.2.1⟩⟩, .int .i64 e5.2.2.2] 54)]) (econs (congrArg (fun l : Value => Ent.bhd b2 120 l) (congrArg (fun l : List (Int) => Value.slice a13_0 l.length c13_0) ((if_t hc11).symm))) (econs (congrArg (fun l : List (Int) => Ent.own (.slice a13_0 l.length c13_0) 5 1 l.length xs13_0) ((if_t hc11).symm)) (econs (rfl) rfl))) ?_
                exact fun a W hA hW => ⟨g13, hx13, a13_0, c13_0, xs13_0, (Eq.mp (congrArg (fun l : List (Int) => RepL g13 (.int .u8) xs13_0 l) ((if_t hc11).symm)) hL13_0), hA.sub (by kernel_rfl), hW, hF⟩
              · replace hF := hF.2 hc11
                refine Ok.skip ?_
                refine Ok.thenN ?_
                refine Ok.heapEq (H' := [.blk b6 (.cells #[.int .i64 e5.1, .string ⟨⟨e5.2.1⟩⟩, .string ⟨⟨e5.2.2.1⟩⟩, .int .i64 e5.2.2.2] 54), .bhd b2 120 (.slice ayown1_0l11 (headV2 x4l11 yown1_0l11).length cyown1_0l11), .own (.slice ayown1_0l11 (headV2 x4l11 yown1_0l11).length cyown1_0l11) 5 1 (headV2 x4l11 yown1_0l11).length xsyown1_0l11]) (econs (rfl) (econs (congrArg (fun l : Value => Ent.bhd b2 120 l) (congrArg (fun l : List (Int) => Value.slice ayown1_0l11 l.length cyown1_0l11) ((if_f hc11).symm))) (econs (congrArg (fun l : List (Int) => Ent.own (.slice ayown1_0l11 l.length cyown1_0l11) 5 1 l.length xsyown1_0l11) ((if_f hc11).symm)) rfl))) ?_
                exact fun a W hA hW => ⟨gl11, (Gext.refl w0 gl11), ayown1_0l11, cyown1_0l11, xsyown1_0l11, (Eq.mp (congrArg (fun l : List (Int) => RepL gl11 (.int .u8) xsyown1_0l11 l) ((if_f hc11).symm)) hLyown1_0l11), hA.sub (by kernel_rfl), hW.pick [1, 2, 0] _ (by decide) rfl, hF⟩
            ·
              clear hF
              rintro a W ⟨gj30, hxj30, ayown1_0j30, cyown1_0j30, xsyown1_0j30, hLyown1_0j30, hA, hW, hF⟩
              refine (?_ : Ok _ _ _ _ _ _) a W hA hW
              clear hA hW
              replace hRxl_0 := hRxl_0.mono hxj30.1
              refine Ok.seq ?_
              refine Ok.region ?_
              refine Ok.batch 1 [(3, .pointer (some ⟨b2, 0, none⟩)), (7, .slice axl_0 xl.length cxl_0), (8, .int .i64 (xl.length : Int)), (9, .int .i64 x9l11), (19, .pointer (some ⟨b6, 1, none⟩))] (by kernel_rfl) ?_
              refine Ok.op rfl (OpOk.step (v := .string ⟨⟨e5.2.1⟩⟩) (Yields.load 2 rfl rfl Tryd.underlying9 rfl (by kernel_rfl)) rfl rfl ?_)
              obtain ⟨hp9, hF⟩ := hF
              refine Ok.op rfl (OpOk.callH [.bhd b2 120 (.slice ayown1_0j30 (headV2 x4l11 yown1_0l11).length cyown1_0j30), .own (.slice ayown1_0j30 (headV2 x4l11 yown1_0l11).length cyown1_0j30) 5 1 (headV2 x4l11 yown1_0l11).length xsyown1_0j30] [.blk b6 (.cells #[.int .i64 e5.1, .string ⟨⟨e5.2.1⟩⟩, .string ⟨⟨e5.2.2.1⟩⟩, .int .i64 e5.2.2.2] 54)] (enters (by kernel_rfl) (fun _ => by kernel_rfl)) rfl (Bld.ws_c (headV2 x4l11 yown1_0l11) e5.2.1 hLyown1_0j30 hp9) rfl fun g10 _ _ hx10 hV10 => ?_)
              obtain ⟨a10_0, c10_0, xs10_0, rfl, hL10_0, rfl⟩ := hV10
              replace hRxl_0 := hRxl_0.mono hx10.1
              refine Ok.nil ?_
              refine Ok.thenN ?_
              refine Ok.region ?_
              refine Ok.batch 1 [(3, .pointer (some ⟨b2, 0, none⟩)), (4, .bool false), (7, .slice axl_0 xl.length cxl_0), (8, .int .i64 (xl.length : Int)), (9, .int .i64 x9l11)] (by kernel_rfl) ?_
              refine Ok.nil ?_
              refine Ok.blockN ?_
              refine Ok.thenN ?_
              subst hg5
              refine Ok.reval 4 rfl (show (.bool false : Value) = .bool (headV4 xl x9l11 yown1_0l11) from congrArg (Value.bool) (mand_f hc7)) ?_
              refine Ok.heapEq (H' := [.bhd b2 120 (.slice a10_0 (headV5 xl x4l11 x9l11 yown1_0l11).length c10_0), .own (.slice a10_0 (headV5 xl x4l11 x9l11 yown1_0l11).length c10_0) 5 1 (headV5 xl x4l11 x9l11 yown1_0l11).length xs10_0, .blk b6 (.cells #[.int .i64 ((xl.getD (Int.toNat x9l11) default).1), .string ⟨⟨(xl.getD (Int.toNat x9l11) default).2.1⟩⟩, .string ⟨⟨(xl.getD (Int.toNat x9l11) default).2.2.1⟩⟩, .int .i64 ((xl.getD (Int.toNat x9l11) default).2.2.2)] 54)]) (econs (congrArg (fun l : Value => Ent.bhd b2 120 l) (congrArg (fun l : List (Int) => Value.slice a10_0 l.length c10_0) ((if_f hc7).symm))) (econs (congrArg (fun l : List (Int) => Ent.own (.slice a10_0 l.length c10_0) 5 1 l.length xs10_0) ((if_f hc7).symm)) (econs (rfl) rfl))) ?_
              exact fun a W hA hW => ⟨g10, (hxj30.trans hx10), a10_0, c10_0, xs10_0, (Eq.mp (congrArg (fun l : List (Int) => RepL g10 (.int .u8) xs10_0 l) ((if_f hc7).symm)) hL10_0), hA.sub (by kernel_rfl), hW.sub (.cons_cons _ (.cons_cons _ (.cons _ .slnil))), hF⟩
        ·
          clear hF
          rintro a W ⟨gj18, hxj18, ayown1_0j18, cyown1_0j18, xsyown1_0j18, hLyown1_0j18, hA, hW, hF⟩
          refine (?_ : Ok _ _ _ _ _ _) a W hA hW
          clear hA hW
          replace hRxl_0 := hRxl_0.mono hxj18.1
          refine Ok.region ?_
          refine Ok.batch 2 [(3, .pointer (some ⟨b2, 0, none⟩)), (4, .bool (headV4 xl x9l11 yown1_0l11)), (7, .slice axl_0 xl.length cxl_0), (8, .int .i64 (xl.length : Int)), (9, .int .i64 (IntKind.wrap .i64 (x9l11 + 1)))] (by kernel_rfl) ?_
          refine Ok.nil ?_
          refine Ok.thenN ?_
          exact fun a W hA hW => ⟨k11, Nat.lt_succ_self _, gj18, (hxl11.trans hxj18), (headV4 xl x9l11 yown1_0l11), IntKind.wrap .i64 (x9l11 + 1), ayown1_0j18, cyown1_0j18, (headV5 xl x4l11 x9l11 yown1_0l11), xsyown1_0j18, hLyown1_0j18, hA.sub (by kernel_rfl), hW, hF⟩
      · replace hF := hF.2 hc3
        refine Ok.exit ?_
        refine Ok.thenE ?_
        refine Ok.thenE ?_
        refine Ok.blockHit ?_
        refine Ok.thenN ?_
        refine Ok.seq ?_
        refine Ok.region ?_
        obtain ⟨hp14, hF⟩ := hF
        refine Ok.op rfl (OpOk.callH [.bhd b2 120 (.slice ayown1_0l11 yown1_0l11.length cyown1_0l11), .own (.slice ayown1_0l11 yown1_0l11.length cyown1_0l11) 5 1 yown1_0l11.length xsyown1_0l11] [] (enters (by kernel_rfl) (fun _ => by kernel_rfl)) rfl (Bld.st_c yown1_0l11 hLyown1_0l11 hp14) rfl fun g15 _ _ hx15 hV15 => ?_)
        obtain ⟨rfl, rfl⟩ := hV15
        refine Ok.batch 1 [(2, .string ⟨⟨(bytesOf yown1_0l11)⟩⟩)] (by kernel_rfl) ?_
        refine Ok.nil ?_
        refine Ok.thenN ?_
        refine Ok.ret ?_
        exact Ok.resH (vs := [.string ⟨⟨(bytesOf yown1_0l11)⟩⟩]) (.inl rfl) rfl (.cons (.tmp rfl) .nil) (hxl11.trans hx15) ⟨(bytesOf yown1_0l11), rfl, rfl, hF⟩
/-- the Head: what is not silent, a blank where something silent was between -/
def headN : List Tok → Bool → List UInt8 → List UInt8
  | [], _, acc => acc
  | t :: l, gap, acc => if silentM t = true then headN l (decide (0 < acc.length)) acc else headN l false ((if gap = true then acc ++ [32] else acc) ++ t.2.1)
def headS (l : List Tok) : List UInt8 := headN l false []
def headP (l : List Tok) : Prop := (rawS l).length + l.length ≤ 1048576
theorem wb_ints (a : List UInt8) : (wbS (intsOf a) 32).2 = intsOf (a ++ [32]) := by simp [wbS, intsOf]
theorem gap_ints (gap : Bool) (a : List UInt8) : headV2 gap (intsOf a) = intsOf (if gap = true then a ++ [32] else a) := by
  unfold headV2
  cases gap
  · rfl
  · exact wb_ints a
theorem gap_len (gap : Bool) (a : List UInt8) : (if gap = true then a ++ [32] else a).length ≤ a.length + 1 := by
  split <;> simp
theorem head_loop (l : List Tok) (K : List UInt8 → Prop) : ∀ (k i : Nat) (gap : Bool) (acc : List UInt8), i + k = l.length → acc.length + (rawS (l.drop i)).length + k ≤ 1048576 → l.length ≤ 1048576 → K (headN (l.drop i) gap acc) → headl11 l K (k + 1) gap (i : Int) (intsOf acc) := by
  intro k
  induction k with
  | zero =>
    intro i gap acc h1 h2 h3 hK
    rw [List.drop_of_length_le (by omega)] at hK
    exact ⟨fun h => by have := of_decide_eq_true h; omega, fun _ => ⟨by unfold stP; rw [bytesOf_intsOf], by rw [bytesOf_intsOf]; exact hK⟩⟩
  | succ k ih =>
    intro i gap acc h1 h2 h3 hK
    rw [raw_drop (by omega), List.length_append] at h2
    rw [drop_get (l := l) default (by omega), headN] at hK
    refine ⟨fun _ => ⟨by omega, by omega, fun hs => ?_, fun hs => ?_⟩, fun h => by have := of_decide_eq_false h; omega⟩
    · rw [Int.toNat_natCast] at hs
      rw [if_t hs] at hK
      unfold headj18 headV4 headV5
      rw [Int.toNat_natCast, if_t hs, hs, Bool.true_and, w64 (by omega)]
      have e : decide ((lenS (intsOf acc)).1 > 0) = decide (0 < acc.length) := by
        apply decide_eq_decide.2
        unfold lenS
        rw [intsOf_length]
        simp
      rw [e]
      exact ih (i + 1) _ acc (by omega) (by omega) h3 hK
    · rw [Int.toNat_natCast] at hs
      rw [if_f hs] at hK
      have hg := gap_len gap acc
      have key : headj30 l (l.getD i default) gap (i : Int) (intsOf acc) (headl11 l K (k + 1)) := by
        unfold headj30 headj18 headV4 headV5
        rw [Int.toNat_natCast, if_f hs, hs, Bool.false_and, gap_ints, w64 (by omega)]
        refine ⟨by unfold wsP; rw [intsOf_length]; omega, ?_⟩
        unfold wsS
        simp only
        rw [ints_app]
        exact ih (i + 1) false _ (by omega) (by rw [List.length_append]; omega) h3 hK
      rw [Int.toNat_natCast]
      exact ⟨fun _ => ⟨by unfold wbP; rw [intsOf_length]; omega, key⟩, fun _ => key⟩
theorem head_F (l : List Tok) (hp : headP l) : headF l (fun r => r = headS l) := by
  unfold headP at hp
  exact ⟨_, head_loop l _ l.length 0 false [] (by omega) (by simp; omega) (by omega) rfl⟩
set_option linter.unusedVariables false in
theorem head_c {g : Ghost} {axl_0 : Option Addr} {cxl_0 : Nat} (xl : List (Int × List UInt8 × List UInt8 × Int)) (hRxl_0 : Rep g (.slice (.pair (.int .i64) (.pair (.str) (.pair (.str) (.int .i64))))) [.slice axl_0 xl.length cxl_0] xl)  (hp : headP xl) : CallsG Tryd.prog 41 #[.slice axl_0 xl.length cxl_0] g (.string ⟨⟨(headS xl)⟩⟩) :=
  (head_ok xl hRxl_0 _ (head_F xl hp)).gives (by rintro g' H' v _ ⟨r0, rfl, rfl, hK⟩; subst hK; rfl)
def rsilj3 (xt : Int × List UInt8 × List UInt8 × Int) (K : Bool → Prop) : Prop :=
  K ((xt.1 == 8) || (xt.1 == 9))
def rsilF (xt : Int × List UInt8 × List UInt8 × Int) (K : Bool → Prop) : Prop :=
  (((xt.1 == 8)) = true → rsilj3 xt K) ∧ (((xt.1 == 8)) = false → rsilj3 xt K)
set_option maxHeartbeats 4000000 in
set_option maxRecDepth 100000 in
set_option linter.unusedVariables false in
theorem rsil_ok {g : Ghost} (xt : Int × List UInt8 × List UInt8 × Int) (K : Bool → Prop)
    (hF : rsilF xt K) : CallsH Tryd.prog 99 #[.agg #[.int .i64 xt.1, .string ⟨⟨xt.2.1⟩⟩, .string ⟨⟨xt.2.2.1⟩⟩, .int .i64 xt.2.2.2]] g [] (fun g' H' v => ∃ (r0 : Bool), v = .bool r0 ∧ H' = [] ∧ K r0) := by
  refine CallsH.enter 11 [(0, .agg #[.int .i64 xt.1, .string ⟨⟨xt.2.1⟩⟩, .string ⟨⟨xt.2.2.1⟩⟩, .int .i64 xt.2.2.2])] Tryd.func99 rfl (by kernel_rfl) (by kernel_rfl) (by kernel_rfl) fun w0 => ?_
  refine Ok.seq ?_
  refine Ok.region ?_
  refine Ok.op rfl (OpOk.box (v := .agg #[.int .i64 xt.1, .string ⟨⟨xt.2.1⟩⟩, .string ⟨⟨xt.2.2.1⟩⟩, .int .i64 xt.2.2.2]) (cs := #[.int .i64 xt.1, .string ⟨⟨xt.2.1⟩⟩, .string ⟨⟨xt.2.2.1⟩⟩, .int .i64 xt.2.2.2]) rfl (by kernel_rfl) rfl fun b1 => ?_)
  refine Ok.batch 1 [(1, .pointer (some ⟨b1, 0, none⟩))] (by kernel_rfl) ?_
  refine Ok.nil ?_
  refine Ok.thenN ?_
  refine Ok.cut (fun a W => StA 11 [(2, .bool ((xt.1 == 8) || (xt.1 == 9)))] a ∧ StW w0 [] g W ∧ rsilj3 xt K) ?_ ?_
  ·
    refine Ok.region ?_
    refine Ok.batch 1 [(1, .pointer (some ⟨b1, 0, none⟩)), (3, .pointer (some ⟨b1, 0, none⟩))] (by kernel_rfl) ?_
    refine Ok.op rfl (OpOk.step (v := .int .i64 xt.1) (Yields.load 0 rfl rfl Tryd.underlying3 rfl (by kernel_rfl)) rfl rfl ?_)
    refine Ok.batch 2 [(1, .pointer (some ⟨b1, 0, none⟩)), (6, .bool (xt.1 == 8))] (by kernel_rfl) ?_
    refine Ok.boolAt 6 ((xt.1 == 8)) rfl (fun hc2 => ?_) (fun hc2 => ?_)
    · replace hF := hF.1 hc2
      refine Ok.batch 5 [(2, .bool true)] (by kernel_rfl) ?_
      refine Ok.nil ?_
      refine Ok.thenN ?_
      refine Ok.reval 2 rfl (show (.bool true : Value) = .bool ((xt.1 == 8) || (xt.1 == 9)) from congrArg (Value.bool) (mor_t hc2)) ?_
      exact fun a W hA hW => ⟨hA.sub (by kernel_rfl), hW.sub (.cons _ .slnil), hF⟩
    · replace hF := hF.2 hc2
      refine Ok.batch 1 [(6, .bool false), (7, .pointer (some ⟨b1, 0, none⟩))] (by kernel_rfl) ?_
      refine Ok.opYes (j := 3) (d := 6) (want := false) (b := false) rfl (by kernel_rfl) (by kernel_rfl) rfl (OpOk.step (v := .int .i64 xt.1) (Yields.load 0 rfl rfl Tryd.underlying3 rfl (by kernel_rfl)) rfl rfl ?_)
      refine Ok.batch 3 [(2, .bool (xt.1 == 9))] (by kernel_rfl) ?_
      refine Ok.nil ?_
      refine Ok.thenN ?_
      refine Ok.reval 2 rfl (show (.bool (xt.1 == 9) : Value) = .bool ((xt.1 == 8) || (xt.1 == 9)) from congrArg (Value.bool) (mor_f hc2)) ?_
      exact fun a W hA hW => ⟨hA.sub (by kernel_rfl), hW.sub (.cons _ .slnil), hF⟩
  ·
    clear hF
    rintro a W ⟨hA, hW, hF⟩
    refine (?_ : Ok _ _ _ _ _ _) a W hA hW
    clear hA hW
    refine Ok.ret ?_
    exact Ok.resH (vs := [.bool ((xt.1 == 8) || (xt.1 == 9))]) (.inl rfl) rfl (.cons (.tmp rfl) .nil) (Gext.refl w0 g) ⟨((xt.1 == 8) || (xt.1 == 9)), rfl, rfl, hF⟩
def rsilj3M (xt : Int × List UInt8 × List UInt8 × Int) : Bool := ((xt.1 == 8) || (xt.1 == 9))
set_option linter.unusedSimpArgs false in
set_option linter.unusedVariables false in
theorem rsilj3_A (xt : Int × List UInt8 × List UInt8 × Int) (P : Bool → Prop) (h : P (rsilj3M xt)) : rsilj3 xt (fun k0 => P k0) := by
  unfold rsilj3M at h
  unfold rsilj3
  exact h
def rsilM (xt : Int × List UInt8 × List UInt8 × Int) : Bool := (rsilj3M xt)
set_option linter.unusedSimpArgs false in
set_option linter.unusedVariables false in
theorem rsilF_A (xt : Int × List UInt8 × List UInt8 × Int) (P : Bool → Prop) (h : P (rsilM xt)) : rsilF xt (fun k0 => P k0) := by
  unfold rsilM at h
  unfold rsilF
  refine ⟨fun hc0 => ?_, fun hc0 => ?_⟩
  · skip
    have hd0 := hc0; try simp only [Bool.and_eq_true, Bool.or_eq_true, Bool.and_eq_false_iff, Bool.or_eq_false_iff, Bool.not_eq_true', Bool.not_eq_false', decide_eq_true_eq, decide_eq_false_iff_not, beq_iff_eq, beq_eq_false_iff_ne, ne_eq] at hd0
    exact rsilj3_A xt _ h
  · skip
    have hd0 := hc0; try simp only [Bool.and_eq_true, Bool.or_eq_true, Bool.and_eq_false_iff, Bool.or_eq_false_iff, Bool.not_eq_true', Bool.not_eq_false', decide_eq_true_eq, decide_eq_false_iff_not, beq_iff_eq, beq_eq_false_iff_ne, ne_eq] at hd0
    exact rsilj3_A xt _ h
theorem rsil_F (xt : Int × List UInt8 × List UInt8 × Int) : rsilF xt (fun k0 => k0 = rsilM xt) :=
  rsilF_A xt (fun z => z = rsilM xt) rfl
set_option linter.unusedVariables false in
theorem rsil_c {g : Ghost} (xt : Int × List UInt8 × List UInt8 × Int)  : CallsG Tryd.prog 99 #[.agg #[.int .i64 xt.1, .string ⟨⟨xt.2.1⟩⟩, .string ⟨⟨xt.2.2.1⟩⟩, .int .i64 xt.2.2.2]] g (.bool (rsilM xt)) :=
  (rsil_ok xt _ (rsil_F xt)).gives (by rintro g' H' v _ ⟨r0, rfl, rfl, hK⟩; subst hK; rfl)
def rheadV3 (xl : List (Int × List UInt8 × List UInt8 × Int)) (x3l9 : List UInt8) (x4l9 : Int) : Bool :=
  ((!(x3l9 == ([] : List UInt8))) && (rsilM (xl.getD (Int.toNat (IntKind.wrap .i64 (x4l9 - 1))) default)))
def rheadV4 (xl : List (Int × List UInt8 × List UInt8 × Int)) (x3l9 : List UInt8) (x4l9 : Int) : List UInt8 :=
  (if (rheadV3 xl x3l9 x4l9) = true then x3l9 ++ ([32] : List UInt8) else x3l9)
def rheadV6 (xl : List (Int × List UInt8 × List UInt8 × Int)) (x3l9 : List UInt8) (x4l9 : Int) : List UInt8 :=
  (if (rsilM (xl.getD (Int.toNat x4l9) default)) = true then x3l9 else (rheadV4 xl x3l9 x4l9) ++ (xl.getD (Int.toNat x4l9) default).2.1)
def rheadj16 (xl : List (Int × List UInt8 × List UInt8 × Int)) (x3l9 : List UInt8) (x4l9 : Int) (C9 : (List UInt8) → Int → Prop) : Prop :=
  C9 (rheadV6 xl x3l9 x4l9) (IntKind.wrap .i64 (x4l9 + 1))
def rheadj24 (xl : List (Int × List UInt8 × List UInt8 × Int)) (e3 : Int × List UInt8 × List UInt8 × Int) (x3l9 : List UInt8) (x4l9 : Int) (C9 : (List UInt8) → Int → Prop) : Prop :=
  (rheadV4 xl x3l9 x4l9).length + e3.2.1.length ≤ maxLen ∧ rheadj16 xl x3l9 x4l9 C9
def rheadj25 (xl : List (Int × List UInt8 × List UInt8 × Int)) (e3 : Int × List UInt8 × List UInt8 × Int) (x3l9 : List UInt8) (x4l9 : Int) (C9 : (List UInt8) → Int → Prop) : Prop :=
  (((rheadV3 xl x3l9 x4l9)) = true → x3l9.length + ([32] : List UInt8).length ≤ maxLen ∧ rheadj24 xl e3 x3l9 x4l9 C9) ∧ (((rheadV3 xl x3l9 x4l9)) = false → rheadj24 xl e3 x3l9 x4l9 C9)
def rheadl9b (xl : List (Int × List UInt8 × List UInt8 × Int)) (K : (List UInt8) → Prop) (x3l9 : List UInt8) (x4l9 : Int) (C9 : (List UInt8) → Int → Prop) : Prop :=
  ((decide (x4l9 < (xl.length : Int))) = true → (0 : Int) ≤ x4l9 ∧ Int.toNat x4l9 < xl.length ∧ (((rsilM (xl.getD (Int.toNat x4l9) default))) = true → rheadj16 xl x3l9 x4l9 C9) ∧ (((rsilM (xl.getD (Int.toNat x4l9) default))) = false → ((!(x3l9 == ([] : List UInt8))) = true → (0 : Int) ≤ (IntKind.wrap .i64 (x4l9 - 1)) ∧ Int.toNat (IntKind.wrap .i64 (x4l9 - 1)) < xl.length ∧ rheadj25 xl (xl.getD (Int.toNat x4l9) default) x3l9 x4l9 C9) ∧ ((!(x3l9 == ([] : List UInt8))) = false → rheadj25 xl (xl.getD (Int.toNat x4l9) default) x3l9 x4l9 C9))) ∧ ((decide (x4l9 < (xl.length : Int))) = false → K x3l9)
def rheadl9 (xl : List (Int × List UInt8 × List UInt8 × Int)) (K : (List UInt8) → Prop) : Nat → (List UInt8) → Int → Prop
  | 0, _, _ => False
  | k + 1, x3l9, x4l9 => rheadl9b xl K x3l9 x4l9 (rheadl9 xl K k)
def rheadF (xl : List (Int × List UInt8 × List UInt8 × Int)) (K : (List UInt8) → Prop) : Prop :=
  ∃ k, rheadl9 xl K k ([] : List UInt8) 0
set_option maxHeartbeats 4000000 in
set_option maxRecDepth 100000 in
set_option linter.unusedVariables false in
theorem rhead_ok {g : Ghost} {axl_0 : Option Addr} {cxl_0 : Nat} (xl : List (Int × List UInt8 × List UInt8 × Int)) (hRxl_0 : Rep g (.slice (.pair (.int .i64) (.pair (.str) (.pair (.str) (.int .i64))))) [.slice axl_0 xl.length cxl_0] xl) (K : (List UInt8) → Prop)
    (hF : rheadF xl K) : CallsH Tryd.prog 42 #[.slice axl_0 xl.length cxl_0] g [] (fun g' H' v => ∃ (r0 : List UInt8), v = .string ⟨⟨r0⟩⟩ ∧ H' = [] ∧ K r0) := by
  refine CallsH.enter 36 [(0, .slice axl_0 xl.length cxl_0)] Tryd.func42 rfl (by kernel_rfl) (by kernel_rfl) (by kernel_rfl) fun w0 => ?_
  refine Ok.seq ?_
  refine Ok.region ?_
  refine Ok.batch 1 [(0, .slice axl_0 xl.length cxl_0)] (by kernel_rfl) ?_
  refine Ok.nil ?_
  refine Ok.thenN ?_
  refine Ok.seq ?_
  refine Ok.region ?_
  refine Ok.batch 1 [(0, .slice axl_0 xl.length cxl_0), (3, .string ⟨⟨([] : List UInt8)⟩⟩)] (by kernel_rfl) ?_
  refine Ok.nil ?_
  refine Ok.thenN ?_
  refine Ok.seq ?_
  refine Ok.seq ?_
  refine Ok.region ?_
  refine Ok.batch 1 [(0, .slice axl_0 xl.length cxl_0), (3, .string ⟨⟨([] : List UInt8)⟩⟩), (4, .int .i64 0)] (by kernel_rfl) ?_
  refine Ok.nil ?_
  refine Ok.thenN ?_
  refine Ok.block ?_
  obtain ⟨k, hF⟩ := hF
  refine Ok.loop (fun k a W => ∃ (x3l9 : List UInt8) (x4l9 : Int), StA 36 [(0, .slice axl_0 xl.length cxl_0), (3, .string ⟨⟨x3l9⟩⟩), (4, .int .i64 x4l9)] a ∧ StW w0 [] g W ∧ rheadl9 xl K k x3l9 x4l9) k ?_ ?_
  ·
    exact fun a W hA hW => ⟨([] : List UInt8), 0, hA.sub (by kernel_rfl), hW, hF⟩
  ·
    clear hF
    rintro k9 a W ⟨x3l9, x4l9, hA, hW, hF⟩
    cases k9 with
    | zero => exact (hF : False).elim
    | succ k9 =>
      refine (?_ : Ok _ _ _ _ _ _) a W hA hW
      clear hA hW
      refine Ok.seq ?_
      refine Ok.seq ?_
      refine Ok.region ?_
      refine Ok.batch 4 [(0, .slice axl_0 xl.length cxl_0), (3, .string ⟨⟨x3l9⟩⟩), (4, .int .i64 x4l9), (8, .bool (decide (x4l9 < (xl.length : Int))))] (by kernel_rfl) ?_
      refine Ok.nil ?_
      refine Ok.thenN ?_
      refine Ok.cond (b := decide (x4l9 < (xl.length : Int))) rfl (fun hc1 => ?_) (fun hc1 => ?_)
      · replace hF := hF.1 hc1
        refine Ok.skip ?_
        refine Ok.thenN ?_
        refine Ok.cut (fun a W => StA 36 [(0, .slice axl_0 xl.length cxl_0), (3, .string ⟨⟨(rheadV6 xl x3l9 x4l9)⟩⟩), (4, .int .i64 x4l9)] a ∧ StW w0 [] g W ∧ rheadj16 xl x3l9 x4l9 (rheadl9 xl K k9)) ?_ ?_
        ·
          refine Ok.block ?_
          refine Ok.seq ?_
          refine Ok.seq ?_
          refine Ok.region ?_
          refine Ok.batch 2 [(0, .slice axl_0 xl.length cxl_0), (3, .string ⟨⟨x3l9⟩⟩), (4, .int .i64 x4l9), (11, .slice axl_0 xl.length cxl_0), (12, .int .i64 x4l9)] (by kernel_rfl) ?_
          obtain ⟨h03, h13, hF⟩ := hF
          have he3 := get_of (l := xl) (default : Int × List UInt8 × List UInt8 × Int) h13
          generalize hg3 : (xl.getD (Int.toNat x4l9) default) = e3 at he3 hF ⊢
          refine Ok.op rfl (OpOk.indexRo (e := .pair (.int .i64) (.pair (.str) (.pair (.str) (.int .i64)))) (i := x4l9) (el := e3) rfl rfl Tryd.underlying47 (by kernel_rfl) hRxl_0 h03 he3 rfl fun q2 o2 cs2 _ hat2 hr2 => ?_)
          obtain ⟨_, _, rfl, rfl, ⟨_, _, rfl, rfl, ⟨_, _, rfl, rfl, rfl⟩⟩⟩ := hr2
          replace hat2 : At g q2 o2 [.int .i64 e3.1, .string ⟨⟨e3.2.1⟩⟩, .string ⟨⟨e3.2.2.1⟩⟩, .int .i64 e3.2.2.2] := hat2
          refine Ok.op rfl (OpOk.step (v := .agg #[.int .i64 e3.1, .string ⟨⟨e3.2.1⟩⟩, .string ⟨⟨e3.2.2.1⟩⟩, .int .i64 e3.2.2.2]) (Yields.loadAggRo 0 4 #[.int .i64 e3.1, .string ⟨⟨e3.2.1⟩⟩, .string ⟨⟨e3.2.2.1⟩⟩, .int .i64 e3.2.2.2] hat2 (by kernel_rfl) Tryd.underlying54 rfl (by kernel_rfl) (by kernel_rfl) (by kernel_rfl)) rfl rfl ?_)
          refine Ok.op rfl (OpOk.callG (v := .bool (rsilM e3)) (enters (by kernel_rfl) (fun _ => by kernel_rfl)) (fun W hW => rsil_c e3) rfl ?_)
          refine Ok.nil ?_
          refine Ok.thenN ?_
          refine Ok.cond (b := (rsilM e3)) rfl (fun hc4 => ?_) (fun hc4 => ?_)
          · replace hF := hF.1 hc4
            refine Ok.exit ?_
            refine Ok.thenE ?_
            refine Ok.blockHit ?_
            refine Ok.thenN ?_
            subst hg3
            refine Ok.reval 3 rfl (show (.string ⟨⟨x3l9⟩⟩ : Value) = .string ⟨⟨(rheadV6 xl x3l9 x4l9)⟩⟩ from congrArg ((fun s : List UInt8 => Value.string ⟨⟨s⟩⟩)) ((if_t hc4).symm)) ?_
            exact fun a W hA hW => ⟨hA.sub (by kernel_rfl), hW, hF⟩
          · replace hF := hF.2 hc4
            refine Ok.skip ?_
            refine Ok.thenN ?_
            refine Ok.cut (fun a W => StA 36 [(0, .slice axl_0 xl.length cxl_0), (3, .string ⟨⟨(rheadV4 xl x3l9 x4l9)⟩⟩), (4, .int .i64 x4l9)] a ∧ StW w0 [] g W ∧ rheadj24 xl e3 x3l9 x4l9 (rheadl9 xl K k9)) ?_ ?_
            ·
              refine Ok.cut (fun a W => StA 36 [(0, .slice axl_0 xl.length cxl_0), (3, .string ⟨⟨x3l9⟩⟩), (4, .int .i64 x4l9), (25, .bool (rheadV3 xl x3l9 x4l9))] a ∧ StW w0 [] g W ∧ rheadj25 xl e3 x3l9 x4l9 (rheadl9 xl K k9)) ?_ ?_
              ·
                refine Ok.region ?_
                refine Ok.batch 1 [(0, .slice axl_0 xl.length cxl_0), (3, .string ⟨⟨x3l9⟩⟩), (4, .int .i64 x4l9), (16, .string ⟨⟨x3l9⟩⟩)] (by kernel_rfl) ?_
                refine Ok.op rfl (OpOk.step (v := .bool (!(x3l9 == ([] : List UInt8)))) (Yields.strCmp (f := .neq) (a := x3l9) (b := ([] : List UInt8)) (by kernel_rfl) (by kernel_rfl) rfl) rfl rfl ?_)
                refine Ok.batch 1 [(0, .slice axl_0 xl.length cxl_0), (3, .string ⟨⟨x3l9⟩⟩), (4, .int .i64 x4l9), (18, .bool (!(x3l9 == ([] : List UInt8))))] (by kernel_rfl) ?_
                refine Ok.boolAt 18 (!(x3l9 == ([] : List UInt8))) rfl (fun hc7 => ?_) (fun hc7 => ?_)
                · replace hF := hF.1 hc7
                  refine Ok.batch 3 [(0, .slice axl_0 xl.length cxl_0), (3, .string ⟨⟨x3l9⟩⟩), (4, .int .i64 x4l9), (18, .bool true), (19, .slice axl_0 xl.length cxl_0), (21, .int .i64 (IntKind.wrap .i64 (x4l9 - 1)))] (by kernel_rfl) ?_
                  obtain ⟨h09, h19, hF⟩ := hF
                  have he9 := get_of (l := xl) (default : Int × List UInt8 × List UInt8 × Int) h19
                  generalize hg9 : (xl.getD (Int.toNat (IntKind.wrap .i64 (x4l9 - 1))) default) = e9 at he9 hF ⊢
                  refine Ok.opYes (j := 2) (d := 18) (want := true) (b := true) rfl (by kernel_rfl) (by kernel_rfl) rfl (OpOk.indexRo (e := .pair (.int .i64) (.pair (.str) (.pair (.str) (.int .i64)))) (i := IntKind.wrap .i64 (x4l9 - 1)) (el := e9) rfl rfl Tryd.underlying47 (by kernel_rfl) hRxl_0 h09 he9 rfl fun q8 o8 cs8 _ hat8 hr8 => ?_)
                  obtain ⟨_, _, rfl, rfl, ⟨_, _, rfl, rfl, ⟨_, _, rfl, rfl, rfl⟩⟩⟩ := hr8
                  replace hat8 : At g q8 o8 [.int .i64 e9.1, .string ⟨⟨e9.2.1⟩⟩, .string ⟨⟨e9.2.2.1⟩⟩, .int .i64 e9.2.2.2] := hat8
                  refine Ok.opYes (j := 2) (d := 18) (want := true) (b := true) rfl (by kernel_rfl) (by kernel_rfl) rfl (OpOk.step (v := .agg #[.int .i64 e9.1, .string ⟨⟨e9.2.1⟩⟩, .string ⟨⟨e9.2.2.1⟩⟩, .int .i64 e9.2.2.2]) (Yields.loadAggRo 0 4 #[.int .i64 e9.1, .string ⟨⟨e9.2.1⟩⟩, .string ⟨⟨e9.2.2.1⟩⟩, .int .i64 e9.2.2.2] hat8 (by kernel_rfl) Tryd.underlying54 rfl (by kernel_rfl) (by kernel_rfl) (by kernel_rfl)) rfl rfl ?_)
                  refine Ok.opYes (j := 2) (d := 18) (want := true) (b := true) rfl (by kernel_rfl) (by kernel_rfl) rfl (OpOk.callG (v := .bool (rsilM e9)) (enters (by kernel_rfl) (fun _ => by kernel_rfl)) (fun W hW => rsil_c e9) rfl ?_)
                  refine Ok.batch 1 [(0, .slice axl_0 xl.length cxl_0), (3, .string ⟨⟨x3l9⟩⟩), (4, .int .i64 x4l9), (25, .bool (rsilM e9))] (by kernel_rfl) ?_
                  refine Ok.nil ?_
                  refine Ok.thenN ?_
                  subst hg9
                  refine Ok.reval 25 rfl (show (.bool (rsilM (xl.getD (Int.toNat (IntKind.wrap .i64 (x4l9 - 1))) default)) : Value) = .bool (rheadV3 xl x3l9 x4l9) from congrArg (Value.bool) (mand_t hc7)) ?_
                  exact fun a W hA hW => ⟨hA.sub (by kernel_rfl), hW, hF⟩
                · replace hF := hF.2 hc7
                  refine Ok.batch 7 [(0, .slice axl_0 xl.length cxl_0), (3, .string ⟨⟨x3l9⟩⟩), (4, .int .i64 x4l9), (25, .bool false)] (by kernel_rfl) ?_
                  refine Ok.nil ?_
                  refine Ok.thenN ?_
                  refine Ok.reval 25 rfl (show (.bool false : Value) = .bool (rheadV3 xl x3l9 x4l9) from congrArg (Value.bool) (mand_f hc7)) ?_
                  exact fun a W hA hW => ⟨hA.sub (by kernel_rfl), hW, hF⟩
              ·
                clear hF
                rintro a W ⟨hA, hW, hF⟩
                refine (?_ : Ok _ _ _ _ _ _) a W hA hW
                clear hA hW
                refine Ok.cond (b := (rheadV3 xl x3l9 x4l9)) rfl (fun hc6 => ?_) (fun hc6 => ?_)
                · replace hF := hF.1 hc6
                  refine Ok.region ?_
                  refine Ok.batch 1 [(0, .slice axl_0 xl.length cxl_0), (4, .int .i64 x4l9), (26, .string ⟨⟨x3l9⟩⟩)] (by kernel_rfl) ?_
                  obtain ⟨hv, hF⟩ := hF
                  refine Ok.op rfl (OpOk.step (v := .string ⟨⟨x3l9 ++ ([32] : List UInt8)⟩⟩) (Yields.strAdd rfl rfl hv) rfl rfl ?_)
                  refine Ok.batch 1 [(0, .slice axl_0 xl.length cxl_0), (3, .string ⟨⟨x3l9 ++ ([32] : List UInt8)⟩⟩), (4, .int .i64 x4l9)] (by kernel_rfl) ?_
                  refine Ok.nil ?_
                  refine Ok.thenN ?_
                  refine Ok.reval 3 rfl (show (.string ⟨⟨x3l9 ++ ([32] : List UInt8)⟩⟩ : Value) = .string ⟨⟨(rheadV4 xl x3l9 x4l9)⟩⟩ from congrArg ((fun s : List UInt8 => Value.string ⟨⟨s⟩⟩)) ((if_t hc6).symm)) ?_
                  exact fun a W hA hW => ⟨hA.sub (by kernel_rfl), hW, hF⟩
                · replace hF := hF.2 hc6
                  refine Ok.skip ?_
                  refine Ok.thenN ?_
                  refine Ok.reval 3 rfl (show (.string ⟨⟨x3l9⟩⟩ : Value) = .string ⟨⟨(rheadV4 xl x3l9 x4l9)⟩⟩ from congrArg ((fun s : List UInt8 => Value.string ⟨⟨s⟩⟩)) ((if_f hc6).symm)) ?_
                  exact fun a W hA hW => ⟨hA.sub (by kernel_rfl), hW, hF⟩
            ·
              clear hF
              rintro a W ⟨hA, hW, hF⟩
              refine (?_ : Ok _ _ _ _ _ _) a W hA hW
              clear hA hW
              refine Ok.region ?_
              refine Ok.batch 3 [(0, .slice axl_0 xl.length cxl_0), (4, .int .i64 x4l9), (28, .string ⟨⟨(rheadV4 xl x3l9 x4l9)⟩⟩), (29, .slice axl_0 xl.length cxl_0), (30, .int .i64 x4l9)] (by kernel_rfl) ?_
              refine Ok.op rfl (OpOk.indexRo (e := .pair (.int .i64) (.pair (.str) (.pair (.str) (.int .i64)))) (i := x4l9) (el := e3) rfl rfl Tryd.underlying47 (by kernel_rfl) hRxl_0 h03 he3 rfl fun q5 o5 cs5 _ hat5 hr5 => ?_)
              obtain ⟨_, _, rfl, rfl, ⟨_, _, rfl, rfl, ⟨_, _, rfl, rfl, rfl⟩⟩⟩ := hr5
              replace hat5 : At g q5 o5 [.int .i64 e3.1, .string ⟨⟨e3.2.1⟩⟩, .string ⟨⟨e3.2.2.1⟩⟩, .int .i64 e3.2.2.2] := hat5
              refine Ok.batch 1 [(0, .slice axl_0 xl.length cxl_0), (4, .int .i64 x4l9), (28, .string ⟨⟨(rheadV4 xl x3l9 x4l9)⟩⟩), (32, .pointer (some ⟨q5, o5 + 1, none⟩))] (by kernel_rfl) ?_
              refine Ok.op rfl (OpOk.step (v := .string ⟨⟨e3.2.1⟩⟩) (Yields.loadRo 1 hat5 (by kernel_rfl) Tryd.underlying9 rfl (by kernel_rfl)) rfl rfl ?_)
              obtain ⟨hv, hF⟩ := hF
              refine Ok.op rfl (OpOk.step (v := .string ⟨⟨(rheadV4 xl x3l9 x4l9) ++ e3.2.1⟩⟩) (Yields.strAdd rfl rfl hv) rfl rfl ?_)
              refine Ok.batch 1 [(0, .slice axl_0 xl.length cxl_0), (3, .string ⟨⟨(rheadV4 xl x3l9 x4l9) ++ e3.2.1⟩⟩), (4, .int .i64 x4l9)] (by kernel_rfl) ?_
              refine Ok.nil ?_
              refine Ok.blockN ?_
              refine Ok.thenN ?_
              subst hg3
              refine Ok.reval 3 rfl (show (.string ⟨⟨(rheadV4 xl x3l9 x4l9) ++ (xl.getD (Int.toNat x4l9) default).2.1⟩⟩ : Value) = .string ⟨⟨(rheadV6 xl x3l9 x4l9)⟩⟩ from congrArg ((fun s : List UInt8 => Value.string ⟨⟨s⟩⟩)) ((if_f hc4).symm)) ?_
              exact fun a W hA hW => ⟨hA.sub (by kernel_rfl), hW, hF⟩
        ·
          clear hF
          rintro a W ⟨hA, hW, hF⟩
          refine (?_ : Ok _ _ _ _ _ _) a W hA hW
          clear hA hW
          refine Ok.region ?_
          refine Ok.batch 3 [(0, .slice axl_0 xl.length cxl_0), (3, .string ⟨⟨(rheadV6 xl x3l9 x4l9)⟩⟩), (4, .int .i64 (IntKind.wrap .i64 (x4l9 + 1)))] (by kernel_rfl) ?_
          refine Ok.nil ?_
          refine Ok.thenN ?_
          exact fun a W hA hW => ⟨k9, Nat.lt_succ_self _, (rheadV6 xl x3l9 x4l9), IntKind.wrap .i64 (x4l9 + 1), hA.sub (by kernel_rfl), hW, hF⟩
      · replace hF := hF.2 hc1
        refine Ok.exit ?_
        refine Ok.thenE ?_
        refine Ok.thenE ?_
        refine Ok.blockHit ?_
        refine Ok.thenN ?_
        refine Ok.seq ?_
        refine Ok.region ?_
        refine Ok.batch 2 [(2, .string ⟨⟨x3l9⟩⟩)] (by kernel_rfl) ?_
        refine Ok.nil ?_
        refine Ok.thenN ?_
        refine Ok.ret ?_
        exact Ok.resH (vs := [.string ⟨⟨x3l9⟩⟩]) (.inl rfl) rfl (.cons (.tmp rfl) .nil) (Gext.refl w0 g) ⟨x3l9, rfl, rfl, hF⟩
theorem sil_eq (t : Tok) : rsilM t = silentM t := rfl
theorem rhead_loop (l : List Tok) (K : List UInt8 → Prop) : ∀ (k i : Nat) (gap : Bool) (acc : List UInt8), i + k = l.length → acc.length + (rawS (l.drop i)).length + k ≤ 1048576 → l.length ≤ 1048576 → (acc ≠ [] → 0 < i) → gap = (!(acc == []) && silentM (l.getD (i - 1) default)) →
    K (headN (l.drop i) gap acc) → rheadl9 l K (k + 1) acc (i : Int) := by
  intro k
  induction k with
  | zero =>
    intro i gap acc h1 h2 h3 h4 h5 hK
    rw [List.drop_of_length_le (by omega)] at hK
    exact ⟨fun h => by have := of_decide_eq_true h; omega, fun _ => hK⟩
  | succ k ih =>
    intro i gap acc h1 h2 h3 h4 h5 hK
    rw [raw_drop (by omega), List.length_append] at h2
    rw [drop_get (l := l) default (by omega), headN] at hK
    refine ⟨fun _ => ⟨by omega, by omega, fun hs => ?_, fun hs => ?_⟩, fun h => by have := of_decide_eq_false h; omega⟩
    · rw [Int.toNat_natCast, sil_eq] at hs
      rw [if_t hs] at hK
      unfold rheadj16 rheadV6
      rw [Int.toNat_natCast, sil_eq, if_t hs, w64 (by omega)]
      refine ih (i + 1) _ acc (by omega) (by omega) h3 (fun _ => by omega) ?_ hK
      rw [show i + 1 - 1 = i by omega, hs, Bool.and_true]
      cases acc <;> simp
    · rw [Int.toNat_natCast, sil_eq] at hs
      rw [if_f hs] at hK
      have hg := gap_len gap acc
      have hV3 : acc ≠ [] → rheadV3 l acc (i : Int) = gap := fun hne => by
        have := h4 hne
        unfold rheadV3
        rw [h5, w64 (by omega), show ((i : Int) - 1).toNat = i - 1 by omega, sil_eq]
      have hV3' : acc = [] → rheadV3 l acc (i : Int) = gap := fun hn => by
        rw [h5, hn]; rfl
      have hV : rheadV3 l acc (i : Int) = gap := by
        by_cases hn : acc = []
        · exact hV3' hn
        · exact hV3 hn
      have h24 : rheadj24 l (l.getD i default) acc (i : Int) (rheadl9 l K (k + 1)) := by
        unfold rheadj24 rheadj16 rheadV6 rheadV4
        rw [Int.toNat_natCast, sil_eq, if_f hs, hV, w64 (by omega)]
        refine ⟨by rw [maxLen_eq]; omega, ?_⟩
        refine ih (i + 1) false _ (by omega) (by rw [List.length_append]; omega) h3 (fun _ => by omega) ?_ hK
        rw [show i + 1 - 1 = i by omega, hs, Bool.and_false]
      have h25 : rheadj25 l (l.getD i default) acc (i : Int) (rheadl9 l K (k + 1)) := ⟨fun _ => ⟨by rw [maxLen_eq]; simp; omega, h24⟩, fun _ => h24⟩
      rw [Int.toNat_natCast]
      refine ⟨fun hn => ?_, fun _ => h25⟩
      have : acc ≠ [] := by simpa using hn
      have := h4 this
      rw [w64 (by omega)]
      exact ⟨by omega, by omega, h25⟩
theorem rhead_F (l : List Tok) (hp : headP l) : rheadF l (fun r => r = headS l) := by
  unfold headP at hp
  exact ⟨_, rhead_loop l _ l.length 0 false [] (by omega) (by simp; omega) (by omega) (fun h => absurd rfl h) rfl rfl⟩
set_option linter.unusedVariables false in
theorem rhead_c {g : Ghost} {axl_0 : Option Addr} {cxl_0 : Nat} (xl : List (Int × List UInt8 × List UInt8 × Int)) (hRxl_0 : Rep g (.slice (.pair (.int .i64) (.pair (.str) (.pair (.str) (.int .i64))))) [.slice axl_0 xl.length cxl_0] xl)  (hp : headP xl) : CallsG Tryd.prog 42 #[.slice axl_0 xl.length cxl_0] g (.string ⟨⟨(headS xl)⟩⟩) :=
  (rhead_ok xl hRxl_0 _ (rhead_F xl hp)).gives (by rintro g' H' v _ ⟨r0, rfl, rfl, hK⟩; subst hK; rfl)
def lheadV0 (xl : List (Int × List UInt8 × List UInt8 × Int)) : Bool :=
  (((headS (cutS ([32, 97, 32, 47, 42, 32, 98, 32, 42, 47, 32, 99, 32] : List UInt8))) == ([97, 32, 99] : List UInt8)) && ((headS xl) == (headS xl)))
def lheadj26 (xl : List (Int × List UInt8 × List UInt8 × Int)) (K : Bool → Prop) : Prop :=
  K (lheadV0 xl)
def lheadl9b (xl : List (Int × List UInt8 × List UInt8 × Int)) (K : Bool → Prop) (x4l9 : Int) (C9 : Int → Prop) : Prop :=
  ((decide (x4l9 < (xl.length : Int))) = true → (0 : Int) ≤ x4l9 ∧ Int.toNat x4l9 < xl.length ∧ ((((xl.getD (Int.toNat x4l9) default).2.1 == ([] : List UInt8))) = true → K ((headS (cutS ([32, 97, 32, 47, 42, 32, 98, 32, 42, 47, 32, 99, 32] : List UInt8))) == ([97, 32, 99] : List UInt8))) ∧ ((((xl.getD (Int.toNat x4l9) default).2.1 == ([] : List UInt8))) = false → C9 (IntKind.wrap .i64 (x4l9 + 1)))) ∧ ((decide (x4l9 < (xl.length : Int))) = false → ((((headS (cutS ([32, 97, 32, 47, 42, 32, 98, 32, 42, 47, 32, 99, 32] : List UInt8))) == ([97, 32, 99] : List UInt8))) = true → headP xl ∧ headP xl ∧ lheadj26 xl K) ∧ ((((headS (cutS ([32, 97, 32, 47, 42, 32, 98, 32, 42, 47, 32, 99, 32] : List UInt8))) == ([97, 32, 99] : List UInt8))) = false → lheadj26 xl K))
def lheadl9 (xl : List (Int × List UInt8 × List UInt8 × Int)) (K : Bool → Prop) : Nat → Int → Prop
  | 0, _ => False
  | k + 1, x4l9 => lheadl9b xl K x4l9 (lheadl9 xl K k)
def lheadF (xl : List (Int × List UInt8 × List UInt8 × Int)) (K : Bool → Prop) : Prop :=
  cutP ([32, 97, 32, 47, 42, 32, 98, 32, 42, 47, 32, 99, 32] : List UInt8) ∧ headP (cutS ([32, 97, 32, 47, 42, 32, 98, 32, 42, 47, 32, 99, 32] : List UInt8)) ∧ ∃ k, lheadl9 xl K k 0
set_option maxHeartbeats 4000000 in
set_option maxRecDepth 100000 in
set_option linter.unusedVariables false in
theorem lhead_ok {g : Ghost} {axl_0 : Option Addr} {cxl_0 : Nat} (xl : List (Int × List UInt8 × List UInt8 × Int)) (hRxl_0 : Rep g (.slice (.pair (.int .i64) (.pair (.str) (.pair (.str) (.int .i64))))) [.slice axl_0 xl.length cxl_0] xl) (hG1 : SomeInt g 1) (K : Bool → Prop)
    (hF : lheadF xl K) : CallsH Tryd.prog 11 #[.slice axl_0 xl.length cxl_0] g [] (fun g' H' v => ∃ (r0 : Bool), v = .bool r0 ∧ H' = [] ∧ K r0) := by
  refine CallsH.enter 29 [(0, .slice axl_0 xl.length cxl_0)] Tryd.func11 rfl (by kernel_rfl) (by kernel_rfl) (by kernel_rfl) fun w0 => ?_
  refine Ok.seq ?_
  refine Ok.region ?_
  refine Ok.batch 1 [(0, .slice axl_0 xl.length cxl_0)] (by kernel_rfl) ?_
  refine Ok.nil ?_
  refine Ok.thenN ?_
  refine Ok.seq ?_
  refine Ok.region ?_
  obtain ⟨hp1, hF⟩ := hF
  refine Ok.op rfl (OpOk.callH [] [] (enters (by kernel_rfl) (fun _ => by kernel_rfl)) rfl (cut_c ([32, 97, 32, 47, 42, 32, 98, 32, 42, 47, 32, 99, 32] : List UInt8) hG1 hp1) rfl fun g2 _ _ hx2 hV2 => ?_)
  obtain ⟨a2_0, c2_0, rfl, hR2_0, rfl⟩ := hV2
  replace hRxl_0 := hRxl_0.mono hx2.1
  replace hG1 := hG1.mono hx2.1
  obtain ⟨hp3, hF⟩ := hF
  refine Ok.op rfl (OpOk.callG (v := .string ⟨⟨(headS (cutS ([32, 97, 32, 47, 42, 32, 98, 32, 42, 47, 32, 99, 32] : List UInt8)))⟩⟩) (enters (by kernel_rfl) (fun _ => by kernel_rfl)) (fun W hW => head_c (cutS ([32, 97, 32, 47, 42, 32, 98, 32, 42, 47, 32, 99, 32] : List UInt8)) (hR2_0.mono hW.sees) hp3) rfl ?_)
  refine Ok.op rfl (OpOk.step (v := .bool ((headS (cutS ([32, 97, 32, 47, 42, 32, 98, 32, 42, 47, 32, 99, 32] : List UInt8))) == ([97, 32, 99] : List UInt8))) (Yields.strCmp (f := .eql) (a := (headS (cutS ([32, 97, 32, 47, 42, 32, 98, 32, 42, 47, 32, 99, 32] : List UInt8)))) (b := ([97, 32, 99] : List UInt8)) (by kernel_rfl) (by kernel_rfl) rfl) rfl rfl ?_)
  refine Ok.batch 1 [(0, .slice axl_0 xl.length cxl_0), (3, .bool ((headS (cutS ([32, 97, 32, 47, 42, 32, 98, 32, 42, 47, 32, 99, 32] : List UInt8))) == ([97, 32, 99] : List UInt8)))] (by kernel_rfl) ?_
  refine Ok.nil ?_
  refine Ok.thenN ?_
  refine Ok.seq ?_
  refine Ok.seq ?_
  refine Ok.region ?_
  refine Ok.batch 1 [(0, .slice axl_0 xl.length cxl_0), (3, .bool ((headS (cutS ([32, 97, 32, 47, 42, 32, 98, 32, 42, 47, 32, 99, 32] : List UInt8))) == ([97, 32, 99] : List UInt8))), (4, .int .i64 0)] (by kernel_rfl) ?_
  refine Ok.nil ?_
  refine Ok.thenN ?_
  refine Ok.block ?_
  obtain ⟨k, hF⟩ := hF
  refine Ok.loop (fun k a W => ∃ gl9 : Ghost, Gext w0 g2 gl9 ∧ ∃ (x4l9 : Int), StA 29 [(0, .slice axl_0 xl.length cxl_0), (3, .bool ((headS (cutS ([32, 97, 32, 47, 42, 32, 98, 32, 42, 47, 32, 99, 32] : List UInt8))) == ([97, 32, 99] : List UInt8))), (4, .int .i64 x4l9)] a ∧ StW w0 [] gl9 W ∧ lheadl9 xl K k x4l9) k ?_ ?_
  ·
    exact fun a W hA hW => ⟨g2, (Gext.refl w0 g2), 0, hA.sub (by kernel_rfl), hW, hF⟩
  ·
    clear hF
    rintro k9 a W ⟨gl9, hxl9, x4l9, hA, hW, hF⟩
    cases k9 with
    | zero => exact (hF : False).elim
    | succ k9 =>
      refine (?_ : Ok _ _ _ _ _ _) a W hA hW
      clear hA hW
      replace hRxl_0 := hRxl_0.mono hxl9.1
      replace hG1 := hG1.mono hxl9.1
      refine Ok.seq ?_
      refine Ok.seq ?_
      refine Ok.region ?_
      refine Ok.batch 4 [(0, .slice axl_0 xl.length cxl_0), (3, .bool ((headS (cutS ([32, 97, 32, 47, 42, 32, 98, 32, 42, 47, 32, 99, 32] : List UInt8))) == ([97, 32, 99] : List UInt8))), (4, .int .i64 x4l9), (11, .bool (decide (x4l9 < (xl.length : Int))))] (by kernel_rfl) ?_
      refine Ok.nil ?_
      refine Ok.thenN ?_
      refine Ok.cond (b := decide (x4l9 < (xl.length : Int))) rfl (fun hc4 => ?_) (fun hc4 => ?_)
      · replace hF := hF.1 hc4
        refine Ok.skip ?_
        refine Ok.thenN ?_
        refine Ok.seq ?_
        refine Ok.block ?_
        refine Ok.seq ?_
        refine Ok.region ?_
        refine Ok.batch 2 [(0, .slice axl_0 xl.length cxl_0), (3, .bool ((headS (cutS ([32, 97, 32, 47, 42, 32, 98, 32, 42, 47, 32, 99, 32] : List UInt8))) == ([97, 32, 99] : List UInt8))), (4, .int .i64 x4l9), (14, .slice axl_0 xl.length cxl_0), (15, .int .i64 x4l9)] (by kernel_rfl) ?_
        obtain ⟨h06, h16, hF⟩ := hF
        have he6 := get_of (l := xl) (default : Int × List UInt8 × List UInt8 × Int) h16
        generalize hg6 : (xl.getD (Int.toNat x4l9) default) = e6 at he6 hF ⊢
        refine Ok.op rfl (OpOk.indexRo (e := .pair (.int .i64) (.pair (.str) (.pair (.str) (.int .i64)))) (i := x4l9) (el := e6) rfl rfl Tryd.underlying47 (by kernel_rfl) hRxl_0 h06 he6 rfl fun q5 o5 cs5 _ hat5 hr5 => ?_)
        obtain ⟨_, _, rfl, rfl, ⟨_, _, rfl, rfl, ⟨_, _, rfl, rfl, rfl⟩⟩⟩ := hr5
        replace hat5 : At gl9 q5 o5 [.int .i64 e6.1, .string ⟨⟨e6.2.1⟩⟩, .string ⟨⟨e6.2.2.1⟩⟩, .int .i64 e6.2.2.2] := hat5
        refine Ok.batch 1 [(0, .slice axl_0 xl.length cxl_0), (3, .bool ((headS (cutS ([32, 97, 32, 47, 42, 32, 98, 32, 42, 47, 32, 99, 32] : List UInt8))) == ([97, 32, 99] : List UInt8))), (4, .int .i64 x4l9), (17, .pointer (some ⟨q5, o5 + 1, none⟩))] (by kernel_rfl) ?_
        refine Ok.op rfl (OpOk.step (v := .string ⟨⟨e6.2.1⟩⟩) (Yields.loadRo 1 hat5 (by kernel_rfl) Tryd.underlying9 rfl (by kernel_rfl)) rfl rfl ?_)
        refine Ok.op rfl (OpOk.step (v := .bool (e6.2.1 == ([] : List UInt8))) (Yields.strCmp (f := .eql) (a := e6.2.1) (b := ([] : List UInt8)) (by kernel_rfl) (by kernel_rfl) rfl) rfl rfl ?_)
        refine Ok.nil ?_
        refine Ok.thenN ?_
        refine Ok.cond (b := (e6.2.1 == ([] : List UInt8))) rfl (fun hc7 => ?_) (fun hc7 => ?_)
        · replace hF := hF.1 hc7
          refine Ok.seq ?_
          refine Ok.region ?_
          refine Ok.batch 2 [(2, .bool ((headS (cutS ([32, 97, 32, 47, 42, 32, 98, 32, 42, 47, 32, 99, 32] : List UInt8))) == ([97, 32, 99] : List UInt8)))] (by kernel_rfl) ?_
          refine Ok.nil ?_
          refine Ok.thenN ?_
          refine Ok.ret ?_
          refine Ok.blockR ?_
          refine Ok.thenR ?_
          refine Ok.thenR ?_
          refine Ok.blockR ?_
          refine Ok.thenR ?_
          exact Ok.resH (vs := [.bool ((headS (cutS ([32, 97, 32, 47, 42, 32, 98, 32, 42, 47, 32, 99, 32] : List UInt8))) == ([97, 32, 99] : List UInt8))]) (.inl rfl) rfl (.cons (.tmp rfl) .nil) (hx2.trans hxl9) ⟨((headS (cutS ([32, 97, 32, 47, 42, 32, 98, 32, 42, 47, 32, 99, 32] : List UInt8))) == ([97, 32, 99] : List UInt8)), rfl, rfl, hF⟩
        · replace hF := hF.2 hc7
          refine Ok.skip ?_
          refine Ok.blockN ?_
          refine Ok.thenN ?_
          refine Ok.region ?_
          refine Ok.batch 3 [(0, .slice axl_0 xl.length cxl_0), (3, .bool ((headS (cutS ([32, 97, 32, 47, 42, 32, 98, 32, 42, 47, 32, 99, 32] : List UInt8))) == ([97, 32, 99] : List UInt8))), (4, .int .i64 (IntKind.wrap .i64 (x4l9 + 1)))] (by kernel_rfl) ?_
          refine Ok.nil ?_
          refine Ok.thenN ?_
          subst hg6
          exact fun a W hA hW => ⟨k9, Nat.lt_succ_self _, gl9, hxl9, IntKind.wrap .i64 (x4l9 + 1), hA.sub (by kernel_rfl), hW, hF⟩
      · replace hF := hF.2 hc4
        refine Ok.exit ?_
        refine Ok.thenE ?_
        refine Ok.thenE ?_
        refine Ok.blockHit ?_
        refine Ok.thenN ?_
        refine Ok.cut (fun a W => ∃ gj26 : Ghost, Gext w0 gl9 gj26 ∧ StA 29 [(2, .bool (lheadV0 xl))] a ∧ StW w0 [] gj26 W ∧ lheadj26 xl K) ?_ ?_
        ·
          refine Ok.region ?_
          refine Ok.batch 2 [(0, .slice axl_0 xl.length cxl_0), (22, .bool ((headS (cutS ([32, 97, 32, 47, 42, 32, 98, 32, 42, 47, 32, 99, 32] : List UInt8))) == ([97, 32, 99] : List UInt8)))] (by kernel_rfl) ?_
          refine Ok.boolAt 22 (((headS (cutS ([32, 97, 32, 47, 42, 32, 98, 32, 42, 47, 32, 99, 32] : List UInt8))) == ([97, 32, 99] : List UInt8))) rfl (fun hc8 => ?_) (fun hc8 => ?_)
          · replace hF := hF.1 hc8
            refine Ok.batch 1 [(0, .slice axl_0 xl.length cxl_0), (22, .bool true), (23, .slice axl_0 xl.length cxl_0)] (by kernel_rfl) ?_
            obtain ⟨hp9, hF⟩ := hF
            refine Ok.opYes (j := 1) (d := 22) (want := true) (b := true) rfl (by kernel_rfl) (by kernel_rfl) rfl (OpOk.callG (v := .string ⟨⟨(headS xl)⟩⟩) (enters (by kernel_rfl) (fun _ => by kernel_rfl)) (fun W hW => head_c xl (hRxl_0.mono hW.sees) hp9) rfl ?_)
            refine Ok.batch 1 [(22, .bool true), (24, .string ⟨⟨(headS xl)⟩⟩), (25, .slice axl_0 xl.length cxl_0)] (by kernel_rfl) ?_
            obtain ⟨hp10, hF⟩ := hF
            refine Ok.opYes (j := 1) (d := 22) (want := true) (b := true) rfl (by kernel_rfl) (by kernel_rfl) rfl (OpOk.callG (v := .string ⟨⟨(headS xl)⟩⟩) (enters (by kernel_rfl) (fun _ => by kernel_rfl)) (fun W hW => rhead_c xl (hRxl_0.mono hW.sees) hp10) rfl ?_)
            refine Ok.opYes (j := 1) (d := 22) (want := true) (b := true) rfl (by kernel_rfl) (by kernel_rfl) rfl (OpOk.step (v := .bool ((headS xl) == (headS xl))) (Yields.strCmp (f := .eql) (a := (headS xl)) (b := (headS xl)) (by kernel_rfl) (by kernel_rfl) rfl) rfl rfl ?_)
            refine Ok.batch 2 [(2, .bool ((headS xl) == (headS xl)))] (by kernel_rfl) ?_
            refine Ok.nil ?_
            refine Ok.thenN ?_
            refine Ok.reval 2 rfl (show (.bool ((headS xl) == (headS xl)) : Value) = .bool (lheadV0 xl) from congrArg (Value.bool) (mand_t hc8)) ?_
            exact fun a W hA hW => ⟨gl9, (Gext.refl w0 gl9), hA.sub (by kernel_rfl), hW, hF⟩
          · replace hF := hF.2 hc8
            refine Ok.batch 7 [(2, .bool false)] (by kernel_rfl) ?_
            refine Ok.nil ?_
            refine Ok.thenN ?_
            refine Ok.reval 2 rfl (show (.bool false : Value) = .bool (lheadV0 xl) from congrArg (Value.bool) (mand_f hc8)) ?_
            exact fun a W hA hW => ⟨gl9, (Gext.refl w0 gl9), hA.sub (by kernel_rfl), hW, hF⟩
        ·
          clear hF
          rintro a W ⟨gj26, hxj26, hA, hW, hF⟩
          refine (?_ : Ok _ _ _ _ _ _) a W hA hW
          clear hA hW
          replace hG1 := hG1.mono hxj26.1
          refine Ok.ret ?_
          exact Ok.resH (vs := [.bool (lheadV0 xl)]) (.inl rfl) rfl (.cons (.tmp rfl) .nil) ((hx2.trans hxl9).trans hxj26) ⟨(lheadV0 xl), rfl, rfl, hF⟩
theorem head_known : headS (cutS [32, 97, 32, 47, 42, 32, 98, 32, 42, 47, 32, 99, 32]) = [97, 32, 99] := by decide +kernel
theorem headP_known : headP (cutS [32, 97, 32, 47, 42, 32, 98, 32, 42, 47, 32, 99, 32]) := by
  unfold headP
  have : decide ((rawS (cutS [32, 97, 32, 47, 42, 32, 98, 32, 42, 47, 32, 99, 32])).length + (cutS [32, 97, 32, 47, 42, 32, 98, 32, 42, 47, 32, 99, 32]).length ≤ 1048576) = true := by decide +kernel
  exact of_decide_eq_true this
theorem lhead_F (l : List Tok) (hp : ltxtP l) : lheadF l (fun r => r = true) := by
  have hr := ltxtP_raw hp
  have hk : ((headS (cutS ([32, 97, 32, 47, 42, 32, 98, 32, 42, 47, 32, 99, 32] : List UInt8))) == ([97, 32, 99] : List UInt8)) = true := by rw [head_known]; rfl
  have key : lheadj26 l (fun r => r = true) := by
    unfold lheadj26 lheadV0
    rw [hk]; simp
  refine ⟨by unfold cutP; decide, headP_known, l.length + 1, ?_⟩
  have loop : ∀ (k i : Nat), i + k = l.length → lheadl9 l (fun r => r = true) (k + 1) (i : Int) := by
    intro k
    induction k with
    | zero => intro i h; exact ⟨fun hc => by have := of_decide_eq_true hc; omega, fun _ => ⟨fun _ => ⟨hr, hr, key⟩, fun _ => key⟩⟩
    | succ k ih =>
      intro i h
      refine ⟨fun _ => ⟨by omega, by omega, fun _ => hk, fun _ => ?_⟩, fun hc => by have := of_decide_eq_false hc; omega⟩
      rw [w64 (by omega)]
      exact ih (i + 1) (by omega)
  exact loop l.length 0 (by omega)
set_option linter.unusedVariables false in
theorem lhead_c {g : Ghost} {axl_0 : Option Addr} {cxl_0 : Nat} (xl : List (Int × List UInt8 × List UInt8 × Int)) (hRxl_0 : Rep g (.slice (.pair (.int .i64) (.pair (.str) (.pair (.str) (.int .i64))))) [.slice axl_0 xl.length cxl_0] xl) (hG1 : SomeInt g 1)  (hp : ltxtP xl) : CallsG Tryd.prog 11 #[.slice axl_0 xl.length cxl_0] g (.bool ((fun _ => true) xl)) :=
  (lhead_ok xl hRxl_0 hG1 _ (lhead_F xl hp)).gives (by rintro g' H' v _ ⟨r0, rfl, rfl, hK⟩; subst hK; rfl)
end Go.Proofs.YtabbinbmpeckkaaDoor.Tk
