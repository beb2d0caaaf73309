/- Package anim's easings and the reference's: what each function asks, step by step, and what it answers. -/
import Derived.Test.YtejkloinamgpaaaRows
import Derived.Test.YtejkloinamgpaaaEng
namespace Go.Proofs.Ytejkloinamgpaaa.An
open Go.Eng
open IntWalk (i64_in)
def inj3 (K : Bool → Prop) (x6j3 : Bool) : Prop :=
  K x6j3
def inF (pn : Int) (plow : Int) (phigh : Int) (K : Bool → Prop) : Prop :=
  ((decide (pn ≥ plow)) = true → inj3 K (decide (pn ≤ phigh))) ∧ ((decide (pn ≥ plow)) = false → inj3 K false)
set_option maxHeartbeats 4000000 in
set_option maxRecDepth 100000 in
set_option linter.unusedVariables false in
theorem in_ok {g : Ghost} (pn : Int) (plow : Int) (phigh : Int) (K : Bool → Prop)
    (hF : inF pn plow phigh K) : CallsK Try.prog 40 #[.int .i64 pn, .int .i64 plow, .int .i64 phigh] g (fun v => ∃ r0 : Bool, v = .bool r0 ∧ K r0) := by
  refine CallsK.enter 15 [(0, .int .i64 pn), (1, .int .i64 plow), (2, .int .i64 phigh)] Try.func40 rfl (by kernel_rfl) (by kernel_rfl) (by kernel_rfl) fun w0 => ?_
  refine Ok.seq ?_
  refine Ok.region ?_
  refine Ok.batch 1 [(0, .int .i64 pn), (1, .int .i64 plow), (2, .int .i64 phigh)] (by kernel_rfl) ?_
  refine Ok.nil ?_
  refine Ok.thenN ?_
  refine Ok.cut (fun a W => ∃ (x6j3 : Bool), StA 15 [(6, .bool x6j3)] a ∧ StW w0 [] g W ∧ inj3 K x6j3) ?_ ?_
  ·
    refine Ok.region ?_
    refine Ok.batch 4 [(0, .int .i64 pn), (2, .int .i64 phigh), (10, .bool (decide (pn ≥ plow)))] (by kernel_rfl) ?_
    refine Ok.boolAt 10 (decide (pn ≥ plow)) rfl (fun hc => ?_) (fun hc => ?_)
    · replace hF := hF.1 hc
      refine Ok.batch 5 [(6, .bool (decide (pn ≤ phigh)))] (by kernel_rfl) ?_
      refine Ok.nil ?_
      refine Ok.thenN ?_
      exact fun a W hA hW => ⟨(decide (pn ≤ phigh)), hA.sub (by kernel_rfl), hW, hF⟩
    · replace hF := hF.2 hc
      refine Ok.batch 5 [(6, .bool false)] (by kernel_rfl) ?_
      refine Ok.nil ?_
      refine Ok.thenN ?_
      exact fun a W hA hW => ⟨false, hA.sub (by kernel_rfl), hW, hF⟩
  ·
    rintro a W ⟨x6j3, hA, hW, hF⟩
    refine (?_ : Ok _ _ _ _ _ _) a W hA hW
    clear hA hW
    refine Ok.ret ?_
    exact Ok.res1 (.inl rfl) rfl (.tmp rfl) ⟨x6j3, rfl, hF⟩
def inB (n lo hi : Int) : Bool := decide (lo ≤ n) && decide (n ≤ hi)
theorem in_F (n lo hi : Int) : inF n lo hi (fun r => r = inB n lo hi) := by
  unfold inF inj3 inB
  refine ⟨fun h => ?_, fun h => ?_⟩
  · have : lo ≤ n := by simpa using h
    simp [this]
  · have : ¬ lo ≤ n := by simpa using h
    simp [this]
set_option linter.unusedVariables false in
theorem in_c {g : Ghost} (xn : Int) (xlow : Int) (xhigh : Int)  : CallsG Try.prog 40 #[.int .i64 xn, .int .i64 xlow, .int .i64 xhigh] g (.bool (inB xn xlow xhigh)) :=
  (in_ok xn xlow xhigh _ (in_F xn xlow xhigh)).gives (by rintro _ ⟨_, rfl, rfl⟩; rfl)
theorem inB_true {n lo hi : Int} : inB n lo hi = true ↔ lo ≤ n ∧ n ≤ hi := by simp [inB]
theorem inB_false {n lo hi : Int} : inB n lo hi = false ↔ ¬ (lo ≤ n ∧ n ≤ hi) := by
  rw [← inB_true]; simp
/-! ### what an easing may be -/
abbrev E := Int × (Int × Int × Int × Int) × Int
def mayB (e : E) : Bool :=
  if e.1 = 2 then (inB e.2.1.1 0 1000 && inB e.2.1.2.1 0 1000 && inB e.2.1.2.2.1 0 1000 && inB e.2.1.2.2.2 0 1000 && e.2.2 == 0)
  else (e.2.1.1 == 0 && e.2.1.2.1 == 0 && e.2.1.2.2.1 == 0 && e.2.1.2.2.2 == 0 && (if e.1 = 3 then inB e.2.2 1 1000 else (e.1 == 1 && e.2.2 == 0)))
def easingj16 (K : Bool → Prop) (x2j16 : Bool) : Prop :=
  K x2j16
def easingl26b (pe_Curve_0 : Int) (pe_Curve_1 : Int) (pe_Curve_2 : Int) (pe_Curve_3 : Int) (pe_N : Int) (K : Bool → Prop) (x27l26 : Int) (C26 : Int → Prop) : Prop :=
  ((decide (x27l26 < 4)) = true → ∃ e2 : Int, (0 : Int) ≤ x27l26 ∧ x27l26 < 4 ∧ ([pe_Curve_0, pe_Curve_1, pe_Curve_2, pe_Curve_3] : List Int)[Int.toNat x27l26]? = some e2 ∧ ((!(inB e2 0 1000)) = true → K false) ∧ ((!(inB e2 0 1000)) = false → C26 (IntKind.wrap .i64 (x27l26 + 1)))) ∧ ((decide (x27l26 < 4)) = false → K (pe_N == 0))
def easingl26 (pe_Curve_0 : Int) (pe_Curve_1 : Int) (pe_Curve_2 : Int) (pe_Curve_3 : Int) (pe_N : Int) (K : Bool → Prop) : Nat → Int → Prop
  | 0, _ => False
  | k + 1, x27l26 => easingl26b pe_Curve_0 pe_Curve_1 pe_Curve_2 pe_Curve_3 pe_N K x27l26 (easingl26 pe_Curve_0 pe_Curve_1 pe_Curve_2 pe_Curve_3 pe_N K k)
def easingF (pe_Kind : Int) (pe_Curve_0 : Int) (pe_Curve_1 : Int) (pe_Curve_2 : Int) (pe_Curve_3 : Int) (pe_N : Int) (K : Bool → Prop) : Prop :=
  (((pe_Kind == 1)) = true → K ([(pe_Kind == 1), ([(pe_Curve_0 == 0), (pe_Curve_1 == 0), (pe_Curve_2 == 0), (pe_Curve_3 == 0)].all id), (pe_N == 0)].all id)) ∧ (((pe_Kind == 1)) = false → (((pe_Kind == 3)) = true → ((inB pe_N 1 1000) = true → easingj16 K ([(pe_Curve_0 == 0), (pe_Curve_1 == 0), (pe_Curve_2 == 0), (pe_Curve_3 == 0)].all id)) ∧ ((inB pe_N 1 1000) = false → easingj16 K false)) ∧ (((pe_Kind == 3)) = false → (((pe_Kind == 2)) = true → ∃ k, easingl26 pe_Curve_0 pe_Curve_1 pe_Curve_2 pe_Curve_3 pe_N K k 0) ∧ (((pe_Kind == 2)) = false → K false)))
set_option maxHeartbeats 4000000 in
set_option maxRecDepth 100000 in
set_option linter.unusedVariables false in
theorem easing_ok {g : Ghost} (pe_Kind : Int) (pe_Curve_0 : Int) (pe_Curve_1 : Int) (pe_Curve_2 : Int) (pe_Curve_3 : Int) (pe_N : Int) (K : Bool → Prop)
    (hF : easingF pe_Kind pe_Curve_0 pe_Curve_1 pe_Curve_2 pe_Curve_3 pe_N K) : CallsK Try.prog 39 #[.agg #[.int .i64 pe_Kind, .int .i64 pe_Curve_0, .int .i64 pe_Curve_1, .int .i64 pe_Curve_2, .int .i64 pe_Curve_3, .int .i64 pe_N]] g (fun v => ∃ r0 : Bool, v = .bool r0 ∧ K r0) := by
  refine CallsK.enter 37 [(0, .agg #[.int .i64 pe_Kind, .int .i64 pe_Curve_0, .int .i64 pe_Curve_1, .int .i64 pe_Curve_2, .int .i64 pe_Curve_3, .int .i64 pe_N])] Try.func39 rfl (by kernel_rfl) (by kernel_rfl) (by kernel_rfl) fun w0 => ?_
  refine Ok.seq ?_
  refine Ok.region ?_
  refine Ok.op rfl (OpOk.box (v := .agg #[.int .i64 pe_Kind, .int .i64 pe_Curve_0, .int .i64 pe_Curve_1, .int .i64 pe_Curve_2, .int .i64 pe_Curve_3, .int .i64 pe_N]) (cs := #[.int .i64 pe_Kind, .int .i64 pe_Curve_0, .int .i64 pe_Curve_1, .int .i64 pe_Curve_2, .int .i64 pe_Curve_3, .int .i64 pe_N]) rfl (by kernel_rfl) rfl fun b1 => ?_)
  refine Ok.batch 1 [(1, .pointer (some ⟨b1, 0, none⟩))] (by kernel_rfl) ?_
  refine Ok.nil ?_
  refine Ok.thenN ?_
  refine Ok.seq ?_
  refine Ok.seq ?_
  refine Ok.region ?_
  refine Ok.batch 1 [(1, .pointer (some ⟨b1, 0, none⟩)), (5, .pointer (some ⟨b1, 0, none⟩))] (by kernel_rfl) ?_
  refine Ok.op rfl (OpOk.step (v := .int .i64 pe_Kind) (Yields.load 0 rfl rfl Try.underlying3 rfl (by kernel_rfl)) rfl rfl ?_)
  refine Ok.nil ?_
  refine Ok.thenN ?_
  refine Ok.block ?_
  refine Ok.seq ?_
  refine Ok.region ?_
  refine Ok.batch 2 [(1, .pointer (some ⟨b1, 0, none⟩)), (6, .int .i64 pe_Kind), (7, .bool (pe_Kind == 1))] (by kernel_rfl) ?_
  refine Ok.nil ?_
  refine Ok.thenN ?_
  refine Ok.cond (b := (pe_Kind == 1)) rfl (fun hc => ?_) (fun hc => ?_)
  · replace hF := hF.1 hc
    refine Ok.seq ?_
    refine Ok.region ?_
    refine Ok.op rfl (OpOk.step (v := .agg #[.int .i64 pe_Kind, .int .i64 pe_Curve_0, .int .i64 pe_Curve_1, .int .i64 pe_Curve_2, .int .i64 pe_Curve_3, .int .i64 pe_N]) (Yields.loadAgg 0 6 #[.int .i64 pe_Kind, .int .i64 pe_Curve_0, .int .i64 pe_Curve_1, .int .i64 pe_Curve_2, .int .i64 pe_Curve_3, .int .i64 pe_N] rfl rfl Try.underlying25 rfl (by kernel_rfl) (by kernel_rfl) (by kernel_rfl)) rfl rfl ?_)
    refine Ok.batch 1 [(9, .agg #[.int .i64 pe_Kind, .int .i64 pe_Curve_0, .int .i64 pe_Curve_1, .int .i64 pe_Curve_2, .int .i64 pe_Curve_3, .int .i64 pe_N]), (10, .agg #[.int .i64 1, .int .i64 0, .int .i64 0, .int .i64 0, .int .i64 0, .int .i64 0])] (by kernel_rfl) ?_
    refine Ok.op rfl (OpOk.step (v := .bool ([(pe_Kind == 1), ([(pe_Curve_0 == 0), (pe_Curve_1 == 0), (pe_Curve_2 == 0), (pe_Curve_3 == 0)].all id), (pe_N == 0)].all id)) (Yields.eqAgg (k := 3) rfl rfl (.struct (k := 2) Try.underlying25 (by kernel_rfl) ⟨by decide, ⟨.int .i64 pe_Kind, .int .i64 1, fun _ => by kernel_rfl, fun _ => by kernel_rfl, EqR.mono (k := 1) (.int Try.underlying3) (by decide)⟩, ⟨by decide, ⟨.agg #[.int .i64 pe_Curve_0, .int .i64 pe_Curve_1, .int .i64 pe_Curve_2, .int .i64 pe_Curve_3], .agg #[.int .i64 0, .int .i64 0, .int .i64 0, .int .i64 0], fun _ => by kernel_rfl, fun _ => by kernel_rfl, EqR.mono (k := 2) (.array (k := 1) (size := 1) Try.underlying23 rfl (by kernel_rfl) ⟨⟨.int .i64 pe_Curve_0, .int .i64 0, fun _ => by kernel_rfl, fun _ => by kernel_rfl, EqR.mono (k := 1) (.int Try.underlying3) (by decide)⟩, ⟨⟨.int .i64 pe_Curve_1, .int .i64 0, fun _ => by kernel_rfl, fun _ => by kernel_rfl, EqR.mono (k := 1) (.int Try.underlying3) (by decide)⟩, ⟨⟨.int .i64 pe_Curve_2, .int .i64 0, fun _ => by kernel_rfl, fun _ => by kernel_rfl, EqR.mono (k := 1) (.int Try.underlying3) (by decide)⟩, ⟨⟨.int .i64 pe_Curve_3, .int .i64 0, fun _ => by kernel_rfl, fun _ => by kernel_rfl, EqR.mono (k := 1) (.int Try.underlying3) (by decide)⟩, trivial⟩⟩⟩⟩) (by decide)⟩, ⟨by decide, ⟨.int .i64 pe_N, .int .i64 0, fun _ => by kernel_rfl, fun _ => by kernel_rfl, EqR.mono (k := 1) (.int Try.underlying3) (by decide)⟩, trivial⟩⟩⟩) rfl (by kernel_rfl)) rfl rfl ?_)
    refine Ok.batch 1 [(2, .bool ([(pe_Kind == 1), ([(pe_Curve_0 == 0), (pe_Curve_1 == 0), (pe_Curve_2 == 0), (pe_Curve_3 == 0)].all id), (pe_N == 0)].all id))] (by kernel_rfl) ?_
    refine Ok.nil ?_
    refine Ok.thenN ?_
    refine Ok.ret ?_
    refine Ok.blockR ?_
    refine Ok.thenR ?_
    exact Ok.res1 (.inl rfl) rfl (.tmp rfl) ⟨([(pe_Kind == 1), ([(pe_Curve_0 == 0), (pe_Curve_1 == 0), (pe_Curve_2 == 0), (pe_Curve_3 == 0)].all id), (pe_N == 0)].all id), rfl, hF⟩
  · replace hF := hF.2 hc
    refine Ok.seq ?_
    refine Ok.region ?_
    refine Ok.batch 2 [(1, .pointer (some ⟨b1, 0, none⟩)), (6, .int .i64 pe_Kind), (12, .bool (pe_Kind == 3))] (by kernel_rfl) ?_
    refine Ok.nil ?_
    refine Ok.thenN ?_
    refine Ok.cond (b := (pe_Kind == 3)) rfl (fun hc => ?_) (fun hc => ?_)
    · replace hF := hF.1 hc
      refine Ok.cut (fun a W => ∃ (x2j16 : Bool), StA 37 [(2, .bool x2j16)] a ∧ StW w0 [] g W ∧ easingj16 K x2j16) ?_ ?_
      ·
        refine Ok.region ?_
        refine Ok.batch 1 [(1, .pointer (some ⟨b1, 0, none⟩)), (14, .pointer (some ⟨b1, 5, none⟩))] (by kernel_rfl) ?_
        refine Ok.op rfl (OpOk.step (v := .int .i64 pe_N) (Yields.load 0 rfl rfl Try.underlying3 rfl (by kernel_rfl)) rfl rfl ?_)
        refine Ok.op rfl (OpOk.call (v := .bool (inB pe_N 1 1000)) (enters (by kernel_rfl) (fun _ => by kernel_rfl)) (in_c pe_N 1 1000) rfl rfl ?_)
        refine Ok.batch 1 [(1, .pointer (some ⟨b1, 0, none⟩)), (17, .bool (inB pe_N 1 1000))] (by kernel_rfl) ?_
        refine Ok.boolAt 17 (inB pe_N 1 1000) rfl (fun hc => ?_) (fun hc => ?_)
        · replace hF := hF.1 hc
          refine Ok.batch 1 [(17, .bool true), (18, .pointer (some ⟨b1, 1, none⟩))] (by kernel_rfl) ?_
          refine Ok.opYes (j := 3) (d := 17) (want := true) (b := true) rfl (by kernel_rfl) (by kernel_rfl) rfl (OpOk.step (v := .agg #[.int .i64 pe_Curve_0, .int .i64 pe_Curve_1, .int .i64 pe_Curve_2, .int .i64 pe_Curve_3]) (Yields.loadAgg 0 4 #[.int .i64 pe_Curve_0, .int .i64 pe_Curve_1, .int .i64 pe_Curve_2, .int .i64 pe_Curve_3] rfl rfl Try.underlying23 rfl (by kernel_rfl) (by kernel_rfl) (by kernel_rfl)) rfl rfl ?_)
          refine Ok.batch 1 [(17, .bool true), (19, .agg #[.int .i64 pe_Curve_0, .int .i64 pe_Curve_1, .int .i64 pe_Curve_2, .int .i64 pe_Curve_3]), (20, .agg #[.int .i64 0, .int .i64 0, .int .i64 0, .int .i64 0])] (by kernel_rfl) ?_
          refine Ok.opYes (j := 3) (d := 17) (want := true) (b := true) rfl (by kernel_rfl) (by kernel_rfl) rfl (OpOk.step (v := .bool ([(pe_Curve_0 == 0), (pe_Curve_1 == 0), (pe_Curve_2 == 0), (pe_Curve_3 == 0)].all id)) (Yields.eqAgg (k := 2) rfl rfl (.array (k := 1) (size := 1) Try.underlying23 rfl (by kernel_rfl) ⟨⟨.int .i64 pe_Curve_0, .int .i64 0, fun _ => by kernel_rfl, fun _ => by kernel_rfl, EqR.mono (k := 1) (.int Try.underlying3) (by decide)⟩, ⟨⟨.int .i64 pe_Curve_1, .int .i64 0, fun _ => by kernel_rfl, fun _ => by kernel_rfl, EqR.mono (k := 1) (.int Try.underlying3) (by decide)⟩, ⟨⟨.int .i64 pe_Curve_2, .int .i64 0, fun _ => by kernel_rfl, fun _ => by kernel_rfl, EqR.mono (k := 1) (.int Try.underlying3) (by decide)⟩, ⟨⟨.int .i64 pe_Curve_3, .int .i64 0, fun _ => by kernel_rfl, fun _ => by kernel_rfl, EqR.mono (k := 1) (.int Try.underlying3) (by decide)⟩, trivial⟩⟩⟩⟩) rfl (by kernel_rfl)) rfl rfl ?_)
          refine Ok.batch 2 [(2, .bool ([(pe_Curve_0 == 0), (pe_Curve_1 == 0), (pe_Curve_2 == 0), (pe_Curve_3 == 0)].all id))] (by kernel_rfl) ?_
          refine Ok.nil ?_
          refine Ok.thenN ?_
          exact fun a W hA hW => ⟨([(pe_Curve_0 == 0), (pe_Curve_1 == 0), (pe_Curve_2 == 0), (pe_Curve_3 == 0)].all id), hA.sub (by kernel_rfl), hW.sub (.cons _ .slnil), hF⟩
        · replace hF := hF.2 hc
          refine Ok.batch 6 [(2, .bool false)] (by kernel_rfl) ?_
          refine Ok.nil ?_
          refine Ok.thenN ?_
          exact fun a W hA hW => ⟨false, hA.sub (by kernel_rfl), hW.sub (.cons _ .slnil), hF⟩
      ·
        rintro a W ⟨x2j16, hA, hW, hF⟩
        refine (?_ : Ok _ _ _ _ _ _) a W hA hW
        clear hA hW
        refine Ok.ret ?_
        refine Ok.blockR ?_
        refine Ok.thenR ?_
        exact Ok.res1 (.inl rfl) rfl (.tmp rfl) ⟨x2j16, rfl, hF⟩
    · replace hF := hF.2 hc
      refine Ok.seq ?_
      refine Ok.region ?_
      refine Ok.batch 2 [(1, .pointer (some ⟨b1, 0, none⟩)), (23, .bool (pe_Kind == 2))] (by kernel_rfl) ?_
      refine Ok.nil ?_
      refine Ok.thenN ?_
      refine Ok.cond (b := (pe_Kind == 2)) rfl (fun hc => ?_) (fun hc => ?_)
      · replace hF := hF.1 hc
        refine Ok.seq ?_
        refine Ok.seq ?_
        refine Ok.region ?_
        refine Ok.batch 1 [(1, .pointer (some ⟨b1, 0, none⟩)), (25, .pointer (some ⟨b1, 1, none⟩))] (by kernel_rfl) ?_
        refine Ok.op rfl (OpOk.step (v := .agg #[.int .i64 pe_Curve_0, .int .i64 pe_Curve_1, .int .i64 pe_Curve_2, .int .i64 pe_Curve_3]) (Yields.loadAgg 0 4 #[.int .i64 pe_Curve_0, .int .i64 pe_Curve_1, .int .i64 pe_Curve_2, .int .i64 pe_Curve_3] rfl rfl Try.underlying23 rfl (by kernel_rfl) (by kernel_rfl) (by kernel_rfl)) rfl rfl ?_)
        refine Ok.batch 1 [(1, .pointer (some ⟨b1, 0, none⟩)), (26, .agg #[.int .i64 pe_Curve_0, .int .i64 pe_Curve_1, .int .i64 pe_Curve_2, .int .i64 pe_Curve_3]), (27, .int .i64 0)] (by kernel_rfl) ?_
        refine Ok.nil ?_
        refine Ok.thenN ?_
        refine Ok.block ?_
        obtain ⟨k, hF⟩ := hF
        refine Ok.loop (fun k a W => ∃ (x27l26 : Int), StA 37 [(1, .pointer (some ⟨b1, 0, none⟩)), (26, .agg #[.int .i64 pe_Curve_0, .int .i64 pe_Curve_1, .int .i64 pe_Curve_2, .int .i64 pe_Curve_3]), (27, .int .i64 x27l26)] a ∧ StW w0 [.blk b1 (.cells #[.int .i64 pe_Kind, .int .i64 pe_Curve_0, .int .i64 pe_Curve_1, .int .i64 pe_Curve_2, .int .i64 pe_Curve_3, .int .i64 pe_N] 25)] g W ∧ easingl26 pe_Curve_0 pe_Curve_1 pe_Curve_2 pe_Curve_3 pe_N K k x27l26) k ?_ ?_
        ·
          exact fun a W hA hW => ⟨0, hA.sub (by kernel_rfl), hW, hF⟩
        ·
          rintro k26 a W ⟨x27l26, hA, hW, hF⟩
          cases k26 with
          | zero => exact (hF : False).elim
          | succ k26 =>
            refine (?_ : Ok _ _ _ _ _ _) a W hA hW
            clear hA hW
            refine Ok.seq ?_
            refine Ok.region ?_
            refine Ok.batch 1 [(1, .pointer (some ⟨b1, 0, none⟩)), (26, .agg #[.int .i64 pe_Curve_0, .int .i64 pe_Curve_1, .int .i64 pe_Curve_2, .int .i64 pe_Curve_3]), (27, .int .i64 x27l26), (28, .bool (decide (x27l26 < 4)))] (by kernel_rfl) ?_
            refine Ok.nil ?_
            refine Ok.thenN ?_
            refine Ok.seq ?_
            refine Ok.cond (b := decide (x27l26 < 4)) rfl (fun hc => ?_) (fun hc => ?_)
            · replace hF := hF.1 hc
              refine Ok.skip ?_
              refine Ok.thenN ?_
              refine Ok.seq ?_
              refine Ok.block ?_
              refine Ok.seq ?_
              refine Ok.region ?_
              obtain ⟨e2, h02, hl2, he2, hF⟩ := hF
              have he2' : (#[.int .i64 pe_Curve_0, .int .i64 pe_Curve_1, .int .i64 pe_Curve_2, .int .i64 pe_Curve_3] : Array Value)[Int.toNat x27l26]? = some (.int .i64 e2) := by have := congrArg (Option.map (Value.int .i64)) he2; rw [← List.getElem?_map] at this; simpa using this
              refine Ok.op rfl (OpOk.step (v := .int .i64 e2) (Yields.indexAgg (i := x27l26) rfl rfl Try.underlying23 Try.underlying3 rfl (by kernel_rfl) h02 hl2 he2') rfl rfl ?_)
              refine Ok.batch 1 [(1, .pointer (some ⟨b1, 0, none⟩)), (4, .int .i64 e2), (26, .agg #[.int .i64 pe_Curve_0, .int .i64 pe_Curve_1, .int .i64 pe_Curve_2, .int .i64 pe_Curve_3]), (27, .int .i64 x27l26)] (by kernel_rfl) ?_
              refine Ok.nil ?_
              refine Ok.thenN ?_
              refine Ok.seq ?_
              refine Ok.region ?_
              refine Ok.batch 1 [(1, .pointer (some ⟨b1, 0, none⟩)), (26, .agg #[.int .i64 pe_Curve_0, .int .i64 pe_Curve_1, .int .i64 pe_Curve_2, .int .i64 pe_Curve_3]), (27, .int .i64 x27l26), (30, .int .i64 e2)] (by kernel_rfl) ?_
              refine Ok.op rfl (OpOk.call (v := .bool (inB e2 0 1000)) (enters (by kernel_rfl) (fun _ => by kernel_rfl)) (in_c e2 0 1000) rfl rfl ?_)
              refine Ok.batch 1 [(1, .pointer (some ⟨b1, 0, none⟩)), (26, .agg #[.int .i64 pe_Curve_0, .int .i64 pe_Curve_1, .int .i64 pe_Curve_2, .int .i64 pe_Curve_3]), (27, .int .i64 x27l26), (32, .bool (!(inB e2 0 1000)))] (by kernel_rfl) ?_
              refine Ok.nil ?_
              refine Ok.thenN ?_
              refine Ok.cond (b := !(inB e2 0 1000)) rfl (fun hc => ?_) (fun hc => ?_)
              · replace hF := hF.1 hc
                refine Ok.seq ?_
                refine Ok.region ?_
                refine Ok.batch 1 [(2, .bool false)] (by kernel_rfl) ?_
                refine Ok.nil ?_
                refine Ok.thenN ?_
                refine Ok.ret ?_
                refine Ok.blockR ?_
                refine Ok.thenR ?_
                refine Ok.thenR ?_
                refine Ok.blockR ?_
                refine Ok.thenR ?_
                refine Ok.blockR ?_
                refine Ok.thenR ?_
                exact Ok.res1 (.inl rfl) rfl (.tmp rfl) ⟨false, rfl, hF⟩
              · replace hF := hF.2 hc
                refine Ok.skip ?_
                refine Ok.blockN ?_
                refine Ok.thenN ?_
                refine Ok.region ?_
                refine Ok.batch 2 [(1, .pointer (some ⟨b1, 0, none⟩)), (26, .agg #[.int .i64 pe_Curve_0, .int .i64 pe_Curve_1, .int .i64 pe_Curve_2, .int .i64 pe_Curve_3]), (27, .int .i64 (IntKind.wrap .i64 (x27l26 + 1)))] (by kernel_rfl) ?_
                refine Ok.nil ?_
                refine Ok.thenN ?_
                exact fun a W hA hW => ⟨k26, Nat.lt_succ_self _, (IntKind.wrap .i64 (x27l26 + 1)), hA.sub (by kernel_rfl), hW, hF⟩
            · replace hF := hF.2 hc
              refine Ok.exit ?_
              refine Ok.thenE ?_
              refine Ok.thenE ?_
              refine Ok.blockHit ?_
              refine Ok.thenN ?_
              refine Ok.seq ?_
              refine Ok.region ?_
              refine Ok.batch 1 [(34, .pointer (some ⟨b1, 5, none⟩))] (by kernel_rfl) ?_
              refine Ok.op rfl (OpOk.step (v := .int .i64 pe_N) (Yields.load 0 rfl rfl Try.underlying3 rfl (by kernel_rfl)) rfl rfl ?_)
              refine Ok.batch 2 [(2, .bool (pe_N == 0))] (by kernel_rfl) ?_
              refine Ok.nil ?_
              refine Ok.thenN ?_
              refine Ok.ret ?_
              refine Ok.blockR ?_
              refine Ok.thenR ?_
              exact Ok.res1 (.inl rfl) rfl (.tmp rfl) ⟨(pe_N == 0), rfl, hF⟩
      · replace hF := hF.2 hc
        refine Ok.skip ?_
        refine Ok.blockN ?_
        refine Ok.thenN ?_
        refine Ok.seq ?_
        refine Ok.region ?_
        refine Ok.batch 1 [(2, .bool false)] (by kernel_rfl) ?_
        refine Ok.nil ?_
        refine Ok.thenN ?_
        refine Ok.ret ?_
        exact Ok.res1 (.inl rfl) rfl (.tmp rfl) ⟨false, rfl, hF⟩
theorem easing_F (e : E) : easingF e.1 e.2.1.1 e.2.1.2.1 e.2.1.2.2.1 e.2.1.2.2.2 e.2.2 (fun r => r = mayB e) := by
  obtain ⟨kd, ⟨a, b, c, d⟩, n⟩ := e
  unfold easingF easingj16 mayB
  refine ⟨fun h => ?_, fun h => ⟨fun h2 => ⟨fun h3 => ?_, fun h3 => ?_⟩, fun h2 => ⟨fun h3 => ⟨5, ?_⟩, fun h3 => ?_⟩⟩⟩
  · obtain rfl : kd = 1 := by simpa using h
    simp [Bool.and_assoc]
  · obtain rfl : kd = 3 := by simpa using h2
    simp [h3, Bool.and_assoc]
  · obtain rfl : kd = 3 := by simpa using h2
    simp [h3]
  · obtain rfl : kd = 2 := by simpa using h3
    cases ha : inB a 0 1000 <;> cases hb : inB b 0 1000 <;> cases hc : inB c 0 1000 <;> cases hd : inB d 0 1000 <;>
      simp (disch := omega) [easingl26, easingl26b, i64_in, List.getElem?_cons_zero, ha, hb, hc, hd]
  · have h1 : ¬ kd = 1 := by simpa using h
    have h4 : ¬ kd = 3 := by simpa using h2
    have h5 : ¬ kd = 2 := by simpa using h3
    simp [h1, h4, h5]
set_option linter.unusedVariables false in
theorem easing_c {g : Ghost} (xe : Int × (Int × Int × Int × Int) × Int)  : CallsG Try.prog 39 #[.agg #[.int .i64 xe.1, .int .i64 xe.2.1.1, .int .i64 xe.2.1.2.1, .int .i64 xe.2.1.2.2.1, .int .i64 xe.2.1.2.2.2, .int .i64 xe.2.2]] g (.bool (mayB xe)) :=
  (easing_ok xe.1 xe.2.1.1 xe.2.1.2.1 xe.2.1.2.2.1 xe.2.1.2.2.2 xe.2.2 _ (easing_F xe)).gives (by rintro _ ⟨_, rfl, rfl⟩; rfl)
def rmayj20 (K : Bool → Prop) (x22j20 : Bool) (x3l11 : Int) (C11 : Int → Prop) : Prop :=
  ((x22j20) = true → K false) ∧ ((x22j20) = false → C11 (IntKind.wrap .i64 (x3l11 + 1)))
def rmayl11b (pe_Curve_0 : Int) (pe_Curve_1 : Int) (pe_Curve_2 : Int) (pe_Curve_3 : Int) (pe_N : Int) (K : Bool → Prop) (x3l11 : Int) (C11 : Int → Prop) : Prop :=
  ((decide (x3l11 < 4)) = true → (0 : Int) ≤ x3l11 ∧ x3l11 < ((4 : Nat) : Int) ∧ ∃ e2 : Int, ([pe_Curve_0, pe_Curve_1, pe_Curve_2, pe_Curve_3] : List Int)[Int.toNat x3l11]? = some e2 ∧ ((decide (e2 < 0)) = true → rmayj20 K true x3l11 C11) ∧ ((decide (e2 < 0)) = false → (0 : Int) ≤ x3l11 ∧ x3l11 < ((4 : Nat) : Int) ∧ ∃ e3 : Int, ([pe_Curve_0, pe_Curve_1, pe_Curve_2, pe_Curve_3] : List Int)[Int.toNat x3l11]? = some e3 ∧ rmayj20 K (decide (e3 > 1000)) x3l11 C11)) ∧ ((decide (x3l11 < 4)) = false → K (pe_N == 0))
def rmayl11 (pe_Curve_0 : Int) (pe_Curve_1 : Int) (pe_Curve_2 : Int) (pe_Curve_3 : Int) (pe_N : Int) (K : Bool → Prop) : Nat → Int → Prop
  | 0, _ => False
  | k + 1, x3l11 => rmayl11b pe_Curve_0 pe_Curve_1 pe_Curve_2 pe_Curve_3 pe_N K x3l11 (rmayl11 pe_Curve_0 pe_Curve_1 pe_Curve_2 pe_Curve_3 pe_N K k)
def rmayj44 (K : Bool → Prop) (x2j44 : Bool) : Prop :=
  K x2j44
def rmayj48 (K : Bool → Prop) (x2j48 : Bool) : Prop :=
  K x2j48
def rmayF (pe_Kind : Int) (pe_Curve_0 : Int) (pe_Curve_1 : Int) (pe_Curve_2 : Int) (pe_Curve_3 : Int) (pe_N : Int) (K : Bool → Prop) : Prop :=
  (((pe_Kind == 2)) = true → ∃ k, rmayl11 pe_Curve_0 pe_Curve_1 pe_Curve_2 pe_Curve_3 pe_N K k 0) ∧ (((pe_Kind == 2)) = false → ((!([(pe_Curve_0 == 0), (pe_Curve_1 == 0), (pe_Curve_2 == 0), (pe_Curve_3 == 0)].all id)) = true → K false) ∧ ((!([(pe_Curve_0 == 0), (pe_Curve_1 == 0), (pe_Curve_2 == 0), (pe_Curve_3 == 0)].all id)) = false → (((pe_Kind == 3)) = true → ((decide (pe_N ≥ 1)) = true → rmayj44 K (decide (pe_N ≤ 1000))) ∧ ((decide (pe_N ≥ 1)) = false → rmayj44 K false)) ∧ (((pe_Kind == 3)) = false → (((pe_Kind == 1)) = true → rmayj48 K (pe_N == 0)) ∧ (((pe_Kind == 1)) = false → rmayj48 K false))))
set_option maxHeartbeats 4000000 in
set_option maxRecDepth 100000 in
set_option linter.unusedVariables false in
theorem rmay_ok {g : Ghost} (pe_Kind : Int) (pe_Curve_0 : Int) (pe_Curve_1 : Int) (pe_Curve_2 : Int) (pe_Curve_3 : Int) (pe_N : Int) (K : Bool → Prop)
    (hF : rmayF pe_Kind pe_Curve_0 pe_Curve_1 pe_Curve_2 pe_Curve_3 pe_N K) : CallsK Try.prog 16 #[.agg #[.int .i64 pe_Kind, .int .i64 pe_Curve_0, .int .i64 pe_Curve_1, .int .i64 pe_Curve_2, .int .i64 pe_Curve_3, .int .i64 pe_N]] g (fun v => ∃ r0 : Bool, v = .bool r0 ∧ K r0) := by
  refine CallsK.enter 49 [(0, .agg #[.int .i64 pe_Kind, .int .i64 pe_Curve_0, .int .i64 pe_Curve_1, .int .i64 pe_Curve_2, .int .i64 pe_Curve_3, .int .i64 pe_N])] Try.func16 rfl (by kernel_rfl) (by kernel_rfl) (by kernel_rfl) fun w0 => ?_
  refine Ok.seq ?_
  refine Ok.region ?_
  refine Ok.op rfl (OpOk.box (v := .agg #[.int .i64 pe_Kind, .int .i64 pe_Curve_0, .int .i64 pe_Curve_1, .int .i64 pe_Curve_2, .int .i64 pe_Curve_3, .int .i64 pe_N]) (cs := #[.int .i64 pe_Kind, .int .i64 pe_Curve_0, .int .i64 pe_Curve_1, .int .i64 pe_Curve_2, .int .i64 pe_Curve_3, .int .i64 pe_N]) rfl (by kernel_rfl) rfl fun b1 => ?_)
  refine Ok.batch 1 [(1, .pointer (some ⟨b1, 0, none⟩))] (by kernel_rfl) ?_
  refine Ok.nil ?_
  refine Ok.thenN ?_
  refine Ok.seq ?_
  refine Ok.seq ?_
  refine Ok.region ?_
  refine Ok.batch 1 [(1, .pointer (some ⟨b1, 0, none⟩)), (4, .pointer (some ⟨b1, 0, none⟩))] (by kernel_rfl) ?_
  refine Ok.op rfl (OpOk.step (v := .int .i64 pe_Kind) (Yields.load 0 rfl rfl Try.underlying3 rfl (by kernel_rfl)) rfl rfl ?_)
  refine Ok.batch 1 [(1, .pointer (some ⟨b1, 0, none⟩)), (6, .bool (pe_Kind == 2))] (by kernel_rfl) ?_
  refine Ok.nil ?_
  refine Ok.thenN ?_
  refine Ok.cond (b := (pe_Kind == 2)) rfl (fun hc => ?_) (fun hc => ?_)
  · replace hF := hF.1 hc
    refine Ok.seq ?_
    refine Ok.seq ?_
    refine Ok.region ?_
    refine Ok.batch 1 [(1, .pointer (some ⟨b1, 0, none⟩)), (3, .int .i64 0)] (by kernel_rfl) ?_
    refine Ok.nil ?_
    refine Ok.thenN ?_
    refine Ok.block ?_
    obtain ⟨k, hF⟩ := hF
    refine Ok.loop (fun k a W => ∃ (x3l11 : Int), StA 49 [(1, .pointer (some ⟨b1, 0, none⟩)), (3, .int .i64 x3l11)] a ∧ StW w0 [.blk b1 (.cells #[.int .i64 pe_Kind, .int .i64 pe_Curve_0, .int .i64 pe_Curve_1, .int .i64 pe_Curve_2, .int .i64 pe_Curve_3, .int .i64 pe_N] 25)] g W ∧ rmayl11 pe_Curve_0 pe_Curve_1 pe_Curve_2 pe_Curve_3 pe_N K k x3l11) k ?_ ?_
    ·
      exact fun a W hA hW => ⟨0, hA.sub (by kernel_rfl), hW, hF⟩
    ·
      rintro k11 a W ⟨x3l11, hA, hW, hF⟩
      cases k11 with
      | zero => exact (hF : False).elim
      | succ k11 =>
        refine (?_ : Ok _ _ _ _ _ _) a W hA hW
        clear hA hW
        refine Ok.seq ?_
        refine Ok.seq ?_
        refine Ok.region ?_
        refine Ok.batch 2 [(1, .pointer (some ⟨b1, 0, none⟩)), (3, .int .i64 x3l11), (8, .bool (decide (x3l11 < 4)))] (by kernel_rfl) ?_
        refine Ok.nil ?_
        refine Ok.thenN ?_
        refine Ok.cond (b := decide (x3l11 < 4)) rfl (fun hc => ?_) (fun hc => ?_)
        · replace hF := hF.1 hc
          refine Ok.skip ?_
          refine Ok.thenN ?_
          refine Ok.seq ?_
          refine Ok.block ?_
          refine Ok.cut (fun a W => ∃ (x22j20 : Bool), StA 49 [(1, .pointer (some ⟨b1, 0, none⟩)), (3, .int .i64 x3l11), (22, .bool x22j20)] a ∧ StW w0 [.blk b1 (.cells #[.int .i64 pe_Kind, .int .i64 pe_Curve_0, .int .i64 pe_Curve_1, .int .i64 pe_Curve_2, .int .i64 pe_Curve_3, .int .i64 pe_N] 25)] g W ∧ rmayj20 K x22j20 x3l11 (rmayl11 pe_Curve_0 pe_Curve_1 pe_Curve_2 pe_Curve_3 pe_N K k11)) ?_ ?_
          ·
            refine Ok.region ?_
            refine Ok.batch 2 [(1, .pointer (some ⟨b1, 0, none⟩)), (3, .int .i64 x3l11), (11, .int .i64 x3l11), (12, .pointer (some ⟨b1, 1, none⟩))] (by kernel_rfl) ?_
            obtain ⟨h0, hl, hF⟩ := hF
            refine Ok.op rfl (OpOk.step (v := .pointer (some ⟨b1, 1 + Int.toNat x3l11, none⟩)) (Yields.indexLoc (i := x3l11) rfl rfl Try.underlying23 (by kernel_rfl) h0 hl) rfl rfl ?_)
            obtain ⟨e2, he2, hF⟩ := hF
            have he2' : ([.int .i64 pe_Curve_0, .int .i64 pe_Curve_1, .int .i64 pe_Curve_2, .int .i64 pe_Curve_3] : List Value)[Int.toNat x3l11]? = some (.int .i64 e2) := by have := congrArg (Option.map (Value.int .i64)) he2; rw [← List.getElem?_map] at this; simpa using this
            refine Ok.op rfl (OpOk.step (v := .int .i64 e2) (Yields.load 0 rfl rfl Try.underlying3 rfl (cell_of_part 1 [.int .i64 pe_Curve_0, .int .i64 pe_Curve_1, .int .i64 pe_Curve_2, .int .i64 pe_Curve_3] rfl he2')) rfl rfl ?_)
            refine Ok.batch 2 [(1, .pointer (some ⟨b1, 0, none⟩)), (3, .int .i64 x3l11), (16, .bool (decide (e2 < 0)))] (by kernel_rfl) ?_
            refine Ok.boolAt 16 (decide (e2 < 0)) rfl (fun hc => ?_) (fun hc => ?_)
            · replace hF := hF.1 hc
              refine Ok.batch 6 [(1, .pointer (some ⟨b1, 0, none⟩)), (3, .int .i64 x3l11), (22, .bool true)] (by kernel_rfl) ?_
              refine Ok.nil ?_
              refine Ok.thenN ?_
              exact fun a W hA hW => ⟨true, hA.sub (by kernel_rfl), hW, hF⟩
            · replace hF := hF.2 hc
              refine Ok.batch 2 [(1, .pointer (some ⟨b1, 0, none⟩)), (3, .int .i64 x3l11), (16, .bool false), (17, .int .i64 x3l11), (18, .pointer (some ⟨b1, 1, none⟩))] (by kernel_rfl) ?_
              obtain ⟨h0, hl, hF⟩ := hF
              refine Ok.opYes (j := 5) (d := 16) (want := false) (b := false) rfl (by kernel_rfl) (by kernel_rfl) rfl (OpOk.step (v := .pointer (some ⟨b1, 1 + Int.toNat x3l11, none⟩)) (Yields.indexLoc (i := x3l11) rfl rfl Try.underlying23 (by kernel_rfl) h0 hl) rfl rfl ?_)
              obtain ⟨e3, he3, hF⟩ := hF
              have he3' : ([.int .i64 pe_Curve_0, .int .i64 pe_Curve_1, .int .i64 pe_Curve_2, .int .i64 pe_Curve_3] : List Value)[Int.toNat x3l11]? = some (.int .i64 e3) := by have := congrArg (Option.map (Value.int .i64)) he3; rw [← List.getElem?_map] at this; simpa using this
              refine Ok.opYes (j := 5) (d := 16) (want := false) (b := false) rfl (by kernel_rfl) (by kernel_rfl) rfl (OpOk.step (v := .int .i64 e3) (Yields.load 0 rfl rfl Try.underlying3 rfl (cell_of_part 1 [.int .i64 pe_Curve_0, .int .i64 pe_Curve_1, .int .i64 pe_Curve_2, .int .i64 pe_Curve_3] rfl he3')) rfl rfl ?_)
              refine Ok.batch 2 [(1, .pointer (some ⟨b1, 0, none⟩)), (3, .int .i64 x3l11), (22, .bool (decide (e3 > 1000)))] (by kernel_rfl) ?_
              refine Ok.nil ?_
              refine Ok.thenN ?_
              exact fun a W hA hW => ⟨(decide (e3 > 1000)), hA.sub (by kernel_rfl), hW, hF⟩
          ·
            rintro a W ⟨x22j20, hA, hW, hF⟩
            refine (?_ : Ok _ _ _ _ _ _) a W hA hW
            clear hA hW
            refine Ok.cond (b := x22j20) rfl (fun hc => ?_) (fun hc => ?_)
            · replace hF := hF.1 hc
              refine Ok.seq ?_
              refine Ok.region ?_
              refine Ok.batch 1 [(2, .bool false)] (by kernel_rfl) ?_
              refine Ok.nil ?_
              refine Ok.thenN ?_
              refine Ok.ret ?_
              refine Ok.blockR ?_
              refine Ok.thenR ?_
              refine Ok.thenR ?_
              refine Ok.blockR ?_
              refine Ok.thenR ?_
              refine Ok.thenR ?_
              exact Ok.res1 (.inl rfl) rfl (.tmp rfl) ⟨false, rfl, hF⟩
            · replace hF := hF.2 hc
              refine Ok.skip ?_
              refine Ok.blockN ?_
              refine Ok.thenN ?_
              refine Ok.region ?_
              refine Ok.batch 3 [(1, .pointer (some ⟨b1, 0, none⟩)), (3, .int .i64 (IntKind.wrap .i64 (x3l11 + 1)))] (by kernel_rfl) ?_
              refine Ok.nil ?_
              refine Ok.thenN ?_
              exact fun a W hA hW => ⟨k11, Nat.lt_succ_self _, (IntKind.wrap .i64 (x3l11 + 1)), hA.sub (by kernel_rfl), hW, hF⟩
        · replace hF := hF.2 hc
          refine Ok.exit ?_
          refine Ok.thenE ?_
          refine Ok.thenE ?_
          refine Ok.blockHit ?_
          refine Ok.thenN ?_
          refine Ok.seq ?_
          refine Ok.region ?_
          refine Ok.batch 1 [(23, .pointer (some ⟨b1, 5, none⟩))] (by kernel_rfl) ?_
          refine Ok.op rfl (OpOk.step (v := .int .i64 pe_N) (Yields.load 0 rfl rfl Try.underlying3 rfl (by kernel_rfl)) rfl rfl ?_)
          refine Ok.batch 2 [(2, .bool (pe_N == 0))] (by kernel_rfl) ?_
          refine Ok.nil ?_
          refine Ok.thenN ?_
          refine Ok.ret ?_
          refine Ok.thenR ?_
          exact Ok.res1 (.inl rfl) rfl (.tmp rfl) ⟨(pe_N == 0), rfl, hF⟩
  · replace hF := hF.2 hc
    refine Ok.skip ?_
    refine Ok.thenN ?_
    refine Ok.seq ?_
    refine Ok.seq ?_
    refine Ok.region ?_
    refine Ok.batch 1 [(1, .pointer (some ⟨b1, 0, none⟩)), (26, .pointer (some ⟨b1, 1, none⟩))] (by kernel_rfl) ?_
    refine Ok.op rfl (OpOk.step (v := .agg #[.int .i64 pe_Curve_0, .int .i64 pe_Curve_1, .int .i64 pe_Curve_2, .int .i64 pe_Curve_3]) (Yields.loadAgg 0 4 #[.int .i64 pe_Curve_0, .int .i64 pe_Curve_1, .int .i64 pe_Curve_2, .int .i64 pe_Curve_3] rfl rfl Try.underlying23 rfl (by kernel_rfl) (by kernel_rfl) (by kernel_rfl)) rfl rfl ?_)
    refine Ok.batch 1 [(1, .pointer (some ⟨b1, 0, none⟩)), (27, .agg #[.int .i64 pe_Curve_0, .int .i64 pe_Curve_1, .int .i64 pe_Curve_2, .int .i64 pe_Curve_3]), (28, .agg #[.int .i64 0, .int .i64 0, .int .i64 0, .int .i64 0])] (by kernel_rfl) ?_
    refine Ok.op rfl (OpOk.step (v := .bool (!([(pe_Curve_0 == 0), (pe_Curve_1 == 0), (pe_Curve_2 == 0), (pe_Curve_3 == 0)].all id))) (Yields.neAgg (k := 2) rfl rfl (.array (k := 1) (size := 1) Try.underlying23 rfl (by kernel_rfl) ⟨⟨.int .i64 pe_Curve_0, .int .i64 0, fun _ => by kernel_rfl, fun _ => by kernel_rfl, EqR.mono (k := 1) (.int Try.underlying3) (by decide)⟩, ⟨⟨.int .i64 pe_Curve_1, .int .i64 0, fun _ => by kernel_rfl, fun _ => by kernel_rfl, EqR.mono (k := 1) (.int Try.underlying3) (by decide)⟩, ⟨⟨.int .i64 pe_Curve_2, .int .i64 0, fun _ => by kernel_rfl, fun _ => by kernel_rfl, EqR.mono (k := 1) (.int Try.underlying3) (by decide)⟩, ⟨⟨.int .i64 pe_Curve_3, .int .i64 0, fun _ => by kernel_rfl, fun _ => by kernel_rfl, EqR.mono (k := 1) (.int Try.underlying3) (by decide)⟩, trivial⟩⟩⟩⟩) rfl (by kernel_rfl)) rfl rfl ?_)
    refine Ok.nil ?_
    refine Ok.thenN ?_
    refine Ok.cond (b := !([(pe_Curve_0 == 0), (pe_Curve_1 == 0), (pe_Curve_2 == 0), (pe_Curve_3 == 0)].all id)) rfl (fun hc => ?_) (fun hc => ?_)
    · replace hF := hF.1 hc
      refine Ok.seq ?_
      refine Ok.region ?_
      refine Ok.batch 1 [(2, .bool false)] (by kernel_rfl) ?_
      refine Ok.nil ?_
      refine Ok.thenN ?_
      refine Ok.ret ?_
      refine Ok.thenR ?_
      exact Ok.res1 (.inl rfl) rfl (.tmp rfl) ⟨false, rfl, hF⟩
    · replace hF := hF.2 hc
      refine Ok.skip ?_
      refine Ok.thenN ?_
      refine Ok.seq ?_
      refine Ok.seq ?_
      refine Ok.region ?_
      refine Ok.batch 1 [(1, .pointer (some ⟨b1, 0, none⟩)), (30, .pointer (some ⟨b1, 0, none⟩))] (by kernel_rfl) ?_
      refine Ok.op rfl (OpOk.step (v := .int .i64 pe_Kind) (Yields.load 0 rfl rfl Try.underlying3 rfl (by kernel_rfl)) rfl rfl ?_)
      refine Ok.batch 1 [(1, .pointer (some ⟨b1, 0, none⟩)), (32, .bool (pe_Kind == 3))] (by kernel_rfl) ?_
      refine Ok.nil ?_
      refine Ok.thenN ?_
      refine Ok.cond (b := (pe_Kind == 3)) rfl (fun hc => ?_) (fun hc => ?_)
      · replace hF := hF.1 hc
        refine Ok.cut (fun a W => ∃ (x2j44 : Bool), StA 49 [(2, .bool x2j44)] a ∧ StW w0 [] g W ∧ rmayj44 K x2j44) ?_ ?_
        ·
          refine Ok.region ?_
          refine Ok.batch 1 [(1, .pointer (some ⟨b1, 0, none⟩)), (33, .pointer (some ⟨b1, 5, none⟩))] (by kernel_rfl) ?_
          refine Ok.op rfl (OpOk.step (v := .int .i64 pe_N) (Yields.load 0 rfl rfl Try.underlying3 rfl (by kernel_rfl)) rfl rfl ?_)
          refine Ok.batch 2 [(1, .pointer (some ⟨b1, 0, none⟩)), (36, .bool (decide (pe_N ≥ 1)))] (by kernel_rfl) ?_
          refine Ok.boolAt 36 (decide (pe_N ≥ 1)) rfl (fun hc => ?_) (fun hc => ?_)
          · replace hF := hF.1 hc
            refine Ok.batch 1 [(36, .bool true), (37, .pointer (some ⟨b1, 5, none⟩))] (by kernel_rfl) ?_
            refine Ok.opYes (j := 3) (d := 36) (want := true) (b := true) rfl (by kernel_rfl) (by kernel_rfl) rfl (OpOk.step (v := .int .i64 pe_N) (Yields.load 0 rfl rfl Try.underlying3 rfl (by kernel_rfl)) rfl rfl ?_)
            refine Ok.batch 3 [(2, .bool (decide (pe_N ≤ 1000)))] (by kernel_rfl) ?_
            refine Ok.nil ?_
            refine Ok.thenN ?_
            exact fun a W hA hW => ⟨(decide (pe_N ≤ 1000)), hA.sub (by kernel_rfl), hW.sub (.cons _ .slnil), hF⟩
          · replace hF := hF.2 hc
            refine Ok.batch 5 [(2, .bool false)] (by kernel_rfl) ?_
            refine Ok.nil ?_
            refine Ok.thenN ?_
            exact fun a W hA hW => ⟨false, hA.sub (by kernel_rfl), hW.sub (.cons _ .slnil), hF⟩
        ·
          rintro a W ⟨x2j44, hA, hW, hF⟩
          refine (?_ : Ok _ _ _ _ _ _) a W hA hW
          clear hA hW
          refine Ok.ret ?_
          refine Ok.thenR ?_
          exact Ok.res1 (.inl rfl) rfl (.tmp rfl) ⟨x2j44, rfl, hF⟩
      · replace hF := hF.2 hc
        refine Ok.skip ?_
        refine Ok.thenN ?_
        refine Ok.cut (fun a W => ∃ (x2j48 : Bool), StA 49 [(2, .bool x2j48)] a ∧ StW w0 [] g W ∧ rmayj48 K x2j48) ?_ ?_
        ·
          refine Ok.region ?_
          refine Ok.batch 1 [(1, .pointer (some ⟨b1, 0, none⟩)), (41, .pointer (some ⟨b1, 0, none⟩))] (by kernel_rfl) ?_
          refine Ok.op rfl (OpOk.step (v := .int .i64 pe_Kind) (Yields.load 0 rfl rfl Try.underlying3 rfl (by kernel_rfl)) rfl rfl ?_)
          refine Ok.batch 2 [(1, .pointer (some ⟨b1, 0, none⟩)), (44, .bool (pe_Kind == 1))] (by kernel_rfl) ?_
          refine Ok.boolAt 44 ((pe_Kind == 1)) rfl (fun hc => ?_) (fun hc => ?_)
          · replace hF := hF.1 hc
            refine Ok.batch 1 [(44, .bool true), (45, .pointer (some ⟨b1, 5, none⟩))] (by kernel_rfl) ?_
            refine Ok.opYes (j := 3) (d := 44) (want := true) (b := true) rfl (by kernel_rfl) (by kernel_rfl) rfl (OpOk.step (v := .int .i64 pe_N) (Yields.load 0 rfl rfl Try.underlying3 rfl (by kernel_rfl)) rfl rfl ?_)
            refine Ok.batch 3 [(2, .bool (pe_N == 0))] (by kernel_rfl) ?_
            refine Ok.nil ?_
            refine Ok.thenN ?_
            exact fun a W hA hW => ⟨(pe_N == 0), hA.sub (by kernel_rfl), hW.sub (.cons _ .slnil), hF⟩
          · replace hF := hF.2 hc
            refine Ok.batch 5 [(2, .bool false)] (by kernel_rfl) ?_
            refine Ok.nil ?_
            refine Ok.thenN ?_
            exact fun a W hA hW => ⟨false, hA.sub (by kernel_rfl), hW.sub (.cons _ .slnil), hF⟩
        ·
          rintro a W ⟨x2j48, hA, hW, hF⟩
          refine (?_ : Ok _ _ _ _ _ _) a W hA hW
          clear hA hW
          refine Ok.ret ?_
          exact Ok.res1 (.inl rfl) rfl (.tmp rfl) ⟨x2j48, rfl, hF⟩
theorem rmay_step {a b c d n i x : Int} {K : Bool → Prop} {C : Int → Prop} (h0 : 0 ≤ i) (h4 : i < 4) (hx : ([a, b, c, d] : List Int)[Int.toNat i]? = some x) (ht : inB x 0 1000 = true → C (i + 1)) (hf : inB x 0 1000 = false → K false) :
    rmayl11b a b c d n K i C := by
  unfold rmayl11b rmayj20
  refine ⟨fun _ => ⟨h0, h4, x, hx, fun h1 => ⟨fun _ => hf ?_, fun h => by cases h⟩, fun h1 => ⟨h0, h4, x, hx, fun h2 => hf ?_, fun h2 => ?_⟩⟩, fun h => ?_⟩
  · have := of_decide_eq_true h1; rw [inB_false]; omega
  · have := of_decide_eq_true h2; rw [inB_false]; omega
  · rw [i64_in _ (by omega)]
    have h1 := of_decide_eq_false h1
    have h2 := of_decide_eq_false h2
    exact ht (inB_true.2 (by omega))
  · exact absurd h4 (of_decide_eq_false h)
theorem rmay_F (e : E) : rmayF e.1 e.2.1.1 e.2.1.2.1 e.2.1.2.2.1 e.2.1.2.2.2 e.2.2 (fun r => r = mayB e) := by
  obtain ⟨kd, ⟨a, b, c, d⟩, n⟩ := e
  unfold rmayF rmayj44 rmayj48 mayB
  refine ⟨fun h => ⟨5, ?_⟩, fun h => ⟨fun h2 => ?_, fun h2 => ⟨fun h3 => ⟨fun h4 => ?_, fun h4 => ?_⟩, fun h3 => ⟨fun h4 => ?_, fun h4 => ?_⟩⟩⟩⟩
  · obtain rfl : kd = 2 := by simpa using h
    refine rmay_step (x := a) (by omega) (by omega) (by simp) (fun ha => ?_) (fun ha => by simp [ha])
    refine rmay_step (x := b) (by omega) (by omega) (by simp) (fun hb => ?_) (fun hb => by simp [hb])
    refine rmay_step (x := c) (by omega) (by omega) (by simp) (fun hc => ?_) (fun hc => by simp [hc])
    refine rmay_step (x := d) (by omega) (by omega) (by simp) (fun hd => ?_) (fun hd => by simp [hd])
    refine ⟨fun h => by simp at h, fun _ => by simp [ha, hb, hc, hd]⟩
  · have h1 : ¬ kd = 2 := by simpa using h
    simp only [List.all_cons, List.all_nil, id_eq, Bool.and_true, Bool.not_eq_true'] at h2
    rw [if_neg h1]
    simp only [Bool.and_assoc] at h2 ⊢
    revert h2
    cases (a == 0) <;> cases (b == 0) <;> cases (c == 0) <;> cases (d == 0) <;> simp
  all_goals
    have h1 : ¬ kd = 2 := by simpa using h
    simp only [List.all_cons, List.all_nil, id_eq, Bool.and_true, Bool.not_eq_false', Bool.and_eq_true] at h2
    obtain ⟨g1, g2, g3, g4⟩ := h2
    rw [if_neg h1]
    simp only [g1, g2, g3, g4, Bool.true_and]
  · obtain rfl : kd = 3 := by simpa using h3
    have : n ≥ 1 := of_decide_eq_true h4
    simp [inB]; omega
  · obtain rfl : kd = 3 := by simpa using h3
    have : ¬ n ≥ 1 := of_decide_eq_false h4
    simp [inB]; omega
  · obtain rfl : kd = 1 := by simpa using h4
    simp
  · have h5 : ¬ kd = 3 := by simpa using h3
    have h6 : ¬ kd = 1 := by simpa using h4
    simp [h5, h6]
set_option linter.unusedVariables false in
theorem rmay_c {g : Ghost} (xe : Int × (Int × Int × Int × Int) × Int)  : CallsG Try.prog 16 #[.agg #[.int .i64 xe.1, .int .i64 xe.2.1.1, .int .i64 xe.2.1.2.1, .int .i64 xe.2.1.2.2.1, .int .i64 xe.2.1.2.2.2, .int .i64 xe.2.2]] g (.bool (mayB xe)) :=
  (rmay_ok xe.1 xe.2.1.1 xe.2.1.2.1 xe.2.1.2.2.1 xe.2.1.2.2.2 xe.2.2 _ (rmay_F xe)).gives (by rintro _ ⟨_, rfl, rfl⟩; rfl)
end Go.Proofs.Ytejkloinamgpaaa.An
