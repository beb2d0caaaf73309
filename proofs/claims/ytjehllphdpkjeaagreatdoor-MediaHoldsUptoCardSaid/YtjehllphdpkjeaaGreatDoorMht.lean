/- MediaHolds: what holds, by the document; and the law. -/
import Derived.Test.YtjehllphdpkjeaaGreatDoorMhs
import Derived.Test.YtjehllphdpkjeaaGreatDoorMtf
namespace Go.Proofs.YtjehllphdpkjeaaGreatDoor.Me
open Go Go.Eng Go.RowKit Go.Shelf Go.Proofs Bld Trm Css Ti
set_option linter.unusedVariables false
abbrev En := Int × Int × Bool × Bool
def renvV0 (xe : Int × Int × Bool × Bool) : Bool :=
  ((decide (xe.1 ≥ 1)) && ((decide (xe.1 ≤ 4000)) && ((decide (xe.2.1 ≥ 1)) && (decide (xe.2.1 ≤ 4000)))))
def renvj3 (xe : Int × Int × Bool × Bool) (K : Bool → Prop) : Prop :=
  K (renvV0 xe)
def renvF (xe : Int × Int × Bool × Bool) (K : Bool → Prop) : Prop :=
  ((decide (xe.1 ≥ 1)) = true → ((decide (xe.1 ≤ 4000)) = true → ((decide (xe.2.1 ≥ 1)) = true → renvj3 xe K) ∧ ((decide (xe.2.1 ≥ 1)) = false → renvj3 xe K)) ∧ ((decide (xe.1 ≤ 4000)) = false → renvj3 xe K)) ∧ ((decide (xe.1 ≥ 1)) = false → renvj3 xe K)
set_option maxHeartbeats 4000000 in
set_option maxRecDepth 100000 in
set_option linter.unusedVariables false in
theorem renv_ok {g : Ghost} (xe : Int × Int × Bool × Bool) (K : Bool → Prop)
    (hF : renvF xe K) : CallsH Tryz.prog 9 #[.agg #[.int .i64 xe.1, .int .i64 xe.2.1, .bool xe.2.2.1, .bool xe.2.2.2]] g [] (fun g' H' v => ∃ (r0 : Bool), v = .bool r0 ∧ H' = [] ∧ K r0) := by
  refine CallsH.enter 21 [(0, .agg #[.int .i64 xe.1, .int .i64 xe.2.1, .bool xe.2.2.1, .bool xe.2.2.2])] Tryz.func9 rfl (by kernel_rfl) (by kernel_rfl) (by kernel_rfl) fun w0 => ?_
  refine Ok.seq ?_
  refine Ok.region ?_
  refine Ok.op rfl (OpOk.box (v := .agg #[.int .i64 xe.1, .int .i64 xe.2.1, .bool xe.2.2.1, .bool xe.2.2.2]) (cs := #[.int .i64 xe.1, .int .i64 xe.2.1, .bool xe.2.2.1, .bool xe.2.2.2]) rfl (by kernel_rfl) rfl fun bs1 => ?_)
  refine Ok.batch 1 [(1, .pointer (some ⟨bs1, 0, none⟩))] (by kernel_rfl) ?_
  refine Ok.nil ?_
  refine Ok.thenN ?_
  refine Ok.cut (fun a W => StA 21 [(2, .bool (renvV0 xe))] a ∧ StW w0 [] g W ∧ renvj3 xe K) ?_ ?_
  ·
    refine Ok.region ?_
    refine Ok.batch 1 [(1, .pointer (some ⟨bs1, 0, none⟩)), (3, .pointer (some ⟨bs1, 0, none⟩))] (by kernel_rfl) ?_
    refine Ok.op rfl (OpOk.step (v := .int .i64 xe.1) (Yields.load 0 rfl rfl Tryz.underlying3 rfl (by kernel_rfl)) rfl rfl ?_)
    refine Ok.batch 2 [(1, .pointer (some ⟨bs1, 0, none⟩)), (6, .bool (decide (xe.1 ≥ 1)))] (by kernel_rfl) ?_
    refine Ok.boolAt 6 (decide (xe.1 ≥ 1)) rfl (fun hc2 => ?_) (fun hc2 => ?_)
    · replace hF := hF.1 hc2
      refine Ok.batch 1 [(1, .pointer (some ⟨bs1, 0, none⟩)), (6, .bool true), (7, .pointer (some ⟨bs1, 0, none⟩))] (by kernel_rfl) ?_
      refine Ok.opYes (j := 3) (d := 6) (want := true) (b := true) rfl (by kernel_rfl) (by kernel_rfl) rfl (OpOk.step (v := .int .i64 xe.1) (Yields.load 0 rfl rfl Tryz.underlying3 rfl (by kernel_rfl)) rfl rfl ?_)
      refine Ok.batch 3 [(1, .pointer (some ⟨bs1, 0, none⟩)), (11, .bool (decide (xe.1 ≤ 4000)))] (by kernel_rfl) ?_
      refine Ok.boolAt 11 (decide (xe.1 ≤ 4000)) rfl (fun hc3 => ?_) (fun hc3 => ?_)
      · replace hF := hF.1 hc3
        refine Ok.batch 1 [(1, .pointer (some ⟨bs1, 0, none⟩)), (11, .bool true), (12, .pointer (some ⟨bs1, 1, none⟩))] (by kernel_rfl) ?_
        refine Ok.opYes (j := 8) (d := 11) (want := true) (b := true) rfl (by kernel_rfl) (by kernel_rfl) rfl (OpOk.step (v := .int .i64 xe.2.1) (Yields.load 0 rfl rfl Tryz.underlying3 rfl (by kernel_rfl)) rfl rfl ?_)
        refine Ok.batch 3 [(1, .pointer (some ⟨bs1, 0, none⟩)), (16, .bool (decide (xe.2.1 ≥ 1)))] (by kernel_rfl) ?_
        refine Ok.boolAt 16 (decide (xe.2.1 ≥ 1)) rfl (fun hc4 => ?_) (fun hc4 => ?_)
        · replace hF := hF.1 hc4
          refine Ok.batch 1 [(16, .bool true), (17, .pointer (some ⟨bs1, 1, none⟩))] (by kernel_rfl) ?_
          refine Ok.opYes (j := 13) (d := 16) (want := true) (b := true) rfl (by kernel_rfl) (by kernel_rfl) rfl (OpOk.step (v := .int .i64 xe.2.1) (Yields.load 0 rfl rfl Tryz.underlying3 rfl (by kernel_rfl)) rfl rfl ?_)
          refine Ok.batch 3 [(2, .bool (decide (xe.2.1 ≤ 4000)))] (by kernel_rfl) ?_
          refine Ok.nil ?_
          refine Ok.thenN ?_
          refine Ok.reval 2 rfl (show (.bool (decide (xe.2.1 ≤ 4000)) : Value) = .bool (renvV0 xe) from congrArg (Value.bool) ((Eq.trans ((Eq.trans (mand_t hc4) (mand_t hc3))) (mand_t hc2)))) ?_
          exact fun a W hA hW => ⟨hA.sub (by kernel_rfl), hW.sub (.cons _ .slnil), hF⟩
        · replace hF := hF.2 hc4
          refine Ok.batch 5 [(2, .bool false)] (by kernel_rfl) ?_
          refine Ok.nil ?_
          refine Ok.thenN ?_
          refine Ok.reval 2 rfl (show (.bool false : Value) = .bool (renvV0 xe) from congrArg (Value.bool) ((Eq.trans ((Eq.trans (mand_f hc4) (mand_t hc3))) (mand_t hc2)))) ?_
          exact fun a W hA hW => ⟨hA.sub (by kernel_rfl), hW.sub (.cons _ .slnil), hF⟩
      · replace hF := hF.2 hc3
        refine Ok.batch 10 [(2, .bool false)] (by kernel_rfl) ?_
        refine Ok.nil ?_
        refine Ok.thenN ?_
        refine Ok.reval 2 rfl (show (.bool false : Value) = .bool (renvV0 xe) from congrArg (Value.bool) ((Eq.trans (mand_f hc3) (mand_t hc2)))) ?_
        exact fun a W hA hW => ⟨hA.sub (by kernel_rfl), hW.sub (.cons _ .slnil), hF⟩
    · replace hF := hF.2 hc2
      refine Ok.batch 15 [(2, .bool false)] (by kernel_rfl) ?_
      refine Ok.nil ?_
      refine Ok.thenN ?_
      refine Ok.reval 2 rfl (show (.bool false : Value) = .bool (renvV0 xe) from congrArg (Value.bool) (mand_f hc2)) ?_
      exact fun a W hA hW => ⟨hA.sub (by kernel_rfl), hW.sub (.cons _ .slnil), hF⟩
  ·
    clear hF
    rintro a W ⟨hA, hW, hF⟩
    refine (?_ : Ok _ _ _ _ _ _) a W hA hW
    clear hA hW
    refine Ok.ret ?_
    exact Ok.resH (vs := [.bool (renvV0 xe)]) (.inl rfl) rfl (.cons (.tmp rfl) .nil) (Gext.refl w0 g) ⟨(renvV0 xe), rfl, rfl, hF⟩
def renvj3M (xe : Int × Int × Bool × Bool) : Bool := (renvV0 xe)
set_option linter.unusedSimpArgs false in
set_option linter.unusedVariables false in
theorem renvj3_A (xe : Int × Int × Bool × Bool) (P : Bool → Prop) (h : P (renvj3M xe)) : renvj3 xe (fun k0 => P k0) := by
  unfold renvj3M at h
  unfold renvj3
  exact h
def renvM (xe : Int × Int × Bool × Bool) : Bool := (renvj3M xe)
set_option linter.unusedSimpArgs false in
set_option linter.unusedVariables false in
theorem renvF_A (xe : Int × Int × Bool × Bool) (P : Bool → Prop) (h : P (renvM xe)) : renvF xe (fun k0 => P k0) := by
  unfold renvM at h
  unfold renvF
  refine ⟨fun hc0 => ?_, fun hc0 => ?_⟩
  · skip
    have hd0 := of_decide_eq_true hc0
    refine ⟨fun hc1 => ?_, fun hc1 => ?_⟩
    · skip
      have hd1 := of_decide_eq_true hc1
      refine ⟨fun hc2 => ?_, fun hc2 => ?_⟩
      · skip
        have hd2 := of_decide_eq_true hc2
        exact renvj3_A xe _ h
      · skip
        have hd2 := of_decide_eq_false hc2
        exact renvj3_A xe _ h
    · skip
      have hd1 := of_decide_eq_false hc1
      exact renvj3_A xe _ h
  · skip
    have hd0 := of_decide_eq_false hc0
    exact renvj3_A xe _ h
theorem renv_F (xe : Int × Int × Bool × Bool) : renvF xe (fun k0 => k0 = renvM xe) :=
  renvF_A xe (fun z => z = renvM xe) rfl
set_option linter.unusedVariables false in
theorem renv_c {g : Ghost} (xe : Int × Int × Bool × Bool)  : CallsG Tryz.prog 9 #[.agg #[.int .i64 xe.1, .int .i64 xe.2.1, .bool xe.2.2.1, .bool xe.2.2.2]] g (.bool (renvM xe)) :=
  (renv_ok xe _ (renv_F xe)).gives (by rintro g' H' v _ ⟨r0, rfl, rfl, hK⟩; subst hK; rfl)
def rfsF (xf : Int × Int) (xe : Int × Int × Bool × Bool) (K : Bool → Bool → Prop) : Prop :=
  (((xf.1 == 1)) = true → K true true) ∧ (((xf.1 == 1)) = false → (((xf.1 == 2)) = true → K (!xe.2.2.2) true) ∧ (((xf.1 == 2)) = false → (((xf.1 == 3)) = true → K xe.2.2.2 true) ∧ (((xf.1 == 3)) = false → (((xf.1 == 4)) = true → K (decide (xe.1 ≥ xf.2)) true) ∧ (((xf.1 == 4)) = false → (((xf.1 == 5)) = true → K (decide (xe.1 ≤ xf.2)) true) ∧ (((xf.1 == 5)) = false → (((xf.1 == 6)) = true → K (decide (xe.2.1 ≥ xf.2)) true) ∧ (((xf.1 == 6)) = false → (((xf.1 == 7)) = true → K (decide (xe.2.1 ≤ xf.2)) true) ∧ (((xf.1 == 7)) = false → (((xf.1 == 8)) = true → K xe.2.2.1 true) ∧ (((xf.1 == 8)) = false → (((xf.1 == 9)) = true → K (!xe.2.2.1) true) ∧ (((xf.1 == 9)) = false → (((xf.1 == 10)) = true → K (decide (xe.2.1 ≥ xe.1)) true) ∧ (((xf.1 == 10)) = false → (((xf.1 == 11)) = true → K (decide (xe.2.1 < xe.1)) true) ∧ (((xf.1 == 11)) = false → K false false)))))))))))
set_option maxHeartbeats 4000000 in
set_option maxRecDepth 100000 in
set_option linter.unusedVariables false in
theorem rfs_ok {g : Ghost} (xf : Int × Int) (xe : Int × Int × Bool × Bool) (K : Bool → Bool → Prop)
    (hF : rfsF xf xe K) : CallsH Tryz.prog 10 #[.agg #[.int .i64 xf.1, .int .i64 xf.2], .agg #[.int .i64 xe.1, .int .i64 xe.2.1, .bool xe.2.2.1, .bool xe.2.2.2]] g [] (fun g' H' v => ∃ (r0 : Bool), ∃ (r1 : Bool), v = .tuple #[.bool r0, .bool r1] ∧ H' = [] ∧ K r0 r1) := by
  refine CallsH.enter 79 [(0, .agg #[.int .i64 xf.1, .int .i64 xf.2]), (1, .agg #[.int .i64 xe.1, .int .i64 xe.2.1, .bool xe.2.2.1, .bool xe.2.2.2])] Tryz.func10 rfl (by kernel_rfl) (by kernel_rfl) (by kernel_rfl) fun w0 => ?_
  refine Ok.seq ?_
  refine Ok.region ?_
  refine Ok.op rfl (OpOk.box (v := .agg #[.int .i64 xf.1, .int .i64 xf.2]) (cs := #[.int .i64 xf.1, .int .i64 xf.2]) rfl (by kernel_rfl) rfl fun bs2 => ?_)
  refine Ok.op rfl (OpOk.box (v := .agg #[.int .i64 xe.1, .int .i64 xe.2.1, .bool xe.2.2.1, .bool xe.2.2.2]) (cs := #[.int .i64 xe.1, .int .i64 xe.2.1, .bool xe.2.2.1, .bool xe.2.2.2]) rfl (by kernel_rfl) rfl fun bs3 => ?_)
  refine Ok.batch 2 [(2, .pointer (some ⟨bs2, 0, none⟩)), (3, .pointer (some ⟨bs3, 0, none⟩))] (by kernel_rfl) ?_
  refine Ok.nil ?_
  refine Ok.thenN ?_
  refine Ok.seq ?_
  refine Ok.seq ?_
  refine Ok.region ?_
  refine Ok.batch 1 [(2, .pointer (some ⟨bs2, 0, none⟩)), (3, .pointer (some ⟨bs3, 0, none⟩)), (6, .pointer (some ⟨bs2, 0, none⟩))] (by kernel_rfl) ?_
  refine Ok.op rfl (OpOk.step (v := .int .i64 xf.1) (Yields.load 1 rfl rfl Tryz.underlying3 rfl (by kernel_rfl)) rfl rfl ?_)
  refine Ok.batch 1 [(2, .pointer (some ⟨bs2, 0, none⟩)), (3, .pointer (some ⟨bs3, 0, none⟩)), (8, .bool (xf.1 == 1))] (by kernel_rfl) ?_
  refine Ok.nil ?_
  refine Ok.thenN ?_
  refine Ok.cond (b := (xf.1 == 1)) rfl (fun hc3 => ?_) (fun hc3 => ?_)
  · replace hF := hF.1 hc3
    refine Ok.seq ?_
    refine Ok.region ?_
    refine Ok.batch 2 [(4, .bool true), (5, .bool true)] (by kernel_rfl) ?_
    refine Ok.nil ?_
    refine Ok.thenN ?_
    refine Ok.ret ?_
    refine Ok.thenR ?_
    exact Ok.resP (vs := [.bool true, .bool true]) [] [] (by decide) rfl (.inl rfl) rfl (.cons (.tmp rfl) (.cons (.tmp rfl) .nil)) (Gext.refl w0 g) ⟨true, true, rfl, rfl, hF⟩
  · replace hF := hF.2 hc3
    refine Ok.skip ?_
    refine Ok.thenN ?_
    refine Ok.seq ?_
    refine Ok.seq ?_
    refine Ok.region ?_
    refine Ok.batch 1 [(2, .pointer (some ⟨bs2, 0, none⟩)), (3, .pointer (some ⟨bs3, 0, none⟩)), (9, .pointer (some ⟨bs2, 0, none⟩))] (by kernel_rfl) ?_
    refine Ok.op rfl (OpOk.step (v := .int .i64 xf.1) (Yields.load 1 rfl rfl Tryz.underlying3 rfl (by kernel_rfl)) rfl rfl ?_)
    refine Ok.batch 1 [(2, .pointer (some ⟨bs2, 0, none⟩)), (3, .pointer (some ⟨bs3, 0, none⟩)), (11, .bool (xf.1 == 2))] (by kernel_rfl) ?_
    refine Ok.nil ?_
    refine Ok.thenN ?_
    refine Ok.cond (b := (xf.1 == 2)) rfl (fun hc4 => ?_) (fun hc4 => ?_)
    · replace hF := hF.1 hc4
      refine Ok.seq ?_
      refine Ok.region ?_
      refine Ok.batch 1 [(12, .pointer (some ⟨bs3, 3, none⟩))] (by kernel_rfl) ?_
      refine Ok.op rfl (OpOk.step (v := .bool xe.2.2.2) (Yields.load 0 rfl rfl Tryz.underlying4 rfl (by kernel_rfl)) rfl rfl ?_)
      refine Ok.batch 3 [(4, .bool (!xe.2.2.2)), (5, .bool true)] (by kernel_rfl) ?_
      refine Ok.nil ?_
      refine Ok.thenN ?_
      refine Ok.ret ?_
      refine Ok.thenR ?_
      exact Ok.resP (vs := [.bool (!xe.2.2.2), .bool true]) [] [] (by decide) rfl (.inl rfl) rfl (.cons (.tmp rfl) (.cons (.tmp rfl) .nil)) (Gext.refl w0 g) ⟨(!xe.2.2.2), true, rfl, rfl, hF⟩
    · replace hF := hF.2 hc4
      refine Ok.skip ?_
      refine Ok.thenN ?_
      refine Ok.seq ?_
      refine Ok.seq ?_
      refine Ok.region ?_
      refine Ok.batch 1 [(2, .pointer (some ⟨bs2, 0, none⟩)), (3, .pointer (some ⟨bs3, 0, none⟩)), (15, .pointer (some ⟨bs2, 0, none⟩))] (by kernel_rfl) ?_
      refine Ok.op rfl (OpOk.step (v := .int .i64 xf.1) (Yields.load 1 rfl rfl Tryz.underlying3 rfl (by kernel_rfl)) rfl rfl ?_)
      refine Ok.batch 1 [(2, .pointer (some ⟨bs2, 0, none⟩)), (3, .pointer (some ⟨bs3, 0, none⟩)), (17, .bool (xf.1 == 3))] (by kernel_rfl) ?_
      refine Ok.nil ?_
      refine Ok.thenN ?_
      refine Ok.cond (b := (xf.1 == 3)) rfl (fun hc5 => ?_) (fun hc5 => ?_)
      · replace hF := hF.1 hc5
        refine Ok.seq ?_
        refine Ok.region ?_
        refine Ok.batch 1 [(18, .pointer (some ⟨bs3, 3, none⟩))] (by kernel_rfl) ?_
        refine Ok.op rfl (OpOk.step (v := .bool xe.2.2.2) (Yields.load 0 rfl rfl Tryz.underlying4 rfl (by kernel_rfl)) rfl rfl ?_)
        refine Ok.batch 2 [(4, .bool xe.2.2.2), (5, .bool true)] (by kernel_rfl) ?_
        refine Ok.nil ?_
        refine Ok.thenN ?_
        refine Ok.ret ?_
        refine Ok.thenR ?_
        exact Ok.resP (vs := [.bool xe.2.2.2, .bool true]) [] [] (by decide) rfl (.inl rfl) rfl (.cons (.tmp rfl) (.cons (.tmp rfl) .nil)) (Gext.refl w0 g) ⟨xe.2.2.2, true, rfl, rfl, hF⟩
      · replace hF := hF.2 hc5
        refine Ok.skip ?_
        refine Ok.thenN ?_
        refine Ok.seq ?_
        refine Ok.seq ?_
        refine Ok.region ?_
        refine Ok.batch 1 [(2, .pointer (some ⟨bs2, 0, none⟩)), (3, .pointer (some ⟨bs3, 0, none⟩)), (20, .pointer (some ⟨bs2, 0, none⟩))] (by kernel_rfl) ?_
        refine Ok.op rfl (OpOk.step (v := .int .i64 xf.1) (Yields.load 1 rfl rfl Tryz.underlying3 rfl (by kernel_rfl)) rfl rfl ?_)
        refine Ok.batch 1 [(2, .pointer (some ⟨bs2, 0, none⟩)), (3, .pointer (some ⟨bs3, 0, none⟩)), (22, .bool (xf.1 == 4))] (by kernel_rfl) ?_
        refine Ok.nil ?_
        refine Ok.thenN ?_
        refine Ok.cond (b := (xf.1 == 4)) rfl (fun hc6 => ?_) (fun hc6 => ?_)
        · replace hF := hF.1 hc6
          refine Ok.seq ?_
          refine Ok.region ?_
          refine Ok.batch 1 [(2, .pointer (some ⟨bs2, 0, none⟩)), (23, .pointer (some ⟨bs3, 0, none⟩))] (by kernel_rfl) ?_
          refine Ok.op rfl (OpOk.step (v := .int .i64 xe.1) (Yields.load 0 rfl rfl Tryz.underlying3 rfl (by kernel_rfl)) rfl rfl ?_)
          refine Ok.batch 1 [(24, .int .i64 xe.1), (25, .pointer (some ⟨bs2, 1, none⟩))] (by kernel_rfl) ?_
          refine Ok.op rfl (OpOk.step (v := .int .i64 xf.2) (Yields.load 1 rfl rfl Tryz.underlying3 rfl (by kernel_rfl)) rfl rfl ?_)
          refine Ok.batch 3 [(4, .bool (decide (xe.1 ≥ xf.2))), (5, .bool true)] (by kernel_rfl) ?_
          refine Ok.nil ?_
          refine Ok.thenN ?_
          refine Ok.ret ?_
          refine Ok.thenR ?_
          exact Ok.resP (vs := [.bool (decide (xe.1 ≥ xf.2)), .bool true]) [] [] (by decide) rfl (.inl rfl) rfl (.cons (.tmp rfl) (.cons (.tmp rfl) .nil)) (Gext.refl w0 g) ⟨(decide (xe.1 ≥ xf.2)), true, rfl, rfl, hF⟩
        · replace hF := hF.2 hc6
          refine Ok.skip ?_
          refine Ok.thenN ?_
          refine Ok.seq ?_
          refine Ok.seq ?_
          refine Ok.region ?_
          refine Ok.batch 1 [(2, .pointer (some ⟨bs2, 0, none⟩)), (3, .pointer (some ⟨bs3, 0, none⟩)), (28, .pointer (some ⟨bs2, 0, none⟩))] (by kernel_rfl) ?_
          refine Ok.op rfl (OpOk.step (v := .int .i64 xf.1) (Yields.load 1 rfl rfl Tryz.underlying3 rfl (by kernel_rfl)) rfl rfl ?_)
          refine Ok.batch 1 [(2, .pointer (some ⟨bs2, 0, none⟩)), (3, .pointer (some ⟨bs3, 0, none⟩)), (30, .bool (xf.1 == 5))] (by kernel_rfl) ?_
          refine Ok.nil ?_
          refine Ok.thenN ?_
          refine Ok.cond (b := (xf.1 == 5)) rfl (fun hc7 => ?_) (fun hc7 => ?_)
          · replace hF := hF.1 hc7
            refine Ok.seq ?_
            refine Ok.region ?_
            refine Ok.batch 1 [(2, .pointer (some ⟨bs2, 0, none⟩)), (31, .pointer (some ⟨bs3, 0, none⟩))] (by kernel_rfl) ?_
            refine Ok.op rfl (OpOk.step (v := .int .i64 xe.1) (Yields.load 0 rfl rfl Tryz.underlying3 rfl (by kernel_rfl)) rfl rfl ?_)
            refine Ok.batch 1 [(32, .int .i64 xe.1), (33, .pointer (some ⟨bs2, 1, none⟩))] (by kernel_rfl) ?_
            refine Ok.op rfl (OpOk.step (v := .int .i64 xf.2) (Yields.load 1 rfl rfl Tryz.underlying3 rfl (by kernel_rfl)) rfl rfl ?_)
            refine Ok.batch 3 [(4, .bool (decide (xe.1 ≤ xf.2))), (5, .bool true)] (by kernel_rfl) ?_
            refine Ok.nil ?_
            refine Ok.thenN ?_
            refine Ok.ret ?_
            refine Ok.thenR ?_
            exact Ok.resP (vs := [.bool (decide (xe.1 ≤ xf.2)), .bool true]) [] [] (by decide) rfl (.inl rfl) rfl (.cons (.tmp rfl) (.cons (.tmp rfl) .nil)) (Gext.refl w0 g) ⟨(decide (xe.1 ≤ xf.2)), true, rfl, rfl, hF⟩
          · replace hF := hF.2 hc7
            refine Ok.skip ?_
            refine Ok.thenN ?_
            refine Ok.seq ?_
            refine Ok.seq ?_
            refine Ok.region ?_
            refine Ok.batch 1 [(2, .pointer (some ⟨bs2, 0, none⟩)), (3, .pointer (some ⟨bs3, 0, none⟩)), (36, .pointer (some ⟨bs2, 0, none⟩))] (by kernel_rfl) ?_
            refine Ok.op rfl (OpOk.step (v := .int .i64 xf.1) (Yields.load 1 rfl rfl Tryz.underlying3 rfl (by kernel_rfl)) rfl rfl ?_)
            refine Ok.batch 1 [(2, .pointer (some ⟨bs2, 0, none⟩)), (3, .pointer (some ⟨bs3, 0, none⟩)), (38, .bool (xf.1 == 6))] (by kernel_rfl) ?_
            refine Ok.nil ?_
            refine Ok.thenN ?_
            refine Ok.cond (b := (xf.1 == 6)) rfl (fun hc8 => ?_) (fun hc8 => ?_)
            · replace hF := hF.1 hc8
              refine Ok.seq ?_
              refine Ok.region ?_
              refine Ok.batch 1 [(2, .pointer (some ⟨bs2, 0, none⟩)), (39, .pointer (some ⟨bs3, 1, none⟩))] (by kernel_rfl) ?_
              refine Ok.op rfl (OpOk.step (v := .int .i64 xe.2.1) (Yields.load 0 rfl rfl Tryz.underlying3 rfl (by kernel_rfl)) rfl rfl ?_)
              refine Ok.batch 1 [(40, .int .i64 xe.2.1), (41, .pointer (some ⟨bs2, 1, none⟩))] (by kernel_rfl) ?_
              refine Ok.op rfl (OpOk.step (v := .int .i64 xf.2) (Yields.load 1 rfl rfl Tryz.underlying3 rfl (by kernel_rfl)) rfl rfl ?_)
              refine Ok.batch 3 [(4, .bool (decide (xe.2.1 ≥ xf.2))), (5, .bool true)] (by kernel_rfl) ?_
              refine Ok.nil ?_
              refine Ok.thenN ?_
              refine Ok.ret ?_
              refine Ok.thenR ?_
              exact Ok.resP (vs := [.bool (decide (xe.2.1 ≥ xf.2)), .bool true]) [] [] (by decide) rfl (.inl rfl) rfl (.cons (.tmp rfl) (.cons (.tmp rfl) .nil)) (Gext.refl w0 g) ⟨(decide (xe.2.1 ≥ xf.2)), true, rfl, rfl, hF⟩
            · replace hF := hF.2 hc8
              refine Ok.skip ?_
              refine Ok.thenN ?_
              refine Ok.seq ?_
              refine Ok.seq ?_
              refine Ok.region ?_
              refine Ok.batch 1 [(2, .pointer (some ⟨bs2, 0, none⟩)), (3, .pointer (some ⟨bs3, 0, none⟩)), (44, .pointer (some ⟨bs2, 0, none⟩))] (by kernel_rfl) ?_
              refine Ok.op rfl (OpOk.step (v := .int .i64 xf.1) (Yields.load 1 rfl rfl Tryz.underlying3 rfl (by kernel_rfl)) rfl rfl ?_)
              refine Ok.batch 1 [(2, .pointer (some ⟨bs2, 0, none⟩)), (3, .pointer (some ⟨bs3, 0, none⟩)), (46, .bool (xf.1 == 7))] (by kernel_rfl) ?_
              refine Ok.nil ?_
              refine Ok.thenN ?_
              refine Ok.cond (b := (xf.1 == 7)) rfl (fun hc9 => ?_) (fun hc9 => ?_)
              · replace hF := hF.1 hc9
                refine Ok.seq ?_
                refine Ok.region ?_
                refine Ok.batch 1 [(2, .pointer (some ⟨bs2, 0, none⟩)), (47, .pointer (some ⟨bs3, 1, none⟩))] (by kernel_rfl) ?_
                refine Ok.op rfl (OpOk.step (v := .int .i64 xe.2.1) (Yields.load 0 rfl rfl Tryz.underlying3 rfl (by kernel_rfl)) rfl rfl ?_)
                refine Ok.batch 1 [(48, .int .i64 xe.2.1), (49, .pointer (some ⟨bs2, 1, none⟩))] (by kernel_rfl) ?_
                refine Ok.op rfl (OpOk.step (v := .int .i64 xf.2) (Yields.load 1 rfl rfl Tryz.underlying3 rfl (by kernel_rfl)) rfl rfl ?_)
                refine Ok.batch 3 [(4, .bool (decide (xe.2.1 ≤ xf.2))), (5, .bool true)] (by kernel_rfl) ?_
                refine Ok.nil ?_
                refine Ok.thenN ?_
                refine Ok.ret ?_
                refine Ok.thenR ?_
                exact Ok.resP (vs := [.bool (decide (xe.2.1 ≤ xf.2)), .bool true]) [] [] (by decide) rfl (.inl rfl) rfl (.cons (.tmp rfl) (.cons (.tmp rfl) .nil)) (Gext.refl w0 g) ⟨(decide (xe.2.1 ≤ xf.2)), true, rfl, rfl, hF⟩
              · replace hF := hF.2 hc9
                refine Ok.skip ?_
                refine Ok.thenN ?_
                refine Ok.seq ?_
                refine Ok.seq ?_
                refine Ok.region ?_
                refine Ok.batch 1 [(2, .pointer (some ⟨bs2, 0, none⟩)), (3, .pointer (some ⟨bs3, 0, none⟩)), (52, .pointer (some ⟨bs2, 0, none⟩))] (by kernel_rfl) ?_
                refine Ok.op rfl (OpOk.step (v := .int .i64 xf.1) (Yields.load 1 rfl rfl Tryz.underlying3 rfl (by kernel_rfl)) rfl rfl ?_)
                refine Ok.batch 1 [(2, .pointer (some ⟨bs2, 0, none⟩)), (3, .pointer (some ⟨bs3, 0, none⟩)), (54, .bool (xf.1 == 8))] (by kernel_rfl) ?_
                refine Ok.nil ?_
                refine Ok.thenN ?_
                refine Ok.cond (b := (xf.1 == 8)) rfl (fun hc10 => ?_) (fun hc10 => ?_)
                · replace hF := hF.1 hc10
                  refine Ok.seq ?_
                  refine Ok.region ?_
                  refine Ok.batch 1 [(55, .pointer (some ⟨bs3, 2, none⟩))] (by kernel_rfl) ?_
                  refine Ok.op rfl (OpOk.step (v := .bool xe.2.2.1) (Yields.load 0 rfl rfl Tryz.underlying4 rfl (by kernel_rfl)) rfl rfl ?_)
                  refine Ok.batch 2 [(4, .bool xe.2.2.1), (5, .bool true)] (by kernel_rfl) ?_
                  refine Ok.nil ?_
                  refine Ok.thenN ?_
                  refine Ok.ret ?_
                  refine Ok.thenR ?_
                  exact Ok.resP (vs := [.bool xe.2.2.1, .bool true]) [] [] (by decide) rfl (.inl rfl) rfl (.cons (.tmp rfl) (.cons (.tmp rfl) .nil)) (Gext.refl w0 g) ⟨xe.2.2.1, true, rfl, rfl, hF⟩
                · replace hF := hF.2 hc10
                  refine Ok.skip ?_
                  refine Ok.thenN ?_
                  refine Ok.seq ?_
                  refine Ok.seq ?_
                  refine Ok.region ?_
                  refine Ok.batch 1 [(2, .pointer (some ⟨bs2, 0, none⟩)), (3, .pointer (some ⟨bs3, 0, none⟩)), (57, .pointer (some ⟨bs2, 0, none⟩))] (by kernel_rfl) ?_
                  refine Ok.op rfl (OpOk.step (v := .int .i64 xf.1) (Yields.load 1 rfl rfl Tryz.underlying3 rfl (by kernel_rfl)) rfl rfl ?_)
                  refine Ok.batch 1 [(2, .pointer (some ⟨bs2, 0, none⟩)), (3, .pointer (some ⟨bs3, 0, none⟩)), (59, .bool (xf.1 == 9))] (by kernel_rfl) ?_
                  refine Ok.nil ?_
                  refine Ok.thenN ?_
                  refine Ok.cond (b := (xf.1 == 9)) rfl (fun hc11 => ?_) (fun hc11 => ?_)
                  · replace hF := hF.1 hc11
                    refine Ok.seq ?_
                    refine Ok.region ?_
                    refine Ok.batch 1 [(60, .pointer (some ⟨bs3, 2, none⟩))] (by kernel_rfl) ?_
                    refine Ok.op rfl (OpOk.step (v := .bool xe.2.2.1) (Yields.load 0 rfl rfl Tryz.underlying4 rfl (by kernel_rfl)) rfl rfl ?_)
                    refine Ok.batch 3 [(4, .bool (!xe.2.2.1)), (5, .bool true)] (by kernel_rfl) ?_
                    refine Ok.nil ?_
                    refine Ok.thenN ?_
                    refine Ok.ret ?_
                    refine Ok.thenR ?_
                    exact Ok.resP (vs := [.bool (!xe.2.2.1), .bool true]) [] [] (by decide) rfl (.inl rfl) rfl (.cons (.tmp rfl) (.cons (.tmp rfl) .nil)) (Gext.refl w0 g) ⟨(!xe.2.2.1), true, rfl, rfl, hF⟩
                  · replace hF := hF.2 hc11
                    refine Ok.skip ?_
                    refine Ok.thenN ?_
                    refine Ok.seq ?_
                    refine Ok.seq ?_
                    refine Ok.region ?_
                    refine Ok.batch 1 [(2, .pointer (some ⟨bs2, 0, none⟩)), (3, .pointer (some ⟨bs3, 0, none⟩)), (63, .pointer (some ⟨bs2, 0, none⟩))] (by kernel_rfl) ?_
                    refine Ok.op rfl (OpOk.step (v := .int .i64 xf.1) (Yields.load 1 rfl rfl Tryz.underlying3 rfl (by kernel_rfl)) rfl rfl ?_)
                    refine Ok.batch 1 [(2, .pointer (some ⟨bs2, 0, none⟩)), (3, .pointer (some ⟨bs3, 0, none⟩)), (65, .bool (xf.1 == 10))] (by kernel_rfl) ?_
                    refine Ok.nil ?_
                    refine Ok.thenN ?_
                    refine Ok.cond (b := (xf.1 == 10)) rfl (fun hc12 => ?_) (fun hc12 => ?_)
                    · replace hF := hF.1 hc12
                      refine Ok.seq ?_
                      refine Ok.region ?_
                      refine Ok.batch 1 [(3, .pointer (some ⟨bs3, 0, none⟩)), (66, .pointer (some ⟨bs3, 1, none⟩))] (by kernel_rfl) ?_
                      refine Ok.op rfl (OpOk.step (v := .int .i64 xe.2.1) (Yields.load 0 rfl rfl Tryz.underlying3 rfl (by kernel_rfl)) rfl rfl ?_)
                      refine Ok.batch 1 [(67, .int .i64 xe.2.1), (68, .pointer (some ⟨bs3, 0, none⟩))] (by kernel_rfl) ?_
                      refine Ok.op rfl (OpOk.step (v := .int .i64 xe.1) (Yields.load 0 rfl rfl Tryz.underlying3 rfl (by kernel_rfl)) rfl rfl ?_)
                      refine Ok.batch 3 [(4, .bool (decide (xe.2.1 ≥ xe.1))), (5, .bool true)] (by kernel_rfl) ?_
                      refine Ok.nil ?_
                      refine Ok.thenN ?_
                      refine Ok.ret ?_
                      refine Ok.thenR ?_
                      exact Ok.resP (vs := [.bool (decide (xe.2.1 ≥ xe.1)), .bool true]) [] [] (by decide) rfl (.inl rfl) rfl (.cons (.tmp rfl) (.cons (.tmp rfl) .nil)) (Gext.refl w0 g) ⟨(decide (xe.2.1 ≥ xe.1)), true, rfl, rfl, hF⟩
                    · replace hF := hF.2 hc12
                      refine Ok.skip ?_
                      refine Ok.thenN ?_
                      refine Ok.seq ?_
                      refine Ok.seq ?_
                      refine Ok.region ?_
                      refine Ok.batch 1 [(3, .pointer (some ⟨bs3, 0, none⟩)), (71, .pointer (some ⟨bs2, 0, none⟩))] (by kernel_rfl) ?_
                      refine Ok.op rfl (OpOk.step (v := .int .i64 xf.1) (Yields.load 1 rfl rfl Tryz.underlying3 rfl (by kernel_rfl)) rfl rfl ?_)
                      refine Ok.batch 1 [(3, .pointer (some ⟨bs3, 0, none⟩)), (73, .bool (xf.1 == 11))] (by kernel_rfl) ?_
                      refine Ok.nil ?_
                      refine Ok.thenN ?_
                      refine Ok.cond (b := (xf.1 == 11)) rfl (fun hc13 => ?_) (fun hc13 => ?_)
                      · replace hF := hF.1 hc13
                        refine Ok.seq ?_
                        refine Ok.region ?_
                        refine Ok.batch 1 [(3, .pointer (some ⟨bs3, 0, none⟩)), (74, .pointer (some ⟨bs3, 1, none⟩))] (by kernel_rfl) ?_
                        refine Ok.op rfl (OpOk.step (v := .int .i64 xe.2.1) (Yields.load 0 rfl rfl Tryz.underlying3 rfl (by kernel_rfl)) rfl rfl ?_)
                        refine Ok.batch 1 [(75, .int .i64 xe.2.1), (76, .pointer (some ⟨bs3, 0, none⟩))] (by kernel_rfl) ?_
                        refine Ok.op rfl (OpOk.step (v := .int .i64 xe.1) (Yields.load 0 rfl rfl Tryz.underlying3 rfl (by kernel_rfl)) rfl rfl ?_)
                        refine Ok.batch 3 [(4, .bool (decide (xe.2.1 < xe.1))), (5, .bool true)] (by kernel_rfl) ?_
                        refine Ok.nil ?_
                        refine Ok.thenN ?_
                        refine Ok.ret ?_
                        refine Ok.thenR ?_
                        exact Ok.resP (vs := [.bool (decide (xe.2.1 < xe.1)), .bool true]) [] [] (by decide) rfl (.inl rfl) rfl (.cons (.tmp rfl) (.cons (.tmp rfl) .nil)) (Gext.refl w0 g) ⟨(decide (xe.2.1 < xe.1)), true, rfl, rfl, hF⟩
                      · replace hF := hF.2 hc13
                        refine Ok.skip ?_
                        refine Ok.thenN ?_
                        refine Ok.seq ?_
                        refine Ok.region ?_
                        refine Ok.batch 2 [(4, .bool false), (5, .bool false)] (by kernel_rfl) ?_
                        refine Ok.nil ?_
                        refine Ok.thenN ?_
                        refine Ok.ret ?_
                        exact Ok.resP (vs := [.bool false, .bool false]) [] [] (by decide) rfl (.inl rfl) rfl (.cons (.tmp rfl) (.cons (.tmp rfl) .nil)) (Gext.refl w0 g) ⟨false, false, rfl, rfl, hF⟩
def rfsM (xf : Int × Int) (xe : Int × Int × Bool × Bool) : Bool × Bool := (if (xf.1 == 1) = true then (true, true) else (if (xf.1 == 2) = true then (!xe.2.2.2, true) else (if (xf.1 == 3) = true then (xe.2.2.2, true) else (if (xf.1 == 4) = true then (decide (xe.1 ≥ xf.2), true) else (if (xf.1 == 5) = true then (decide (xe.1 ≤ xf.2), true) else (if (xf.1 == 6) = true then (decide (xe.2.1 ≥ xf.2), true) else (if (xf.1 == 7) = true then (decide (xe.2.1 ≤ xf.2), true) else (if (xf.1 == 8) = true then (xe.2.2.1, true) else (if (xf.1 == 9) = true then (!xe.2.2.1, true) else (if (xf.1 == 10) = true then (decide (xe.2.1 ≥ xe.1), true) else (if (xf.1 == 11) = true then (decide (xe.2.1 < xe.1), true) else (false, false))))))))))))
set_option linter.unusedSimpArgs false in
set_option linter.unusedVariables false in
theorem rfsF_A (xf : Int × Int) (xe : Int × Int × Bool × Bool) (P : Bool × Bool → Prop) (h : P (rfsM xf xe)) : rfsF xf xe (fun k0 k1 => P (k0, k1)) := by
  unfold rfsM at h
  unfold rfsF
  refine ⟨fun hc0 => ?_, fun hc0 => ?_⟩
  · rw [if_t hc0] at h
    have hd0 := hc0; try simp only [Bool.and_eq_true, Bool.or_eq_true, Bool.and_eq_false_iff, Bool.or_eq_false_iff, Bool.not_eq_true', Bool.not_eq_false', decide_eq_true_eq, decide_eq_false_iff_not, beq_iff_eq, beq_eq_false_iff_ne, ne_eq] at hd0
    exact h
  · rw [if_f hc0] at h
    have hd0 := hc0; try simp only [Bool.and_eq_true, Bool.or_eq_true, Bool.and_eq_false_iff, Bool.or_eq_false_iff, Bool.not_eq_true', Bool.not_eq_false', decide_eq_true_eq, decide_eq_false_iff_not, beq_iff_eq, beq_eq_false_iff_ne, ne_eq] at hd0
    refine ⟨fun hc1 => ?_, fun hc1 => ?_⟩
    · rw [if_t hc1] at h
      have hd1 := hc1; try simp only [Bool.and_eq_true, Bool.or_eq_true, Bool.and_eq_false_iff, Bool.or_eq_false_iff, Bool.not_eq_true', Bool.not_eq_false', decide_eq_true_eq, decide_eq_false_iff_not, beq_iff_eq, beq_eq_false_iff_ne, ne_eq] at hd1
      exact h
    · rw [if_f hc1] at h
      have hd1 := hc1; try simp only [Bool.and_eq_true, Bool.or_eq_true, Bool.and_eq_false_iff, Bool.or_eq_false_iff, Bool.not_eq_true', Bool.not_eq_false', decide_eq_true_eq, decide_eq_false_iff_not, beq_iff_eq, beq_eq_false_iff_ne, ne_eq] at hd1
      refine ⟨fun hc2 => ?_, fun hc2 => ?_⟩
      · rw [if_t hc2] at h
        have hd2 := hc2; try simp only [Bool.and_eq_true, Bool.or_eq_true, Bool.and_eq_false_iff, Bool.or_eq_false_iff, Bool.not_eq_true', Bool.not_eq_false', decide_eq_true_eq, decide_eq_false_iff_not, beq_iff_eq, beq_eq_false_iff_ne, ne_eq] at hd2
        exact h
      · rw [if_f hc2] at h
        have hd2 := hc2; try simp only [Bool.and_eq_true, Bool.or_eq_true, Bool.and_eq_false_iff, Bool.or_eq_false_iff, Bool.not_eq_true', Bool.not_eq_false', decide_eq_true_eq, decide_eq_false_iff_not, beq_iff_eq, beq_eq_false_iff_ne, ne_eq] at hd2
        refine ⟨fun hc3 => ?_, fun hc3 => ?_⟩
        · rw [if_t hc3] at h
          have hd3 := hc3; try simp only [Bool.and_eq_true, Bool.or_eq_true, Bool.and_eq_false_iff, Bool.or_eq_false_iff, Bool.not_eq_true', Bool.not_eq_false', decide_eq_true_eq, decide_eq_false_iff_not, beq_iff_eq, beq_eq_false_iff_ne, ne_eq] at hd3
          exact h
        · rw [if_f hc3] at h
          have hd3 := hc3; try simp only [Bool.and_eq_true, Bool.or_eq_true, Bool.and_eq_false_iff, Bool.or_eq_false_iff, Bool.not_eq_true', Bool.not_eq_false', decide_eq_true_eq, decide_eq_false_iff_not, beq_iff_eq, beq_eq_false_iff_ne, ne_eq] at hd3
          refine ⟨fun hc4 => ?_, fun hc4 => ?_⟩
          · rw [if_t hc4] at h
            have hd4 := hc4; try simp only [Bool.and_eq_true, Bool.or_eq_true, Bool.and_eq_false_iff, Bool.or_eq_false_iff, Bool.not_eq_true', Bool.not_eq_false', decide_eq_true_eq, decide_eq_false_iff_not, beq_iff_eq, beq_eq_false_iff_ne, ne_eq] at hd4
            exact h
          · rw [if_f hc4] at h
            have hd4 := hc4; try simp only [Bool.and_eq_true, Bool.or_eq_true, Bool.and_eq_false_iff, Bool.or_eq_false_iff, Bool.not_eq_true', Bool.not_eq_false', decide_eq_true_eq, decide_eq_false_iff_not, beq_iff_eq, beq_eq_false_iff_ne, ne_eq] at hd4
            refine ⟨fun hc5 => ?_, fun hc5 => ?_⟩
            · rw [if_t hc5] at h
              have hd5 := hc5; try simp only [Bool.and_eq_true, Bool.or_eq_true, Bool.and_eq_false_iff, Bool.or_eq_false_iff, Bool.not_eq_true', Bool.not_eq_false', decide_eq_true_eq, decide_eq_false_iff_not, beq_iff_eq, beq_eq_false_iff_ne, ne_eq] at hd5
              exact h
            · rw [if_f hc5] at h
              have hd5 := hc5; try simp only [Bool.and_eq_true, Bool.or_eq_true, Bool.and_eq_false_iff, Bool.or_eq_false_iff, Bool.not_eq_true', Bool.not_eq_false', decide_eq_true_eq, decide_eq_false_iff_not, beq_iff_eq, beq_eq_false_iff_ne, ne_eq] at hd5
              refine ⟨fun hc6 => ?_, fun hc6 => ?_⟩
              · rw [if_t hc6] at h
                have hd6 := hc6; try simp only [Bool.and_eq_true, Bool.or_eq_true, Bool.and_eq_false_iff, Bool.or_eq_false_iff, Bool.not_eq_true', Bool.not_eq_false', decide_eq_true_eq, decide_eq_false_iff_not, beq_iff_eq, beq_eq_false_iff_ne, ne_eq] at hd6
                exact h
              · rw [if_f hc6] at h
                have hd6 := hc6; try simp only [Bool.and_eq_true, Bool.or_eq_true, Bool.and_eq_false_iff, Bool.or_eq_false_iff, Bool.not_eq_true', Bool.not_eq_false', decide_eq_true_eq, decide_eq_false_iff_not, beq_iff_eq, beq_eq_false_iff_ne, ne_eq] at hd6
                refine ⟨fun hc7 => ?_, fun hc7 => ?_⟩
                · rw [if_t hc7] at h
                  have hd7 := hc7; try simp only [Bool.and_eq_true, Bool.or_eq_true, Bool.and_eq_false_iff, Bool.or_eq_false_iff, Bool.not_eq_true', Bool.not_eq_false', decide_eq_true_eq, decide_eq_false_iff_not, beq_iff_eq, beq_eq_false_iff_ne, ne_eq] at hd7
                  exact h
                · rw [if_f hc7] at h
                  have hd7 := hc7; try simp only [Bool.and_eq_true, Bool.or_eq_true, Bool.and_eq_false_iff, Bool.or_eq_false_iff, Bool.not_eq_true', Bool.not_eq_false', decide_eq_true_eq, decide_eq_false_iff_not, beq_iff_eq, beq_eq_false_iff_ne, ne_eq] at hd7
                  refine ⟨fun hc8 => ?_, fun hc8 => ?_⟩
                  · rw [if_t hc8] at h
                    have hd8 := hc8; try simp only [Bool.and_eq_true, Bool.or_eq_true, Bool.and_eq_false_iff, Bool.or_eq_false_iff, Bool.not_eq_true', Bool.not_eq_false', decide_eq_true_eq, decide_eq_false_iff_not, beq_iff_eq, beq_eq_false_iff_ne, ne_eq] at hd8
                    exact h
                  · rw [if_f hc8] at h
                    have hd8 := hc8; try simp only [Bool.and_eq_true, Bool.or_eq_true, Bool.and_eq_false_iff, Bool.or_eq_false_iff, Bool.not_eq_true', Bool.not_eq_false', decide_eq_true_eq, decide_eq_false_iff_not, beq_iff_eq, beq_eq_false_iff_ne, ne_eq] at hd8
                    refine ⟨fun hc9 => ?_, fun hc9 => ?_⟩
                    · rw [if_t hc9] at h
                      have hd9 := hc9; try simp only [Bool.and_eq_true, Bool.or_eq_true, Bool.and_eq_false_iff, Bool.or_eq_false_iff, Bool.not_eq_true', Bool.not_eq_false', decide_eq_true_eq, decide_eq_false_iff_not, beq_iff_eq, beq_eq_false_iff_ne, ne_eq] at hd9
                      exact h
                    · rw [if_f hc9] at h
                      have hd9 := hc9; try simp only [Bool.and_eq_true, Bool.or_eq_true, Bool.and_eq_false_iff, Bool.or_eq_false_iff, Bool.not_eq_true', Bool.not_eq_false', decide_eq_true_eq, decide_eq_false_iff_not, beq_iff_eq, beq_eq_false_iff_ne, ne_eq] at hd9
                      refine ⟨fun hc10 => ?_, fun hc10 => ?_⟩
                      · rw [if_t hc10] at h
                        have hd10 := hc10; try simp only [Bool.and_eq_true, Bool.or_eq_true, Bool.and_eq_false_iff, Bool.or_eq_false_iff, Bool.not_eq_true', Bool.not_eq_false', decide_eq_true_eq, decide_eq_false_iff_not, beq_iff_eq, beq_eq_false_iff_ne, ne_eq] at hd10
                        exact h
                      · rw [if_f hc10] at h
                        have hd10 := hc10; try simp only [Bool.and_eq_true, Bool.or_eq_true, Bool.and_eq_false_iff, Bool.or_eq_false_iff, Bool.not_eq_true', Bool.not_eq_false', decide_eq_true_eq, decide_eq_false_iff_not, beq_iff_eq, beq_eq_false_iff_ne, ne_eq] at hd10
                        exact h
theorem rfs_F (xf : Int × Int) (xe : Int × Int × Bool × Bool) : rfsF xf xe (fun k0 k1 => (k0, k1) = rfsM xf xe) :=
  rfsF_A xf xe (fun z => z = rfsM xf xe) rfl
set_option linter.unusedVariables false in
theorem rfs_c {g : Ghost} (xf : Int × Int) (xe : Int × Int × Bool × Bool)  : CallsG Tryz.prog 10 #[.agg #[.int .i64 xf.1, .int .i64 xf.2], .agg #[.int .i64 xe.1, .int .i64 xe.2.1, .bool xe.2.2.1, .bool xe.2.2.2]] g (.tuple #[.bool ((rfsM xf xe).1), .bool ((rfsM xf xe).2)]) :=
  (rfs_ok xf xe _ (rfs_F xf xe)).gives (by rintro g' H' v _ ⟨r0, r1, rfl, rfl, hK⟩; obtain ⟨rfl, rfl⟩ : r0 = (rfsM xf xe).1 ∧ r1 = (rfsM xf xe).2 := ⟨congrArg (fun z => z.1) hK, congrArg (fun z => z.2) hK⟩; rfl)
def rqhl11b (xq : Bool × List (Int × Int)) (xe : Int × Int × Bool × Bool) (K : Bool → Prop) (x5l11 : Bool) (x6l11 : Bool) (x7l11 : Int) (C11 : Bool → Bool → Int → Prop) : Prop :=
  ((decide (x7l11 < (xq.2.length : Int))) = true → (0 : Int) ≤ x7l11 ∧ Int.toNat x7l11 < xq.2.length ∧ C11 ((x5l11 && ((rfsM (xq.2.getD (Int.toNat x7l11) default) xe).1)) && ((rfsM (xq.2.getD (Int.toNat x7l11) default) xe).2)) (x6l11 || (((rfsM (xq.2.getD (Int.toNat x7l11) default) xe).2) && (!((rfsM (xq.2.getD (Int.toNat x7l11) default) xe).1)))) (IntKind.wrap .i64 (x7l11 + 1))) ∧ ((decide (x7l11 < (xq.2.length : Int))) = false → ((xq.1) = true → K x6l11) ∧ ((xq.1) = false → K x5l11))
def rqhl11 (xq : Bool × List (Int × Int)) (xe : Int × Int × Bool × Bool) (K : Bool → Prop) : Nat → Bool → Bool → Int → Prop
  | 0, _, _, _ => False
  | k + 1, x5l11, x6l11, x7l11 => rqhl11b xq xe K x5l11 x6l11 x7l11 (rqhl11 xq xe K k)
def rqhF (xq : Bool × List (Int × Int)) (xe : Int × Int × Bool × Bool) (K : Bool → Prop) : Prop :=
  ∃ k, rqhl11 xq xe K k true false 0
set_option maxHeartbeats 4000000 in
set_option maxRecDepth 100000 in
set_option linter.unusedVariables false in
theorem rqh_ok {g : Ghost} {axq_0 : Option Addr} {cxq_0 : Nat} (xq : Bool × List (Int × Int)) (xe : Int × Int × Bool × Bool) (hRxq_0 : Rep g (.slice (.pair (.int .i64) (.int .i64))) [.slice axq_0 xq.2.length cxq_0] xq.2) (K : Bool → Prop)
    (hF : rqhF xq xe K) : CallsH Tryz.prog 6 #[.agg #[.bool xq.1, .slice axq_0 xq.2.length cxq_0], .agg #[.int .i64 xe.1, .int .i64 xe.2.1, .bool xe.2.2.1, .bool xe.2.2.2]] g [] (fun g' H' v => ∃ (r0 : Bool), v = .bool r0 ∧ H' = [] ∧ K r0) := by
  refine CallsH.enter 46 [(0, .agg #[.bool xq.1, .slice axq_0 xq.2.length cxq_0]), (1, .agg #[.int .i64 xe.1, .int .i64 xe.2.1, .bool xe.2.2.1, .bool xe.2.2.2])] Tryz.func6 rfl (by kernel_rfl) (by kernel_rfl) (by kernel_rfl) fun w0 => ?_
  refine Ok.seq ?_
  refine Ok.region ?_
  refine Ok.op rfl (OpOk.box (v := .agg #[.bool xq.1, .slice axq_0 xq.2.length cxq_0]) (cs := #[.bool xq.1, .slice axq_0 xq.2.length cxq_0]) rfl (by kernel_rfl) rfl fun bs2 => ?_)
  refine Ok.op rfl (OpOk.box (v := .agg #[.int .i64 xe.1, .int .i64 xe.2.1, .bool xe.2.2.1, .bool xe.2.2.2]) (cs := #[.int .i64 xe.1, .int .i64 xe.2.1, .bool xe.2.2.1, .bool xe.2.2.2]) rfl (by kernel_rfl) rfl fun bs3 => ?_)
  refine Ok.batch 1 [(2, .pointer (some ⟨bs2, 0, none⟩)), (3, .pointer (some ⟨bs3, 0, none⟩))] (by kernel_rfl) ?_
  refine Ok.nil ?_
  refine Ok.thenN ?_
  refine Ok.seq ?_
  refine Ok.region ?_
  refine Ok.batch 1 [(2, .pointer (some ⟨bs2, 0, none⟩)), (3, .pointer (some ⟨bs3, 0, none⟩)), (5, .bool true)] (by kernel_rfl) ?_
  refine Ok.nil ?_
  refine Ok.thenN ?_
  refine Ok.seq ?_
  refine Ok.region ?_
  refine Ok.batch 1 [(2, .pointer (some ⟨bs2, 0, none⟩)), (3, .pointer (some ⟨bs3, 0, none⟩)), (5, .bool true), (6, .bool false)] (by kernel_rfl) ?_
  refine Ok.nil ?_
  refine Ok.thenN ?_
  refine Ok.seq ?_
  refine Ok.seq ?_
  refine Ok.region ?_
  refine Ok.batch 1 [(2, .pointer (some ⟨bs2, 0, none⟩)), (3, .pointer (some ⟨bs3, 0, none⟩)), (5, .bool true), (6, .bool false), (7, .int .i64 0)] (by kernel_rfl) ?_
  refine Ok.nil ?_
  refine Ok.thenN ?_
  refine Ok.block ?_
  obtain ⟨k, hF⟩ := hF
  refine Ok.loop (fun k a W => ∃ (x5l11 : Bool) (x6l11 : Bool) (x7l11 : Int), StA 46 [(2, .pointer (some ⟨bs2, 0, none⟩)), (3, .pointer (some ⟨bs3, 0, none⟩)), (5, .bool x5l11), (6, .bool x6l11), (7, .int .i64 x7l11)] a ∧ StW w0 [.blk bs3 (.cells #[.int .i64 xe.1, .int .i64 xe.2.1, .bool xe.2.2.1, .bool xe.2.2.2] 24), .blk bs2 (.cells #[.bool xq.1, .slice axq_0 xq.2.length cxq_0] 28)] g W ∧ rqhl11 xq xe K k x5l11 x6l11 x7l11) k ?_ ?_
  ·
    exact fun a W hA hW => ⟨true, false, 0, hA.sub (by kernel_rfl), hW, hF⟩
  ·
    clear hF
    rintro k11 a W ⟨x5l11, x6l11, x7l11, hA, hW, hF⟩
    cases k11 with
    | zero => exact (hF : False).elim
    | succ k11 =>
      refine (?_ : Ok _ _ _ _ _ _) a W hA hW
      clear hA hW
      refine Ok.seq ?_
      refine Ok.seq ?_
      refine Ok.region ?_
      refine Ok.batch 2 [(2, .pointer (some ⟨bs2, 0, none⟩)), (3, .pointer (some ⟨bs3, 0, none⟩)), (5, .bool x5l11), (6, .bool x6l11), (7, .int .i64 x7l11), (10, .int .i64 x7l11), (11, .pointer (some ⟨bs2, 1, none⟩))] (by kernel_rfl) ?_
      refine Ok.op rfl (OpOk.step (v := .slice axq_0 xq.2.length cxq_0) (Yields.load 1 rfl rfl Tryz.underlying26 rfl (by kernel_rfl)) rfl rfl ?_)
      refine Ok.batch 2 [(2, .pointer (some ⟨bs2, 0, none⟩)), (3, .pointer (some ⟨bs3, 0, none⟩)), (5, .bool x5l11), (6, .bool x6l11), (7, .int .i64 x7l11), (14, .bool (decide (x7l11 < (xq.2.length : Int))))] (by kernel_rfl) ?_
      refine Ok.nil ?_
      refine Ok.thenN ?_
      refine Ok.cond (b := decide (x7l11 < (xq.2.length : Int))) rfl (fun hc3 => ?_) (fun hc3 => ?_)
      · replace hF := hF.1 hc3
        refine Ok.skip ?_
        refine Ok.thenN ?_
        refine Ok.seq ?_
        refine Ok.block ?_
        refine Ok.seq ?_
        refine Ok.quiet' (by kernel_rfl) (by kernel_rfl) ?_
        refine OkQ.batch 1 [(2, .pointer (some ⟨bs2, 0, none⟩)), (3, .pointer (some ⟨bs3, 0, none⟩)), (5, .bool x5l11), (6, .bool x6l11), (7, .int .i64 x7l11), (18, .pointer (some ⟨bs2, 1, none⟩))] (by kernel_rfl) ?_
        refine OkQ.op rfl (OpQ.step (v := .slice axq_0 xq.2.length cxq_0) (Yields.load 1 rfl rfl Tryz.underlying26 rfl (by kernel_rfl)) rfl rfl ?_)
        refine OkQ.batch 1 [(2, .pointer (some ⟨bs2, 0, none⟩)), (3, .pointer (some ⟨bs3, 0, none⟩)), (5, .bool x5l11), (6, .bool x6l11), (7, .int .i64 x7l11), (19, .slice axq_0 xq.2.length cxq_0), (20, .int .i64 x7l11)] (by kernel_rfl) ?_
        obtain ⟨h05, h15, hF⟩ := hF
        have he5 := get_of (l := xq.2) (default : Int × Int) h15
        generalize hg5 : (xq.2.getD (Int.toNat x7l11) default) = e5 at he5 hF ⊢
        refine OkQ.op rfl (OpQ.indexRo (e := .pair (.int .i64) (.int .i64)) (i := x7l11) (el := e5) rfl rfl Tryz.underlying26 (by kernel_rfl) hRxq_0 h05 he5 rfl fun q4 o4 cs4 _ hat4 hr4 => ?_)
        obtain ⟨_, _, rfl, rfl, rfl⟩ := hr4
        replace hat4 : At g q4 o4 [.int .i64 e5.1, .int .i64 e5.2] := hat4
        refine OkQ.op rfl (OpQ.step (v := .agg #[.int .i64 e5.1, .int .i64 e5.2]) (Yields.loadAggRo 0 2 #[.int .i64 e5.1, .int .i64 e5.2] hat4 (by kernel_rfl) Tryz.underlying31 rfl (by kernel_rfl) (by kernel_rfl) (by kernel_rfl)) rfl rfl ?_)
        refine OkQ.op rfl (OpQ.step (v := .agg #[.int .i64 xe.1, .int .i64 xe.2.1, .bool xe.2.2.1, .bool xe.2.2.2]) (Yields.loadAgg 0 4 #[.int .i64 xe.1, .int .i64 xe.2.1, .bool xe.2.2.1, .bool xe.2.2.2] rfl rfl Tryz.underlying24 rfl (by kernel_rfl) (by kernel_rfl) (by kernel_rfl)) rfl rfl ?_)
        refine OkQ.op rfl (OpQ.callG (v := .tuple #[.bool ((rfsM e5 xe).1), .bool ((rfsM e5 xe).2)]) (enters (by kernel_rfl) (fun _ => by kernel_rfl)) (fun W hW => rfs_c e5 xe) rfl ?_)
        refine OkQ.batch 5 [(2, .pointer (some ⟨bs2, 0, none⟩)), (3, .pointer (some ⟨bs3, 0, none⟩)), (5, .bool x5l11), (6, .bool x6l11), (7, .int .i64 x7l11), (8, .bool ((rfsM e5 xe).1)), (9, .bool ((rfsM e5 xe).2))] (by kernel_rfl) ?_
        refine OkQ.nil ?_
        refine Ok.thenN ?_
        refine Ok.seq ?_
        refine Ok.region ?_
        refine Ok.batch 2 [(2, .pointer (some ⟨bs2, 0, none⟩)), (3, .pointer (some ⟨bs3, 0, none⟩)), (6, .bool x6l11), (7, .int .i64 x7l11), (8, .bool ((rfsM e5 xe).1)), (9, .bool ((rfsM e5 xe).2)), (28, .bool x5l11)] (by kernel_rfl) ?_
        refine Ok.midway 2 [(2, .pointer (some ⟨bs2, 0, none⟩)), (3, .pointer (some ⟨bs3, 0, none⟩)), (6, .bool x6l11), (7, .int .i64 x7l11), (8, .bool ((rfsM e5 xe).1)), (9, .bool ((rfsM e5 xe).2)), (30, .bool (x5l11 && ((rfsM e5 xe).1)))] (fun hR6 => ?_) ?_
        · refine Ok.boolAt 28 (x5l11) rfl (fun hc7 => ?_) (fun hc7 => ?_)
          · skip
            refine Ok.batch 2 [(2, .pointer (some ⟨bs2, 0, none⟩)), (3, .pointer (some ⟨bs3, 0, none⟩)), (6, .bool x6l11), (7, .int .i64 x7l11), (8, .bool ((rfsM e5 xe).1)), (9, .bool ((rfsM e5 xe).2)), (30, .bool ((rfsM e5 xe).1))] (by kernel_rfl) ?_
            refine Ok.reval 30 rfl (show (.bool ((rfsM e5 xe).1) : Value) = .bool (x5l11 && ((rfsM e5 xe).1)) from congrArg Value.bool (mand_t hc7)) ?_
            refine Ok.batch 0 [(2, .pointer (some ⟨bs2, 0, none⟩)), (3, .pointer (some ⟨bs3, 0, none⟩)), (6, .bool x6l11), (7, .int .i64 x7l11), (8, .bool ((rfsM e5 xe).1)), (9, .bool ((rfsM e5 xe).2)), (30, .bool (x5l11 && ((rfsM e5 xe).1)))] (by kernel_rfl) ?_
            exact hR6
          · skip
            refine Ok.batch 2 [(2, .pointer (some ⟨bs2, 0, none⟩)), (3, .pointer (some ⟨bs3, 0, none⟩)), (6, .bool x6l11), (7, .int .i64 x7l11), (8, .bool ((rfsM e5 xe).1)), (9, .bool ((rfsM e5 xe).2)), (30, .bool false)] (by kernel_rfl) ?_
            refine Ok.reval 30 rfl (show (.bool false : Value) = .bool (x5l11 && ((rfsM e5 xe).1)) from congrArg Value.bool (mand_f hc7)) ?_
            refine Ok.batch 0 [(2, .pointer (some ⟨bs2, 0, none⟩)), (3, .pointer (some ⟨bs3, 0, none⟩)), (6, .bool x6l11), (7, .int .i64 x7l11), (8, .bool ((rfsM e5 xe).1)), (9, .bool ((rfsM e5 xe).2)), (30, .bool (x5l11 && ((rfsM e5 xe).1)))] (by kernel_rfl) ?_
            exact hR6
        refine Ok.batch 1 [(2, .pointer (some ⟨bs2, 0, none⟩)), (3, .pointer (some ⟨bs3, 0, none⟩)), (6, .bool x6l11), (7, .int .i64 x7l11), (8, .bool ((rfsM e5 xe).1)), (9, .bool ((rfsM e5 xe).2)), (31, .bool (x5l11 && ((rfsM e5 xe).1)))] (by kernel_rfl) ?_
        refine Ok.midway 2 [(2, .pointer (some ⟨bs2, 0, none⟩)), (3, .pointer (some ⟨bs3, 0, none⟩)), (6, .bool x6l11), (7, .int .i64 x7l11), (8, .bool ((rfsM e5 xe).1)), (9, .bool ((rfsM e5 xe).2)), (33, .bool ((x5l11 && ((rfsM e5 xe).1)) && ((rfsM e5 xe).2)))] (fun hR8 => ?_) ?_
        · refine Ok.boolAt 31 ((x5l11 && ((rfsM e5 xe).1))) rfl (fun hc9 => ?_) (fun hc9 => ?_)
          · skip
            refine Ok.batch 2 [(2, .pointer (some ⟨bs2, 0, none⟩)), (3, .pointer (some ⟨bs3, 0, none⟩)), (6, .bool x6l11), (7, .int .i64 x7l11), (8, .bool ((rfsM e5 xe).1)), (9, .bool ((rfsM e5 xe).2)), (33, .bool ((rfsM e5 xe).2))] (by kernel_rfl) ?_
            refine Ok.reval 33 rfl (show (.bool ((rfsM e5 xe).2) : Value) = .bool ((x5l11 && ((rfsM e5 xe).1)) && ((rfsM e5 xe).2)) from congrArg Value.bool (mand_t hc9)) ?_
            refine Ok.batch 0 [(2, .pointer (some ⟨bs2, 0, none⟩)), (3, .pointer (some ⟨bs3, 0, none⟩)), (6, .bool x6l11), (7, .int .i64 x7l11), (8, .bool ((rfsM e5 xe).1)), (9, .bool ((rfsM e5 xe).2)), (33, .bool ((x5l11 && ((rfsM e5 xe).1)) && ((rfsM e5 xe).2)))] (by kernel_rfl) ?_
            exact hR8
          · skip
            refine Ok.batch 2 [(2, .pointer (some ⟨bs2, 0, none⟩)), (3, .pointer (some ⟨bs3, 0, none⟩)), (6, .bool x6l11), (7, .int .i64 x7l11), (8, .bool ((rfsM e5 xe).1)), (9, .bool ((rfsM e5 xe).2)), (33, .bool false)] (by kernel_rfl) ?_
            refine Ok.reval 33 rfl (show (.bool false : Value) = .bool ((x5l11 && ((rfsM e5 xe).1)) && ((rfsM e5 xe).2)) from congrArg Value.bool (mand_f hc9)) ?_
            refine Ok.batch 0 [(2, .pointer (some ⟨bs2, 0, none⟩)), (3, .pointer (some ⟨bs3, 0, none⟩)), (6, .bool x6l11), (7, .int .i64 x7l11), (8, .bool ((rfsM e5 xe).1)), (9, .bool ((rfsM e5 xe).2)), (33, .bool ((x5l11 && ((rfsM e5 xe).1)) && ((rfsM e5 xe).2)))] (by kernel_rfl) ?_
            exact hR8
        refine Ok.batch 1 [(2, .pointer (some ⟨bs2, 0, none⟩)), (3, .pointer (some ⟨bs3, 0, none⟩)), (5, .bool ((x5l11 && ((rfsM e5 xe).1)) && ((rfsM e5 xe).2))), (6, .bool x6l11), (7, .int .i64 x7l11), (8, .bool ((rfsM e5 xe).1)), (9, .bool ((rfsM e5 xe).2))] (by kernel_rfl) ?_
        refine Ok.nil ?_
        refine Ok.thenN ?_
        refine Ok.region ?_
        refine Ok.batch 2 [(2, .pointer (some ⟨bs2, 0, none⟩)), (3, .pointer (some ⟨bs3, 0, none⟩)), (5, .bool ((x5l11 && ((rfsM e5 xe).1)) && ((rfsM e5 xe).2))), (7, .int .i64 x7l11), (8, .bool ((rfsM e5 xe).1)), (9, .bool ((rfsM e5 xe).2)), (35, .bool x6l11)] (by kernel_rfl) ?_
        refine Ok.midway 6 [(2, .pointer (some ⟨bs2, 0, none⟩)), (3, .pointer (some ⟨bs3, 0, none⟩)), (5, .bool ((x5l11 && ((rfsM e5 xe).1)) && ((rfsM e5 xe).2))), (7, .int .i64 x7l11), (41, .bool (x6l11 || (((rfsM e5 xe).2) && (!((rfsM e5 xe).1)))))] (fun hR10 => ?_) ?_
        · refine Ok.boolAt 35 (x6l11) rfl (fun hc11 => ?_) (fun hc11 => ?_)
          · skip
            refine Ok.batch 6 [(2, .pointer (some ⟨bs2, 0, none⟩)), (3, .pointer (some ⟨bs3, 0, none⟩)), (5, .bool ((x5l11 && ((rfsM e5 xe).1)) && ((rfsM e5 xe).2))), (7, .int .i64 x7l11), (41, .bool true)] (by kernel_rfl) ?_
            refine Ok.reval 41 rfl (show (.bool true : Value) = .bool (x6l11 || (((rfsM e5 xe).2) && (!((rfsM e5 xe).1)))) from congrArg Value.bool (mor_t hc11)) ?_
            refine Ok.batch 0 [(2, .pointer (some ⟨bs2, 0, none⟩)), (3, .pointer (some ⟨bs3, 0, none⟩)), (5, .bool ((x5l11 && ((rfsM e5 xe).1)) && ((rfsM e5 xe).2))), (7, .int .i64 x7l11), (41, .bool (x6l11 || (((rfsM e5 xe).2) && (!((rfsM e5 xe).1)))))] (by kernel_rfl) ?_
            exact hR10
          · skip
            refine Ok.batch 2 [(2, .pointer (some ⟨bs2, 0, none⟩)), (3, .pointer (some ⟨bs3, 0, none⟩)), (5, .bool ((x5l11 && ((rfsM e5 xe).1)) && ((rfsM e5 xe).2))), (7, .int .i64 x7l11), (8, .bool ((rfsM e5 xe).1)), (35, .bool false), (37, .bool ((rfsM e5 xe).2))] (by kernel_rfl) ?_
            refine Ok.midway 3 [(2, .pointer (some ⟨bs2, 0, none⟩)), (3, .pointer (some ⟨bs3, 0, none⟩)), (5, .bool ((x5l11 && ((rfsM e5 xe).1)) && ((rfsM e5 xe).2))), (7, .int .i64 x7l11), (35, .bool false), (40, .bool (((rfsM e5 xe).2) && (!((rfsM e5 xe).1))))] (fun hR12 => ?_) ?_
            · refine Ok.boolAt 37 ((rfsM e5 xe).2) rfl (fun hc13 => ?_) (fun hc13 => ?_)
              · skip
                refine Ok.batch 3 [(2, .pointer (some ⟨bs2, 0, none⟩)), (3, .pointer (some ⟨bs3, 0, none⟩)), (5, .bool ((x5l11 && ((rfsM e5 xe).1)) && ((rfsM e5 xe).2))), (7, .int .i64 x7l11), (35, .bool false), (40, .bool (!((rfsM e5 xe).1)))] (by kernel_rfl) ?_
                refine Ok.reval 40 rfl (show (.bool (!((rfsM e5 xe).1)) : Value) = .bool (((rfsM e5 xe).2) && (!((rfsM e5 xe).1))) from congrArg Value.bool (mand_t hc13)) ?_
                refine Ok.batch 0 [(2, .pointer (some ⟨bs2, 0, none⟩)), (3, .pointer (some ⟨bs3, 0, none⟩)), (5, .bool ((x5l11 && ((rfsM e5 xe).1)) && ((rfsM e5 xe).2))), (7, .int .i64 x7l11), (35, .bool false), (40, .bool (((rfsM e5 xe).2) && (!((rfsM e5 xe).1))))] (by kernel_rfl) ?_
                exact hR12
              · skip
                refine Ok.batch 3 [(2, .pointer (some ⟨bs2, 0, none⟩)), (3, .pointer (some ⟨bs3, 0, none⟩)), (5, .bool ((x5l11 && ((rfsM e5 xe).1)) && ((rfsM e5 xe).2))), (7, .int .i64 x7l11), (35, .bool false), (40, .bool false)] (by kernel_rfl) ?_
                refine Ok.reval 40 rfl (show (.bool false : Value) = .bool (((rfsM e5 xe).2) && (!((rfsM e5 xe).1))) from congrArg Value.bool (mand_f hc13)) ?_
                refine Ok.batch 0 [(2, .pointer (some ⟨bs2, 0, none⟩)), (3, .pointer (some ⟨bs3, 0, none⟩)), (5, .bool ((x5l11 && ((rfsM e5 xe).1)) && ((rfsM e5 xe).2))), (7, .int .i64 x7l11), (35, .bool false), (40, .bool (((rfsM e5 xe).2) && (!((rfsM e5 xe).1))))] (by kernel_rfl) ?_
                exact hR12
            refine Ok.batch 1 [(2, .pointer (some ⟨bs2, 0, none⟩)), (3, .pointer (some ⟨bs3, 0, none⟩)), (5, .bool ((x5l11 && ((rfsM e5 xe).1)) && ((rfsM e5 xe).2))), (7, .int .i64 x7l11), (41, .bool (((rfsM e5 xe).2) && (!((rfsM e5 xe).1))))] (by kernel_rfl) ?_
            refine Ok.reval 41 rfl (show (.bool (((rfsM e5 xe).2) && (!((rfsM e5 xe).1))) : Value) = .bool (x6l11 || (((rfsM e5 xe).2) && (!((rfsM e5 xe).1)))) from congrArg Value.bool (mor_f hc11)) ?_
            refine Ok.batch 0 [(2, .pointer (some ⟨bs2, 0, none⟩)), (3, .pointer (some ⟨bs3, 0, none⟩)), (5, .bool ((x5l11 && ((rfsM e5 xe).1)) && ((rfsM e5 xe).2))), (7, .int .i64 x7l11), (41, .bool (x6l11 || (((rfsM e5 xe).2) && (!((rfsM e5 xe).1)))))] (by kernel_rfl) ?_
            exact hR10
        refine Ok.batch 1 [(2, .pointer (some ⟨bs2, 0, none⟩)), (3, .pointer (some ⟨bs3, 0, none⟩)), (5, .bool ((x5l11 && ((rfsM e5 xe).1)) && ((rfsM e5 xe).2))), (6, .bool (x6l11 || (((rfsM e5 xe).2) && (!((rfsM e5 xe).1))))), (7, .int .i64 x7l11)] (by kernel_rfl) ?_
        refine Ok.nil ?_
        refine Ok.blockN ?_
        refine Ok.thenN ?_
        refine Ok.region ?_
        refine Ok.batch 3 [(2, .pointer (some ⟨bs2, 0, none⟩)), (3, .pointer (some ⟨bs3, 0, none⟩)), (5, .bool ((x5l11 && ((rfsM e5 xe).1)) && ((rfsM e5 xe).2))), (6, .bool (x6l11 || (((rfsM e5 xe).2) && (!((rfsM e5 xe).1))))), (7, .int .i64 (IntKind.wrap .i64 (x7l11 + 1)))] (by kernel_rfl) ?_
        refine Ok.nil ?_
        refine Ok.thenN ?_
        subst hg5
        exact fun a W hA hW => ⟨k11, Nat.lt_succ_self _, ((x5l11 && ((rfsM (xq.2.getD (Int.toNat x7l11) default) xe).1)) && ((rfsM (xq.2.getD (Int.toNat x7l11) default) xe).2)), (x6l11 || (((rfsM (xq.2.getD (Int.toNat x7l11) default) xe).2) && (!((rfsM (xq.2.getD (Int.toNat x7l11) default) xe).1)))), IntKind.wrap .i64 (x7l11 + 1), hA.sub (by kernel_rfl), hW, hF⟩
      · replace hF := hF.2 hc3
        refine Ok.exit ?_
        refine Ok.thenE ?_
        refine Ok.thenE ?_
        refine Ok.blockHit ?_
        refine Ok.thenN ?_
        refine Ok.seq ?_
        refine Ok.seq ?_
        refine Ok.region ?_
        refine Ok.batch 1 [(5, .bool x5l11), (6, .bool x6l11), (42, .pointer (some ⟨bs2, 0, none⟩))] (by kernel_rfl) ?_
        refine Ok.op rfl (OpOk.step (v := .bool xq.1) (Yields.load 1 rfl rfl Tryz.underlying4 rfl (by kernel_rfl)) rfl rfl ?_)
        refine Ok.nil ?_
        refine Ok.thenN ?_
        refine Ok.cond (b := xq.1) rfl (fun hc14 => ?_) (fun hc14 => ?_)
        · replace hF := hF.1 hc14
          refine Ok.seq ?_
          refine Ok.region ?_
          refine Ok.batch 2 [(4, .bool x6l11)] (by kernel_rfl) ?_
          refine Ok.nil ?_
          refine Ok.thenN ?_
          refine Ok.ret ?_
          refine Ok.thenR ?_
          exact Ok.resP (vs := [.bool x6l11]) [] [] (by decide) rfl (.inl rfl) rfl (.cons (.tmp rfl) .nil) (Gext.refl w0 g) ⟨x6l11, rfl, rfl, hF⟩
        · replace hF := hF.2 hc14
          refine Ok.skip ?_
          refine Ok.thenN ?_
          refine Ok.seq ?_
          refine Ok.region ?_
          refine Ok.batch 2 [(4, .bool x5l11)] (by kernel_rfl) ?_
          refine Ok.nil ?_
          refine Ok.thenN ?_
          refine Ok.ret ?_
          exact Ok.resP (vs := [.bool x5l11]) [] [] (by decide) rfl (.inl rfl) rfl (.cons (.tmp rfl) .nil) (Gext.refl w0 g) ⟨x5l11, rfl, rfl, hF⟩
def rqA (e : En) (a : Bool) (f : Int × Int) : Bool := (a && (rfsM f e).1) && (rfsM f e).2
def rqB (e : En) (b : Bool) (f : Int × Int) : Bool := b || ((rfsM f e).2 && (!((rfsM f e).1)))
def rqhS (q : Qu) (e : En) : Bool := if q.1 = true then q.2.foldl (rqB e) false else q.2.foldl (rqA e) true
def rqhP (q : Qu) (_ : En) : Prop := q.2.length ≤ 1048576
theorem rqh_F (q : Qu) (e : En) (hp : rqhP q e) : rqhF q e (fun r => r = rqhS q e) := by
  unfold rqhP at hp
  have loop : ∀ (k i : Nat) (a b : Bool), i + k = q.2.length → q.2.foldl (rqA e) true = (q.2.drop i).foldl (rqA e) a → q.2.foldl (rqB e) false = (q.2.drop i).foldl (rqB e) b → rqhl11 q e (fun r => r = rqhS q e) (k + 1) a b (i : Int) := by
    intro k
    induction k with
    | zero =>
      intro i a b h ha hb
      rw [List.drop_of_length_le (by omega)] at ha hb
      refine ⟨fun hc => absurd (of_decide_eq_true hc) (by omega), fun _ => ⟨fun h1 => ?_, fun h1 => ?_⟩⟩
      · unfold rqhS; rw [if_t h1, hb]; rfl
      · unfold rqhS; rw [if_f h1, ha]; rfl
    | succ k ih =>
      intro i a b h ha hb
      have hi : i < q.2.length := by omega
      rw [drop_get (l := q.2) default hi, List.foldl_cons] at ha hb
      refine ⟨fun _ => ⟨by omega, by rw [Int.toNat_natCast]; exact hi, ?_⟩, fun hc => absurd (of_decide_eq_false hc) (by omega)⟩
      rw [Int.toNat_natCast, w64 (by omega), show (i : Int) + 1 = ((i + 1 : Nat) : Int) by omega]
      exact ih (i + 1) _ _ (by omega) ha hb
  exact ⟨_, loop q.2.length 0 true false (by omega) (by rw [List.drop_zero]) (by rw [List.drop_zero])⟩
set_option linter.unusedVariables false in
theorem rqh_c {g : Ghost} {axq_0 : Option Addr} {cxq_0 : Nat} (xq : Bool × List (Int × Int)) (xe : Int × Int × Bool × Bool) (hRxq_0 : Rep g (.slice (.pair (.int .i64) (.int .i64))) [.slice axq_0 xq.2.length cxq_0] xq.2)  (hp : rqhP xq xe) : CallsG Tryz.prog 6 #[.agg #[.bool xq.1, .slice axq_0 xq.2.length cxq_0], .agg #[.int .i64 xe.1, .int .i64 xe.2.1, .bool xe.2.2.1, .bool xe.2.2.2]] g (.bool (rqhS xq xe)) :=
  (rqh_ok xq xe hRxq_0 _ (rqh_F xq xe hp)).gives (by rintro g' H' v _ ⟨r0, rfl, rfl, hK⟩; subst hK; rfl)
/-- three answers, and two -/
theorem so_eq (f : Int × Int) (e : En) : msoM f e = if (rfsM f e).2 = true then (if (rfsM f e).1 = true then 1 else -1) else 0 := by
  unfold msoM msoj5M msoV0 rfsM
  by_cases h1 : f.1 = 1
  · simp [h1]
  by_cases h2 : f.1 = 2
  · simp [h2]
  by_cases h3 : f.1 = 3
  · simp [h3]
  by_cases h4 : f.1 = 4
  · simp [h4]
  by_cases h5 : f.1 = 5
  · simp [h5]
  by_cases h6 : f.1 = 6
  · simp [h6]
  by_cases h7 : f.1 = 7
  · simp [h7]
  by_cases h8 : f.1 = 8
  · simp [h8]
  by_cases h9 : f.1 = 9
  · simp [h9]
  by_cases h10 : f.1 = 10
  · simp [h10]
  by_cases h11 : f.1 = 11
  · simp [h11]
  simp [h1, h2, h3, h4, h5, h6, h7, h8, h9, h10, h11]
def Rel3 (n : Int) (a b : Bool) : Prop := (n = 1 ∧ a = true ∧ b = false) ∨ (n = 0 ∧ a = false ∧ b = false) ∨ (n = -1 ∧ a = false ∧ b = true)
theorem rel_step {n : Int} {a b : Bool} (h : Rel3 n a b) (f : Int × Int) (e : En) : Rel3 (allStep e n f) (rqA e a f) (rqB e b f) := by
  unfold allStep rqA rqB
  rw [so_eq]
  unfold Rel3 at h ⊢
  cases (rfsM f e).1 <;> cases (rfsM f e).2 <;> rcases h with ⟨rfl, rfl, rfl⟩ | ⟨rfl, rfl, rfl⟩ | ⟨rfl, rfl, rfl⟩ <;> simp
theorem rel_all (e : En) : ∀ (l : List (Int × Int)) (n : Int) (a b : Bool), Rel3 n a b → Rel3 (l.foldl (allStep e) n) (l.foldl (rqA e) a) (l.foldl (rqB e) b)
  | [], _, _, _, h => h
  | f :: l, n, a, b, h => rel_all e l _ _ _ (rel_step h f e)
theorem all_holds (q : Qu) (e : En) : (allS q e == 1) = rqhS q e := by
  have h := rel_all e q.2 1 true false (.inl ⟨rfl, rfl, rfl⟩)
  unfold allS rqhS
  generalize q.2.foldl (allStep e) 1 = n at h ⊢
  generalize q.2.foldl (rqA e) true = a at h ⊢
  generalize q.2.foldl (rqB e) false = b at h ⊢
  cases q.1 <;> rcases h with ⟨rfl, rfl, rfl⟩ | ⟨rfl, rfl, rfl⟩ | ⟨rfl, rfl, rfl⟩ <;> rfl
theorem env_not (e : En) : mhoV0 e = !(renvM e) := by
  show mhoV0 e = !(renvV0 e)
  unfold mhoV0 renvV0
  rw [Bool.eq_iff_iff]
  simp only [Bool.or_eq_true, decide_eq_true_eq, Bool.not_eq_true', Bool.and_eq_false_iff, decide_eq_false_iff_not]
  omega
def rgtV0 (xf : Int × Int) : Bool :=
  ((decide (xf.1 ≥ 1)) && ((decide (xf.1 ≤ 12)) && (if ((decide (xf.1 ≥ 4)) && (decide (xf.1 ≤ 7))) = true then (if (decide (xf.2 ≥ 0)) = true then ((decide (xf.2 ≤ 1000000)) || ((!((decide (xf.1 ≥ 4)) && (decide (xf.1 ≤ 7)))) && (xf.2 == 0))) else ((!((decide (xf.1 ≥ 4)) && (decide (xf.1 ≤ 7)))) && (xf.2 == 0))) else ((!((decide (xf.1 ≥ 4)) && (decide (xf.1 ≤ 7)))) && (xf.2 == 0)))))
def rgtj5 (xf : Int × Int) (K : Bool → Prop) : Prop :=
  K (rgtV0 xf)
def rgtj3 (xf : Int × Int) (K : Bool → Prop) : Prop :=
  ((decide (xf.1 ≥ 1)) = true → ((decide (xf.1 ≤ 12)) = true → ((((decide (xf.1 ≥ 4)) && (decide (xf.1 ≤ 7)))) = true → ((decide (xf.2 ≥ 0)) = true → ((decide (xf.2 ≤ 1000000)) = true → rgtj5 xf K) ∧ ((decide (xf.2 ≤ 1000000)) = false → ((!((decide (xf.1 ≥ 4)) && (decide (xf.1 ≤ 7)))) = true → rgtj5 xf K) ∧ ((!((decide (xf.1 ≥ 4)) && (decide (xf.1 ≤ 7)))) = false → rgtj5 xf K))) ∧ ((decide (xf.2 ≥ 0)) = false → ((!((decide (xf.1 ≥ 4)) && (decide (xf.1 ≤ 7)))) = true → rgtj5 xf K) ∧ ((!((decide (xf.1 ≥ 4)) && (decide (xf.1 ≤ 7)))) = false → rgtj5 xf K))) ∧ ((((decide (xf.1 ≥ 4)) && (decide (xf.1 ≤ 7)))) = false → ((!((decide (xf.1 ≥ 4)) && (decide (xf.1 ≤ 7)))) = true → rgtj5 xf K) ∧ ((!((decide (xf.1 ≥ 4)) && (decide (xf.1 ≤ 7)))) = false → rgtj5 xf K))) ∧ ((decide (xf.1 ≤ 12)) = false → rgtj5 xf K)) ∧ ((decide (xf.1 ≥ 1)) = false → rgtj5 xf K)
def rgtF (xf : Int × Int) (K : Bool → Prop) : Prop :=
  ((decide (xf.1 ≥ 4)) = true → rgtj3 xf K) ∧ ((decide (xf.1 ≥ 4)) = false → rgtj3 xf K)
set_option maxHeartbeats 4000000 in
set_option maxRecDepth 100000 in
set_option linter.unusedVariables false in
theorem rgt_ok {g : Ghost} (xf : Int × Int) (K : Bool → Prop)
    (hF : rgtF xf K) : CallsH Tryz.prog 5 #[.agg #[.int .i64 xf.1, .int .i64 xf.2]] g [] (fun g' H' v => ∃ (r0 : Bool), v = .bool r0 ∧ H' = [] ∧ K r0) := by
  refine CallsH.enter 42 [(0, .agg #[.int .i64 xf.1, .int .i64 xf.2])] Tryz.func5 rfl (by kernel_rfl) (by kernel_rfl) (by kernel_rfl) fun w0 => ?_
  refine Ok.seq ?_
  refine Ok.region ?_
  refine Ok.op rfl (OpOk.box (v := .agg #[.int .i64 xf.1, .int .i64 xf.2]) (cs := #[.int .i64 xf.1, .int .i64 xf.2]) rfl (by kernel_rfl) rfl fun bs1 => ?_)
  refine Ok.batch 1 [(1, .pointer (some ⟨bs1, 0, none⟩))] (by kernel_rfl) ?_
  refine Ok.nil ?_
  refine Ok.thenN ?_
  refine Ok.cut (fun a W => StA 42 [(1, .pointer (some ⟨bs1, 0, none⟩)), (3, .bool ((decide (xf.1 ≥ 4)) && (decide (xf.1 ≤ 7))))] a ∧ StW w0 [.blk bs1 (.cells #[.int .i64 xf.1, .int .i64 xf.2] 31)] g W ∧ rgtj3 xf K) ?_ ?_
  ·
    refine Ok.region ?_
    refine Ok.batch 1 [(1, .pointer (some ⟨bs1, 0, none⟩)), (4, .pointer (some ⟨bs1, 0, none⟩))] (by kernel_rfl) ?_
    refine Ok.op rfl (OpOk.step (v := .int .i64 xf.1) (Yields.load 0 rfl rfl Tryz.underlying3 rfl (by kernel_rfl)) rfl rfl ?_)
    refine Ok.batch 2 [(1, .pointer (some ⟨bs1, 0, none⟩)), (7, .bool (decide (xf.1 ≥ 4)))] (by kernel_rfl) ?_
    refine Ok.boolAt 7 (decide (xf.1 ≥ 4)) rfl (fun hc10 => ?_) (fun hc10 => ?_)
    · replace hF := hF.1 hc10
      refine Ok.batch 1 [(1, .pointer (some ⟨bs1, 0, none⟩)), (7, .bool true), (8, .pointer (some ⟨bs1, 0, none⟩))] (by kernel_rfl) ?_
      refine Ok.opYes (j := 3) (d := 7) (want := true) (b := true) rfl (by kernel_rfl) (by kernel_rfl) rfl (OpOk.step (v := .int .i64 xf.1) (Yields.load 0 rfl rfl Tryz.underlying3 rfl (by kernel_rfl)) rfl rfl ?_)
      refine Ok.batch 3 [(1, .pointer (some ⟨bs1, 0, none⟩)), (3, .bool (decide (xf.1 ≤ 7)))] (by kernel_rfl) ?_
      refine Ok.nil ?_
      refine Ok.thenN ?_
      refine Ok.reval 3 rfl (show (.bool (decide (xf.1 ≤ 7)) : Value) = .bool ((decide (xf.1 ≥ 4)) && (decide (xf.1 ≤ 7))) from congrArg (Value.bool) (mand_t hc10)) ?_
      exact fun a W hA hW => ⟨hA.sub (by kernel_rfl), hW, hF⟩
    · replace hF := hF.2 hc10
      refine Ok.batch 5 [(1, .pointer (some ⟨bs1, 0, none⟩)), (3, .bool false)] (by kernel_rfl) ?_
      refine Ok.nil ?_
      refine Ok.thenN ?_
      refine Ok.reval 3 rfl (show (.bool false : Value) = .bool ((decide (xf.1 ≥ 4)) && (decide (xf.1 ≤ 7))) from congrArg (Value.bool) (mand_f hc10)) ?_
      exact fun a W hA hW => ⟨hA.sub (by kernel_rfl), hW, hF⟩
  ·
    clear hF
    rintro a W ⟨hA, hW, hF⟩
    refine (?_ : Ok _ _ _ _ _ _) a W hA hW
    clear hA hW
    refine Ok.cut (fun a W => StA 42 [(2, .bool (rgtV0 xf))] a ∧ StW w0 [] g W ∧ rgtj5 xf K) ?_ ?_
    ·
      refine Ok.region ?_
      refine Ok.batch 1 [(1, .pointer (some ⟨bs1, 0, none⟩)), (3, .bool ((decide (xf.1 ≥ 4)) && (decide (xf.1 ≤ 7)))), (12, .pointer (some ⟨bs1, 0, none⟩))] (by kernel_rfl) ?_
      refine Ok.op rfl (OpOk.step (v := .int .i64 xf.1) (Yields.load 0 rfl rfl Tryz.underlying3 rfl (by kernel_rfl)) rfl rfl ?_)
      refine Ok.batch 2 [(1, .pointer (some ⟨bs1, 0, none⟩)), (3, .bool ((decide (xf.1 ≥ 4)) && (decide (xf.1 ≤ 7)))), (15, .bool (decide (xf.1 ≥ 1)))] (by kernel_rfl) ?_
      refine Ok.boolAt 15 (decide (xf.1 ≥ 1)) rfl (fun hc2 => ?_) (fun hc2 => ?_)
      · replace hF := hF.1 hc2
        refine Ok.batch 1 [(1, .pointer (some ⟨bs1, 0, none⟩)), (3, .bool ((decide (xf.1 ≥ 4)) && (decide (xf.1 ≤ 7)))), (15, .bool true), (16, .pointer (some ⟨bs1, 0, none⟩))] (by kernel_rfl) ?_
        refine Ok.opYes (j := 3) (d := 15) (want := true) (b := true) rfl (by kernel_rfl) (by kernel_rfl) rfl (OpOk.step (v := .int .i64 xf.1) (Yields.load 0 rfl rfl Tryz.underlying3 rfl (by kernel_rfl)) rfl rfl ?_)
        refine Ok.batch 3 [(1, .pointer (some ⟨bs1, 0, none⟩)), (3, .bool ((decide (xf.1 ≥ 4)) && (decide (xf.1 ≤ 7)))), (20, .bool (decide (xf.1 ≤ 12)))] (by kernel_rfl) ?_
        refine Ok.boolAt 20 (decide (xf.1 ≤ 12)) rfl (fun hc3 => ?_) (fun hc3 => ?_)
        · replace hF := hF.1 hc3
          refine Ok.batch 2 [(1, .pointer (some ⟨bs1, 0, none⟩)), (3, .bool ((decide (xf.1 ≥ 4)) && (decide (xf.1 ≤ 7)))), (20, .bool true), (22, .bool ((decide (xf.1 ≥ 4)) && (decide (xf.1 ≤ 7))))] (by kernel_rfl) ?_
          refine Ok.boolAt 22 (((decide (xf.1 ≥ 4)) && (decide (xf.1 ≤ 7)))) rfl (fun hc4 => ?_) (fun hc4 => ?_)
          · replace hF := hF.1 hc4
            refine Ok.batch 1 [(1, .pointer (some ⟨bs1, 0, none⟩)), (3, .bool ((decide (xf.1 ≥ 4)) && (decide (xf.1 ≤ 7)))), (20, .bool true), (22, .bool true), (23, .pointer (some ⟨bs1, 1, none⟩))] (by kernel_rfl) ?_
            refine Ok.opYes (j := 10) (d := 22) (want := true) (b := true) rfl (by kernel_rfl) (by kernel_rfl) rfl (OpOk.step (v := .int .i64 xf.2) (Yields.load 0 rfl rfl Tryz.underlying3 rfl (by kernel_rfl)) rfl rfl ?_)
            refine Ok.batch 3 [(1, .pointer (some ⟨bs1, 0, none⟩)), (3, .bool ((decide (xf.1 ≥ 4)) && (decide (xf.1 ≤ 7)))), (20, .bool true), (27, .bool (decide (xf.2 ≥ 0)))] (by kernel_rfl) ?_
            refine Ok.boolAt 27 (decide (xf.2 ≥ 0)) rfl (fun hc5 => ?_) (fun hc5 => ?_)
            · replace hF := hF.1 hc5
              refine Ok.batch 1 [(1, .pointer (some ⟨bs1, 0, none⟩)), (3, .bool ((decide (xf.1 ≥ 4)) && (decide (xf.1 ≤ 7)))), (20, .bool true), (27, .bool true), (28, .pointer (some ⟨bs1, 1, none⟩))] (by kernel_rfl) ?_
              refine Ok.opYes (j := 15) (d := 27) (want := true) (b := true) rfl (by kernel_rfl) (by kernel_rfl) rfl (OpOk.step (v := .int .i64 xf.2) (Yields.load 0 rfl rfl Tryz.underlying3 rfl (by kernel_rfl)) rfl rfl ?_)
              refine Ok.batch 3 [(1, .pointer (some ⟨bs1, 0, none⟩)), (3, .bool ((decide (xf.1 ≥ 4)) && (decide (xf.1 ≤ 7)))), (20, .bool true), (32, .bool (decide (xf.2 ≤ 1000000)))] (by kernel_rfl) ?_
              refine Ok.boolAt 32 (decide (xf.2 ≤ 1000000)) rfl (fun hc6 => ?_) (fun hc6 => ?_)
              · replace hF := hF.1 hc6
                refine Ok.batch 10 [(2, .bool true)] (by kernel_rfl) ?_
                refine Ok.nil ?_
                refine Ok.thenN ?_
                refine Ok.reval 2 rfl (show (.bool true : Value) = .bool (rgtV0 xf) from congrArg (Value.bool) ((Eq.trans ((Eq.trans ((Eq.trans ((Eq.trans (mor_t hc6) ((if_t hc5).symm))) ((if_t hc4).symm))) (mand_t hc3))) (mand_t hc2)))) ?_
                exact fun a W hA hW => ⟨hA.sub (by kernel_rfl), hW.sub (.cons _ .slnil), hF⟩
              · replace hF := hF.2 hc6
                refine Ok.batch 3 [(1, .pointer (some ⟨bs1, 0, none⟩)), (20, .bool true), (32, .bool false), (35, .bool (!((decide (xf.1 ≥ 4)) && (decide (xf.1 ≤ 7)))))] (by kernel_rfl) ?_
                refine Ok.boolAt 35 (!((decide (xf.1 ≥ 4)) && (decide (xf.1 ≤ 7)))) rfl (fun hc7 => ?_) (fun hc7 => ?_)
                · replace hF := hF.1 hc7
                  refine Ok.batch 1 [(20, .bool true), (32, .bool false), (35, .bool true), (36, .pointer (some ⟨bs1, 1, none⟩))] (by kernel_rfl) ?_
                  refine Ok.opYes (j := 23) (d := 35) (want := true) (b := true) rfl (by kernel_rfl) (by kernel_rfl) rfl (OpOk.step (v := .int .i64 xf.2) (Yields.load 0 rfl rfl Tryz.underlying3 rfl (by kernel_rfl)) rfl rfl ?_)
                  refine Ok.batch 5 [(2, .bool (xf.2 == 0))] (by kernel_rfl) ?_
                  refine Ok.nil ?_
                  refine Ok.thenN ?_
                  refine Ok.reval 2 rfl (show (.bool (xf.2 == 0) : Value) = .bool (rgtV0 xf) from congrArg (Value.bool) ((Eq.trans ((Eq.trans ((Eq.trans ((Eq.trans ((Eq.trans (mand_t hc7) (mor_f hc6))) ((if_t hc5).symm))) ((if_t hc4).symm))) (mand_t hc3))) (mand_t hc2)))) ?_
                  exact fun a W hA hW => ⟨hA.sub (by kernel_rfl), hW.sub (.cons _ .slnil), hF⟩
                · replace hF := hF.2 hc7
                  refine Ok.batch 7 [(2, .bool false)] (by kernel_rfl) ?_
                  refine Ok.nil ?_
                  refine Ok.thenN ?_
                  refine Ok.reval 2 rfl (show (.bool false : Value) = .bool (rgtV0 xf) from congrArg (Value.bool) ((Eq.trans ((Eq.trans ((Eq.trans ((Eq.trans ((Eq.trans (mand_f hc7) (mor_f hc6))) ((if_t hc5).symm))) ((if_t hc4).symm))) (mand_t hc3))) (mand_t hc2)))) ?_
                  exact fun a W hA hW => ⟨hA.sub (by kernel_rfl), hW.sub (.cons _ .slnil), hF⟩
            · replace hF := hF.2 hc5
              refine Ok.batch 8 [(1, .pointer (some ⟨bs1, 0, none⟩)), (20, .bool true), (32, .bool false), (35, .bool (!((decide (xf.1 ≥ 4)) && (decide (xf.1 ≤ 7)))))] (by kernel_rfl) ?_
              refine Ok.boolAt 35 (!((decide (xf.1 ≥ 4)) && (decide (xf.1 ≤ 7)))) rfl (fun hc8 => ?_) (fun hc8 => ?_)
              · replace hF := hF.1 hc8
                refine Ok.batch 1 [(20, .bool true), (32, .bool false), (35, .bool true), (36, .pointer (some ⟨bs1, 1, none⟩))] (by kernel_rfl) ?_
                refine Ok.opYes (j := 23) (d := 35) (want := true) (b := true) rfl (by kernel_rfl) (by kernel_rfl) rfl (OpOk.step (v := .int .i64 xf.2) (Yields.load 0 rfl rfl Tryz.underlying3 rfl (by kernel_rfl)) rfl rfl ?_)
                refine Ok.batch 5 [(2, .bool (xf.2 == 0))] (by kernel_rfl) ?_
                refine Ok.nil ?_
                refine Ok.thenN ?_
                refine Ok.reval 2 rfl (show (.bool (xf.2 == 0) : Value) = .bool (rgtV0 xf) from congrArg (Value.bool) ((Eq.trans ((Eq.trans ((Eq.trans ((Eq.trans (mand_t hc8) ((if_f hc5).symm))) ((if_t hc4).symm))) (mand_t hc3))) (mand_t hc2)))) ?_
                exact fun a W hA hW => ⟨hA.sub (by kernel_rfl), hW.sub (.cons _ .slnil), hF⟩
              · replace hF := hF.2 hc8
                refine Ok.batch 7 [(2, .bool false)] (by kernel_rfl) ?_
                refine Ok.nil ?_
                refine Ok.thenN ?_
                refine Ok.reval 2 rfl (show (.bool false : Value) = .bool (rgtV0 xf) from congrArg (Value.bool) ((Eq.trans ((Eq.trans ((Eq.trans ((Eq.trans (mand_f hc8) ((if_f hc5).symm))) ((if_t hc4).symm))) (mand_t hc3))) (mand_t hc2)))) ?_
                exact fun a W hA hW => ⟨hA.sub (by kernel_rfl), hW.sub (.cons _ .slnil), hF⟩
          · replace hF := hF.2 hc4
            refine Ok.batch 13 [(1, .pointer (some ⟨bs1, 0, none⟩)), (20, .bool true), (32, .bool false), (35, .bool (!((decide (xf.1 ≥ 4)) && (decide (xf.1 ≤ 7)))))] (by kernel_rfl) ?_
            refine Ok.boolAt 35 (!((decide (xf.1 ≥ 4)) && (decide (xf.1 ≤ 7)))) rfl (fun hc9 => ?_) (fun hc9 => ?_)
            · replace hF := hF.1 hc9
              refine Ok.batch 1 [(20, .bool true), (32, .bool false), (35, .bool true), (36, .pointer (some ⟨bs1, 1, none⟩))] (by kernel_rfl) ?_
              refine Ok.opYes (j := 23) (d := 35) (want := true) (b := true) rfl (by kernel_rfl) (by kernel_rfl) rfl (OpOk.step (v := .int .i64 xf.2) (Yields.load 0 rfl rfl Tryz.underlying3 rfl (by kernel_rfl)) rfl rfl ?_)
              refine Ok.batch 5 [(2, .bool (xf.2 == 0))] (by kernel_rfl) ?_
              refine Ok.nil ?_
              refine Ok.thenN ?_
              refine Ok.reval 2 rfl (show (.bool (xf.2 == 0) : Value) = .bool (rgtV0 xf) from congrArg (Value.bool) ((Eq.trans ((Eq.trans ((Eq.trans (mand_t hc9) ((if_f hc4).symm))) (mand_t hc3))) (mand_t hc2)))) ?_
              exact fun a W hA hW => ⟨hA.sub (by kernel_rfl), hW.sub (.cons _ .slnil), hF⟩
            · replace hF := hF.2 hc9
              refine Ok.batch 7 [(2, .bool false)] (by kernel_rfl) ?_
              refine Ok.nil ?_
              refine Ok.thenN ?_
              refine Ok.reval 2 rfl (show (.bool false : Value) = .bool (rgtV0 xf) from congrArg (Value.bool) ((Eq.trans ((Eq.trans ((Eq.trans (mand_f hc9) ((if_f hc4).symm))) (mand_t hc3))) (mand_t hc2)))) ?_
              exact fun a W hA hW => ⟨hA.sub (by kernel_rfl), hW.sub (.cons _ .slnil), hF⟩
        · replace hF := hF.2 hc3
          refine Ok.batch 22 [(2, .bool false)] (by kernel_rfl) ?_
          refine Ok.nil ?_
          refine Ok.thenN ?_
          refine Ok.reval 2 rfl (show (.bool false : Value) = .bool (rgtV0 xf) from congrArg (Value.bool) ((Eq.trans (mand_f hc3) (mand_t hc2)))) ?_
          exact fun a W hA hW => ⟨hA.sub (by kernel_rfl), hW.sub (.cons _ .slnil), hF⟩
      · replace hF := hF.2 hc2
        refine Ok.batch 27 [(2, .bool false)] (by kernel_rfl) ?_
        refine Ok.nil ?_
        refine Ok.thenN ?_
        refine Ok.reval 2 rfl (show (.bool false : Value) = .bool (rgtV0 xf) from congrArg (Value.bool) (mand_f hc2)) ?_
        exact fun a W hA hW => ⟨hA.sub (by kernel_rfl), hW.sub (.cons _ .slnil), hF⟩
    ·
      clear hF
      rintro a W ⟨hA, hW, hF⟩
      refine (?_ : Ok _ _ _ _ _ _) a W hA hW
      clear hA hW
      refine Ok.ret ?_
      exact Ok.resH (vs := [.bool (rgtV0 xf)]) (.inl rfl) rfl (.cons (.tmp rfl) .nil) (Gext.refl w0 g) ⟨(rgtV0 xf), rfl, rfl, hF⟩
def rgtj5M (xf : Int × Int) : Bool := (rgtV0 xf)
set_option linter.unusedSimpArgs false in
set_option linter.unusedVariables false in
theorem rgtj5_A (xf : Int × Int) (P : Bool → Prop) (h : P (rgtj5M xf)) : rgtj5 xf (fun k0 => P k0) := by
  unfold rgtj5M at h
  unfold rgtj5
  exact h
def rgtj3M (xf : Int × Int) : Bool := (rgtj5M xf)
set_option linter.unusedSimpArgs false in
set_option linter.unusedVariables false in
theorem rgtj3_A (xf : Int × Int) (P : Bool → Prop) (h : P (rgtj3M xf)) : rgtj3 xf (fun k0 => P k0) := by
  unfold rgtj3M at h
  unfold rgtj3
  refine ⟨fun hc0 => ?_, fun hc0 => ?_⟩
  · skip
    have hd0 := of_decide_eq_true hc0
    refine ⟨fun hc1 => ?_, fun hc1 => ?_⟩
    · skip
      have hd1 := of_decide_eq_true hc1
      refine ⟨fun hc2 => ?_, fun hc2 => ?_⟩
      · skip
        have hd2 := hc2; try simp only [Bool.and_eq_true, Bool.or_eq_true, Bool.and_eq_false_iff, Bool.or_eq_false_iff, Bool.not_eq_true', Bool.not_eq_false', decide_eq_true_eq, decide_eq_false_iff_not, beq_iff_eq, beq_eq_false_iff_ne, ne_eq] at hd2
        refine ⟨fun hc3 => ?_, fun hc3 => ?_⟩
        · skip
          have hd3 := of_decide_eq_true hc3
          refine ⟨fun hc4 => ?_, fun hc4 => ?_⟩
          · skip
            have hd4 := of_decide_eq_true hc4
            exact rgtj5_A xf _ h
          · skip
            have hd4 := of_decide_eq_false hc4
            refine ⟨fun hc5 => ?_, fun hc5 => ?_⟩
            · skip
              have hd5 := hc5; try simp only [Bool.and_eq_true, Bool.or_eq_true, Bool.and_eq_false_iff, Bool.or_eq_false_iff, Bool.not_eq_true', Bool.not_eq_false', decide_eq_true_eq, decide_eq_false_iff_not, beq_iff_eq, beq_eq_false_iff_ne, ne_eq] at hd5
              exact rgtj5_A xf _ h
            · skip
              have hd5 := hc5; try simp only [Bool.and_eq_true, Bool.or_eq_true, Bool.and_eq_false_iff, Bool.or_eq_false_iff, Bool.not_eq_true', Bool.not_eq_false', decide_eq_true_eq, decide_eq_false_iff_not, beq_iff_eq, beq_eq_false_iff_ne, ne_eq] at hd5
              exact rgtj5_A xf _ h
        · skip
          have hd3 := of_decide_eq_false hc3
          refine ⟨fun hc4 => ?_, fun hc4 => ?_⟩
          · skip
            have hd4 := hc4; try simp only [Bool.and_eq_true, Bool.or_eq_true, Bool.and_eq_false_iff, Bool.or_eq_false_iff, Bool.not_eq_true', Bool.not_eq_false', decide_eq_true_eq, decide_eq_false_iff_not, beq_iff_eq, beq_eq_false_iff_ne, ne_eq] at hd4
            exact rgtj5_A xf _ h
          · skip
            have hd4 := hc4; try simp only [Bool.and_eq_true, Bool.or_eq_true, Bool.and_eq_false_iff, Bool.or_eq_false_iff, Bool.not_eq_true', Bool.not_eq_false', decide_eq_true_eq, decide_eq_false_iff_not, beq_iff_eq, beq_eq_false_iff_ne, ne_eq] at hd4
            exact rgtj5_A xf _ h
      · skip
        have hd2 := hc2; try simp only [Bool.and_eq_true, Bool.or_eq_true, Bool.and_eq_false_iff, Bool.or_eq_false_iff, Bool.not_eq_true', Bool.not_eq_false', decide_eq_true_eq, decide_eq_false_iff_not, beq_iff_eq, beq_eq_false_iff_ne, ne_eq] at hd2
        refine ⟨fun hc3 => ?_, fun hc3 => ?_⟩
        · skip
          have hd3 := hc3; try simp only [Bool.and_eq_true, Bool.or_eq_true, Bool.and_eq_false_iff, Bool.or_eq_false_iff, Bool.not_eq_true', Bool.not_eq_false', decide_eq_true_eq, decide_eq_false_iff_not, beq_iff_eq, beq_eq_false_iff_ne, ne_eq] at hd3
          exact rgtj5_A xf _ h
        · skip
          have hd3 := hc3; try simp only [Bool.and_eq_true, Bool.or_eq_true, Bool.and_eq_false_iff, Bool.or_eq_false_iff, Bool.not_eq_true', Bool.not_eq_false', decide_eq_true_eq, decide_eq_false_iff_not, beq_iff_eq, beq_eq_false_iff_ne, ne_eq] at hd3
          exact rgtj5_A xf _ h
    · skip
      have hd1 := of_decide_eq_false hc1
      exact rgtj5_A xf _ h
  · skip
    have hd0 := of_decide_eq_false hc0
    exact rgtj5_A xf _ h
def rgtM (xf : Int × Int) : Bool := (rgtj3M xf)
set_option linter.unusedSimpArgs false in
set_option linter.unusedVariables false in
theorem rgtF_A (xf : Int × Int) (P : Bool → Prop) (h : P (rgtM xf)) : rgtF xf (fun k0 => P k0) := by
  unfold rgtM at h
  unfold rgtF
  refine ⟨fun hc0 => ?_, fun hc0 => ?_⟩
  · skip
    have hd0 := of_decide_eq_true hc0
    exact rgtj3_A xf _ h
  · skip
    have hd0 := of_decide_eq_false hc0
    exact rgtj3_A xf _ h
theorem rgt_F (xf : Int × Int) : rgtF xf (fun k0 => k0 = rgtM xf) :=
  rgtF_A xf (fun z => z = rgtM xf) rfl
set_option linter.unusedVariables false in
theorem rgt_c {g : Ghost} (xf : Int × Int)  : CallsG Tryz.prog 5 #[.agg #[.int .i64 xf.1, .int .i64 xf.2]] g (.bool (rgtM xf)) :=
  (rgt_ok xf _ (rgt_F xf)).gives (by rintro g' H' v _ ⟨r0, rfl, rfl, hK⟩; subst hK; rfl)
theorem right_of {f : Int × Int} (h : rgtM f = true) : rightF f := by
  have h : rgtV0 f = true := h
  unfold rgtV0 at h
  simp only [Bool.and_eq_true, decide_eq_true_eq] at h
  obtain ⟨h1, h2, h3⟩ := h
  refine ⟨h1, h2, ?_⟩
  by_cases h4 : f.1 ≥ 4 ∧ f.1 ≤ 7
  · rw [if_pos h4] at h3
    by_cases h5 : f.2 ≥ 0
    · rw [if_pos h5, Bool.or_eq_true, decide_eq_true_eq] at h3
      rcases h3 with h3 | h3
      · exact .inl ⟨h4, h5, h3⟩
      · simp only [Bool.and_eq_true, Bool.not_eq_true', Bool.and_eq_false_iff, decide_eq_false_iff_not] at h3
        omega
    · rw [if_neg h5] at h3
      simp only [Bool.and_eq_true, Bool.not_eq_true', Bool.and_eq_false_iff, decide_eq_false_iff_not] at h3
      omega
  · rw [if_neg h4] at h3
    simp only [Bool.and_eq_true, beq_iff_eq] at h3
    exact .inr ⟨h4, h3.2⟩
theorem hold_told {l : List Qu} (hq : ∀ q ∈ l, rightQ q) (hl : (textS l).length ≤ 400) (e : En) : readP (textS l) ∧ holdS (textS l) e = if (!(renvM e)) = true then (false, 1) else (l.isEmpty || l.any (fun q => rqhS q e), 0) := by
  by_cases h0 : l = []
  · subst h0
    have hp : readP (textS []) := fun _ => ⟨⟨by decide, by decide⟩, ⟨by decide, by decide⟩⟩
    refine ⟨hp, ?_⟩
    unfold holdS
    rw [show readS (textS []) = ([(false, [(1, 0)])], 0) from rfl, env_not]
    show (if (!(renvM e)) = true then _ else (([(false, [(1, 0)])] : List Qu).any (fun q => allS q e == 1), 0)) = _
    rw [List.any_cons, List.any_nil, all_holds]
    rfl
  · obtain ⟨c1, c2, c3⟩ := read_told h0 hq hl
    refine ⟨fun _ => ⟨c1, c2⟩, ?_⟩
    unfold holdS
    rw [c3, env_not]
    have e1 : l.isEmpty = false := by cases l with
      | nil => exact absurd rfl h0
      | cons _ _ => rfl
    show (if (!(renvM e)) = true then _ else (l.any (fun q => allS q e == 1), 0)) = _
    rw [e1, Bool.false_or, show (fun q : Qu => allS q e == 1) = (fun q => rqhS q e) from funext fun q => all_holds q e]
theorem hold_long {l : List Qu} (hl : 400 < (textS l).length) (e : En) : readP (textS l) ∧ holdS (textS l) e = (false, 2) := by
  refine ⟨fun h => absurd h (by omega), ?_⟩
  unfold holdS readS
  rw [if_t (decide_eq_true (by omega))]
  rfl
def lmhj18 (x6j18 : Bool) (x7l11 : Int) (C11 : Bool → Int → Prop) : Prop :=
  C11 x6j18 (IntKind.wrap .i64 (x7l11 + 1))
def lmhl24b (xl : List (Bool × List (Int × Int))) (xenv : Int × Int × Bool × Bool) (K : Bool → Prop) (x6l11 : Bool) (x7l11 : Int) (C11 : Bool → Int → Prop) (x8l24 : Int) (C24 : Int → Prop) : Prop :=
  (0 : Int) ≤ x7l11 ∧ Int.toNat x7l11 < xl.length ∧ ((decide (x8l24 < ((xl.getD (Int.toNat x7l11) default).2.length : Int))) = true → (0 : Int) ≤ x8l24 ∧ Int.toNat x8l24 < (xl.getD (Int.toNat x7l11) default).2.length ∧ ((!(rgtM ((xl.getD (Int.toNat x7l11) default).2.getD (Int.toNat x8l24) default))) = true → K true) ∧ ((!(rgtM ((xl.getD (Int.toNat x7l11) default).2.getD (Int.toNat x8l24) default))) = false → C24 (IntKind.wrap .i64 (x8l24 + 1)))) ∧ ((decide (x8l24 < ((xl.getD (Int.toNat x7l11) default).2.length : Int))) = false → (((((xl.getD (Int.toNat x7l11) default).2.length : Int) == 0)) = true → K true) ∧ (((((xl.getD (Int.toNat x7l11) default).2.length : Int) == 0)) = false → ((x6l11) = true → lmhj18 true x7l11 C11) ∧ ((x6l11) = false → rqhP (xl.getD (Int.toNat x7l11) default) xenv ∧ lmhj18 (rqhS (xl.getD (Int.toNat x7l11) default) xenv) x7l11 C11)))
def lmhl24 (xl : List (Bool × List (Int × Int))) (xenv : Int × Int × Bool × Bool) (K : Bool → Prop) (x6l11 : Bool) (x7l11 : Int) (C11 : Bool → Int → Prop) : Nat → Int → Prop
  | 0, _ => False
  | k + 1, x8l24 => lmhl24b xl xenv K x6l11 x7l11 C11 x8l24 (lmhl24 xl xenv K x6l11 x7l11 C11 k)
def lmhl11b (xl : List (Bool × List (Int × Int))) (xenv : Int × Int × Bool × Bool) (K : Bool → Prop) (x6l11 : Bool) (x7l11 : Int) (C11 : Bool → Int → Prop) : Prop :=
  ((decide (x7l11 < (xl.length : Int))) = true → ∃ k, lmhl24 xl xenv K x6l11 x7l11 C11 k 0) ∧ ((decide (x7l11 < (xl.length : Int))) = false → textP xl ∧ holdP (textS xl) xenv ∧ ((decide (((textS xl).length : Int) > 400)) = true → K ((true && (!((holdS (textS xl) xenv).1))) && (((holdS (textS xl) xenv).2) == 2))) ∧ ((decide (((textS xl).length : Int) > 400)) = false → ((!(renvM xenv)) = true → K ((true && (!((holdS (textS xl) xenv).1))) && (((holdS (textS xl) xenv).2) == 1))) ∧ ((!(renvM xenv)) = false → K ((true && (((holdS (textS xl) xenv).2) == 0)) && ((holdS (textS xl) xenv).1 == x6l11)))))
def lmhl11 (xl : List (Bool × List (Int × Int))) (xenv : Int × Int × Bool × Bool) (K : Bool → Prop) : Nat → Bool → Int → Prop
  | 0, _, _ => False
  | k + 1, x6l11, x7l11 => lmhl11b xl xenv K x6l11 x7l11 (lmhl11 xl xenv K k)
def lmhF (xl : List (Bool × List (Int × Int))) (xenv : Int × Int × Bool × Bool) (K : Bool → Prop) : Prop :=
  ∃ k, lmhl11 xl xenv K k ((xl.length : Int) == 0) 0
set_option maxHeartbeats 4000000 in
set_option maxRecDepth 100000 in
set_option linter.unusedVariables false in
theorem lmh_ok {g : Ghost} {axl_0 : Option Addr} {cxl_0 : Nat} (xl : List (Bool × List (Int × Int))) (xenv : Int × Int × Bool × Bool) (hRxl_0 : Rep g (.slice (.pair (.bool) (.slice (.pair (.int .i64) (.int .i64))))) [.slice axl_0 xl.length cxl_0] xl) (hG0 : GlobL g 0 (.str) DWords) (hG1 : SomeInt g 1) (hG2 : SomeIf g 2) (hG3 : SomeIf g 3) (K : Bool → Prop)
    (hF : lmhF xl xenv K) : CallsH Tryz.prog 3 #[.slice axl_0 xl.length cxl_0, .agg #[.int .i64 xenv.1, .int .i64 xenv.2.1, .bool xenv.2.2.1, .bool xenv.2.2.2]] g [] (fun g' H' v => ∃ (r0 : Bool), v = .bool r0 ∧ H' = [] ∧ K r0) := by
  refine CallsH.enter 102 [(0, .slice axl_0 xl.length cxl_0), (1, .agg #[.int .i64 xenv.1, .int .i64 xenv.2.1, .bool xenv.2.2.1, .bool xenv.2.2.2])] Tryz.func3 rfl (by kernel_rfl) (by kernel_rfl) (by kernel_rfl) fun w0 => ?_
  refine Ok.seq ?_
  refine Ok.region ?_
  refine Ok.op rfl (OpOk.box (v := .agg #[.int .i64 xenv.1, .int .i64 xenv.2.1, .bool xenv.2.2.1, .bool xenv.2.2.2]) (cs := #[.int .i64 xenv.1, .int .i64 xenv.2.1, .bool xenv.2.2.1, .bool xenv.2.2.2]) rfl (by kernel_rfl) rfl fun bs3 => ?_)
  refine Ok.batch 1 [(0, .slice axl_0 xl.length cxl_0), (3, .pointer (some ⟨bs3, 0, none⟩))] (by kernel_rfl) ?_
  refine Ok.nil ?_
  refine Ok.thenN ?_
  refine Ok.seq ?_
  refine Ok.region ?_
  refine Ok.op rfl (OpOk.callG (v := .bool true) (enters (by kernel_rfl) (fun _ => by kernel_rfl)) (fun W hW => wid_c  (hG0.mono hW.sees) (hG1.mono hW.sees) (hG2.mono hW.sees) (hG3.mono hW.sees)) rfl ?_)
  refine Ok.batch 1 [(0, .slice axl_0 xl.length cxl_0), (3, .pointer (some ⟨bs3, 0, none⟩)), (5, .bool true)] (by kernel_rfl) ?_
  refine Ok.nil ?_
  refine Ok.thenN ?_
  refine Ok.seq ?_
  refine Ok.region ?_
  refine Ok.batch 4 [(0, .slice axl_0 xl.length cxl_0), (3, .pointer (some ⟨bs3, 0, none⟩)), (5, .bool true), (6, .bool ((xl.length : Int) == 0))] (by kernel_rfl) ?_
  refine Ok.nil ?_
  refine Ok.thenN ?_
  refine Ok.seq ?_
  refine Ok.seq ?_
  refine Ok.region ?_
  refine Ok.batch 1 [(0, .slice axl_0 xl.length cxl_0), (3, .pointer (some ⟨bs3, 0, none⟩)), (5, .bool true), (6, .bool ((xl.length : Int) == 0)), (7, .int .i64 0)] (by kernel_rfl) ?_
  refine Ok.nil ?_
  refine Ok.thenN ?_
  refine Ok.block ?_
  obtain ⟨k, hF⟩ := hF
  refine Ok.loop (fun k a W => ∃ (x6l11 : Bool) (x7l11 : Int), StA 102 [(0, .slice axl_0 xl.length cxl_0), (3, .pointer (some ⟨bs3, 0, none⟩)), (5, .bool true), (6, .bool x6l11), (7, .int .i64 x7l11)] a ∧ StW w0 [.blk bs3 (.cells #[.int .i64 xenv.1, .int .i64 xenv.2.1, .bool xenv.2.2.1, .bool xenv.2.2.2] 24)] g W ∧ lmhl11 xl xenv K k x6l11 x7l11) k ?_ ?_
  ·
    exact fun a W hA hW => ⟨((xl.length : Int) == 0), 0, hA.sub (by kernel_rfl), hW, hF⟩
  ·
    clear hF
    rintro k11 a W ⟨x6l11, x7l11, hA, hW, hF⟩
    cases k11 with
    | zero => exact (hF : False).elim
    | succ k11 =>
      refine (?_ : Ok _ _ _ _ _ _) a W hA hW
      clear hA hW
      refine Ok.seq ?_
      refine Ok.seq ?_
      refine Ok.region ?_
      refine Ok.batch 4 [(0, .slice axl_0 xl.length cxl_0), (3, .pointer (some ⟨bs3, 0, none⟩)), (5, .bool true), (6, .bool x6l11), (7, .int .i64 x7l11), (19, .bool (decide (x7l11 < (xl.length : Int))))] (by kernel_rfl) ?_
      refine Ok.nil ?_
      refine Ok.thenN ?_
      refine Ok.cond (b := decide (x7l11 < (xl.length : Int))) rfl (fun hc2 => ?_) (fun hc2 => ?_)
      · replace hF := hF.1 hc2
        refine Ok.skip ?_
        refine Ok.thenN ?_
        refine Ok.cut (fun a W => ∃ (x6j18 : Bool), StA 102 [(0, .slice axl_0 xl.length cxl_0), (3, .pointer (some ⟨bs3, 0, none⟩)), (5, .bool true), (6, .bool x6j18), (7, .int .i64 x7l11)] a ∧ StW w0 [.blk bs3 (.cells #[.int .i64 xenv.1, .int .i64 xenv.2.1, .bool xenv.2.2.1, .bool xenv.2.2.2] 24)] g W ∧ lmhj18 x6j18 x7l11 (lmhl11 xl xenv K k11)) ?_ ?_
        ·
          refine Ok.block ?_
          refine Ok.seq ?_
          refine Ok.seq ?_
          refine Ok.region ?_
          refine Ok.batch 1 [(0, .slice axl_0 xl.length cxl_0), (3, .pointer (some ⟨bs3, 0, none⟩)), (5, .bool true), (6, .bool x6l11), (7, .int .i64 x7l11), (8, .int .i64 0)] (by kernel_rfl) ?_
          refine Ok.nil ?_
          refine Ok.thenN ?_
          refine Ok.block ?_
          obtain ⟨k, hF⟩ := hF
          refine Ok.loop (fun k a W => ∃ (x8l24 : Int), StA 102 [(0, .slice axl_0 xl.length cxl_0), (3, .pointer (some ⟨bs3, 0, none⟩)), (5, .bool true), (6, .bool x6l11), (7, .int .i64 x7l11), (8, .int .i64 x8l24)] a ∧ StW w0 [.blk bs3 (.cells #[.int .i64 xenv.1, .int .i64 xenv.2.1, .bool xenv.2.2.1, .bool xenv.2.2.2] 24)] g W ∧ lmhl24 xl xenv K x6l11 x7l11 (lmhl11 xl xenv K k11) k x8l24) k ?_ ?_
          ·
            exact fun a W hA hW => ⟨0, hA.sub (by kernel_rfl), hW, hF⟩
          ·
            clear hF
            rintro k24 a W ⟨x8l24, hA, hW, hF⟩
            cases k24 with
            | zero => exact (hF : False).elim
            | succ k24 =>
              refine (?_ : Ok _ _ _ _ _ _) a W hA hW
              clear hA hW
              refine Ok.seq ?_
              refine Ok.seq ?_
              refine Ok.region ?_
              refine Ok.batch 3 [(0, .slice axl_0 xl.length cxl_0), (3, .pointer (some ⟨bs3, 0, none⟩)), (5, .bool true), (6, .bool x6l11), (7, .int .i64 x7l11), (8, .int .i64 x8l24), (22, .int .i64 x8l24), (23, .slice axl_0 xl.length cxl_0), (24, .int .i64 x7l11)] (by kernel_rfl) ?_
              obtain ⟨h04, h14, hF⟩ := hF
              have he4 := get_of (l := xl) (default : Bool × List (Int × Int)) h14
              generalize hg4 : (xl.getD (Int.toNat x7l11) default) = e4 at he4 hF ⊢
              refine Ok.op rfl (OpOk.indexRo (e := .pair (.bool) (.slice (.pair (.int .i64) (.int .i64)))) (i := x7l11) (el := e4) rfl rfl Tryz.underlying22 (by kernel_rfl) hRxl_0 h04 he4 rfl fun q3 o3 cs3 _ hat3 hr3 => ?_)
              obtain ⟨_, _, rfl, rfl, ⟨a3_1, c3_1, rfl, hm3_1, hr3_1⟩⟩ := hr3
              have hR3_1 : Rep g (.slice (.pair (.int .i64) (.int .i64))) [.slice a3_1 e4.2.length c3_1] e4.2 := ⟨a3_1, c3_1, rfl, hm3_1, hr3_1⟩
              replace hat3 : At g q3 o3 [.bool e4.1, .slice a3_1 e4.2.length c3_1] := hat3
              refine Ok.batch 1 [(0, .slice axl_0 xl.length cxl_0), (3, .pointer (some ⟨bs3, 0, none⟩)), (5, .bool true), (6, .bool x6l11), (7, .int .i64 x7l11), (8, .int .i64 x8l24), (22, .int .i64 x8l24), (26, .pointer (some ⟨q3, o3 + 1, none⟩))] (by kernel_rfl) ?_
              refine Ok.op rfl (OpOk.step (v := .slice a3_1 e4.2.length c3_1) (Yields.loadRo 1 hat3 (by kernel_rfl) Tryz.underlying26 rfl (by kernel_rfl)) rfl rfl ?_)
              refine Ok.batch 2 [(0, .slice axl_0 xl.length cxl_0), (3, .pointer (some ⟨bs3, 0, none⟩)), (5, .bool true), (6, .bool x6l11), (7, .int .i64 x7l11), (8, .int .i64 x8l24), (29, .bool (decide (x8l24 < (e4.2.length : Int))))] (by kernel_rfl) ?_
              refine Ok.nil ?_
              refine Ok.thenN ?_
              refine Ok.cond (b := decide (x8l24 < (e4.2.length : Int))) rfl (fun hc5 => ?_) (fun hc5 => ?_)
              · replace hF := hF.1 hc5
                refine Ok.skip ?_
                refine Ok.thenN ?_
                refine Ok.seq ?_
                refine Ok.block ?_
                refine Ok.seq ?_
                refine Ok.region ?_
                refine Ok.batch 2 [(0, .slice axl_0 xl.length cxl_0), (3, .pointer (some ⟨bs3, 0, none⟩)), (5, .bool true), (6, .bool x6l11), (7, .int .i64 x7l11), (8, .int .i64 x8l24), (32, .slice axl_0 xl.length cxl_0), (33, .int .i64 x7l11)] (by kernel_rfl) ?_
                refine Ok.op rfl (OpOk.indexRo (e := .pair (.bool) (.slice (.pair (.int .i64) (.int .i64)))) (i := x7l11) (el := e4) rfl rfl Tryz.underlying22 (by kernel_rfl) hRxl_0 h04 he4 rfl fun q6 o6 cs6 _ hat6 hr6 => ?_)
                obtain ⟨_, _, rfl, rfl, ⟨a6_1, c6_1, rfl, hm6_1, hr6_1⟩⟩ := hr6
                have hR6_1 : Rep g (.slice (.pair (.int .i64) (.int .i64))) [.slice a6_1 e4.2.length c6_1] e4.2 := ⟨a6_1, c6_1, rfl, hm6_1, hr6_1⟩
                replace hat6 : At g q6 o6 [.bool e4.1, .slice a6_1 e4.2.length c6_1] := hat6
                refine Ok.batch 1 [(0, .slice axl_0 xl.length cxl_0), (3, .pointer (some ⟨bs3, 0, none⟩)), (5, .bool true), (6, .bool x6l11), (7, .int .i64 x7l11), (8, .int .i64 x8l24), (35, .pointer (some ⟨q6, o6 + 1, none⟩))] (by kernel_rfl) ?_
                refine Ok.op rfl (OpOk.step (v := .slice a6_1 e4.2.length c6_1) (Yields.loadRo 1 hat6 (by kernel_rfl) Tryz.underlying26 rfl (by kernel_rfl)) rfl rfl ?_)
                refine Ok.batch 1 [(0, .slice axl_0 xl.length cxl_0), (3, .pointer (some ⟨bs3, 0, none⟩)), (5, .bool true), (6, .bool x6l11), (7, .int .i64 x7l11), (8, .int .i64 x8l24), (36, .slice a6_1 e4.2.length c6_1), (37, .int .i64 x8l24)] (by kernel_rfl) ?_
                obtain ⟨h08, h18, hF⟩ := hF
                have he8 := get_of (l := e4.2) (default : Int × Int) h18
                generalize hg8 : (e4.2.getD (Int.toNat x8l24) default) = e8 at he8 hF ⊢
                refine Ok.op rfl (OpOk.indexRo (e := .pair (.int .i64) (.int .i64)) (i := x8l24) (el := e8) rfl rfl Tryz.underlying26 (by kernel_rfl) hR6_1 h08 he8 rfl fun q7 o7 cs7 _ hat7 hr7 => ?_)
                obtain ⟨_, _, rfl, rfl, rfl⟩ := hr7
                replace hat7 : At g q7 o7 [.int .i64 e8.1, .int .i64 e8.2] := hat7
                refine Ok.op rfl (OpOk.step (v := .agg #[.int .i64 e8.1, .int .i64 e8.2]) (Yields.loadAggRo 0 2 #[.int .i64 e8.1, .int .i64 e8.2] hat7 (by kernel_rfl) Tryz.underlying31 rfl (by kernel_rfl) (by kernel_rfl) (by kernel_rfl)) rfl rfl ?_)
                refine Ok.op rfl (OpOk.callG (v := .bool (rgtM e8)) (enters (by kernel_rfl) (fun _ => by kernel_rfl)) (fun W hW => rgt_c e8) rfl ?_)
                refine Ok.batch 1 [(0, .slice axl_0 xl.length cxl_0), (3, .pointer (some ⟨bs3, 0, none⟩)), (5, .bool true), (6, .bool x6l11), (7, .int .i64 x7l11), (8, .int .i64 x8l24), (41, .bool (!(rgtM e8)))] (by kernel_rfl) ?_
                refine Ok.nil ?_
                refine Ok.thenN ?_
                refine Ok.cond (b := !(rgtM e8)) rfl (fun hc9 => ?_) (fun hc9 => ?_)
                · replace hF := hF.1 hc9
                  refine Ok.seq ?_
                  refine Ok.region ?_
                  refine Ok.batch 2 [(4, .bool true)] (by kernel_rfl) ?_
                  refine Ok.nil ?_
                  refine Ok.thenN ?_
                  refine Ok.ret ?_
                  refine Ok.blockR ?_
                  refine Ok.thenR ?_
                  refine Ok.thenR ?_
                  refine Ok.blockR ?_
                  refine Ok.thenR ?_
                  refine Ok.blockR ?_
                  refine Ok.thenR ?_
                  refine Ok.thenR ?_
                  refine Ok.blockR ?_
                  refine Ok.thenR ?_
                  exact Ok.resP (vs := [.bool true]) [] [] (by decide) rfl (.inl rfl) rfl (.cons (.tmp rfl) .nil) (Gext.refl w0 g) ⟨true, rfl, rfl, hF⟩
                · replace hF := hF.2 hc9
                  refine Ok.skip ?_
                  refine Ok.blockN ?_
                  refine Ok.thenN ?_
                  refine Ok.region ?_
                  refine Ok.batch 3 [(0, .slice axl_0 xl.length cxl_0), (3, .pointer (some ⟨bs3, 0, none⟩)), (5, .bool true), (6, .bool x6l11), (7, .int .i64 x7l11), (8, .int .i64 (IntKind.wrap .i64 (x8l24 + 1)))] (by kernel_rfl) ?_
                  refine Ok.nil ?_
                  refine Ok.thenN ?_
                  subst hg8
                  subst hg4
                  exact fun a W hA hW => ⟨k24, Nat.lt_succ_self _, IntKind.wrap .i64 (x8l24 + 1), hA.sub (by kernel_rfl), hW, hF⟩
              · replace hF := hF.2 hc5
                refine Ok.exit ?_
                refine Ok.thenE ?_
                refine Ok.thenE ?_
                refine Ok.blockHit ?_
                refine Ok.thenN ?_
                refine Ok.seq ?_
                refine Ok.seq ?_
                refine Ok.region ?_
                refine Ok.batch 2 [(0, .slice axl_0 xl.length cxl_0), (3, .pointer (some ⟨bs3, 0, none⟩)), (5, .bool true), (6, .bool x6l11), (7, .int .i64 x7l11), (43, .slice axl_0 xl.length cxl_0), (44, .int .i64 x7l11)] (by kernel_rfl) ?_
                refine Ok.op rfl (OpOk.indexRo (e := .pair (.bool) (.slice (.pair (.int .i64) (.int .i64)))) (i := x7l11) (el := e4) rfl rfl Tryz.underlying22 (by kernel_rfl) hRxl_0 h04 he4 rfl fun q10 o10 cs10 _ hat10 hr10 => ?_)
                obtain ⟨_, _, rfl, rfl, ⟨a10_1, c10_1, rfl, hm10_1, hr10_1⟩⟩ := hr10
                have hR10_1 : Rep g (.slice (.pair (.int .i64) (.int .i64))) [.slice a10_1 e4.2.length c10_1] e4.2 := ⟨a10_1, c10_1, rfl, hm10_1, hr10_1⟩
                replace hat10 : At g q10 o10 [.bool e4.1, .slice a10_1 e4.2.length c10_1] := hat10
                refine Ok.batch 1 [(0, .slice axl_0 xl.length cxl_0), (3, .pointer (some ⟨bs3, 0, none⟩)), (5, .bool true), (6, .bool x6l11), (7, .int .i64 x7l11), (46, .pointer (some ⟨q10, o10 + 1, none⟩))] (by kernel_rfl) ?_
                refine Ok.op rfl (OpOk.step (v := .slice a10_1 e4.2.length c10_1) (Yields.loadRo 1 hat10 (by kernel_rfl) Tryz.underlying26 rfl (by kernel_rfl)) rfl rfl ?_)
                refine Ok.batch 2 [(0, .slice axl_0 xl.length cxl_0), (3, .pointer (some ⟨bs3, 0, none⟩)), (5, .bool true), (6, .bool x6l11), (7, .int .i64 x7l11), (49, .bool ((e4.2.length : Int) == 0))] (by kernel_rfl) ?_
                refine Ok.nil ?_
                refine Ok.thenN ?_
                refine Ok.cond (b := ((e4.2.length : Int) == 0)) rfl (fun hc11 => ?_) (fun hc11 => ?_)
                · replace hF := hF.1 hc11
                  refine Ok.seq ?_
                  refine Ok.region ?_
                  refine Ok.batch 2 [(4, .bool true)] (by kernel_rfl) ?_
                  refine Ok.nil ?_
                  refine Ok.thenN ?_
                  refine Ok.ret ?_
                  refine Ok.thenR ?_
                  refine Ok.blockR ?_
                  refine Ok.thenR ?_
                  refine Ok.thenR ?_
                  refine Ok.blockR ?_
                  refine Ok.thenR ?_
                  exact Ok.resP (vs := [.bool true]) [] [] (by decide) rfl (.inl rfl) rfl (.cons (.tmp rfl) .nil) (Gext.refl w0 g) ⟨true, rfl, rfl, hF⟩
                · replace hF := hF.2 hc11
                  refine Ok.skip ?_
                  refine Ok.thenN ?_
                  refine Ok.quiet' (by kernel_rfl) (by kernel_rfl) ?_
                  refine OkQ.batch 2 [(0, .slice axl_0 xl.length cxl_0), (3, .pointer (some ⟨bs3, 0, none⟩)), (5, .bool true), (7, .int .i64 x7l11), (52, .bool x6l11)] (by kernel_rfl) ?_
                  refine OkQ.boolAt 52 (x6l11) rfl (fun hc12 => ?_) (fun hc12 => ?_)
                  · replace hF := hF.1 hc12
                    refine OkQ.batch 8 [(0, .slice axl_0 xl.length cxl_0), (3, .pointer (some ⟨bs3, 0, none⟩)), (5, .bool true), (6, .bool true), (7, .int .i64 x7l11)] (by kernel_rfl) ?_
                    refine OkQ.nil ?_
                    refine Ok.blockN ?_
                    refine Ok.thenN ?_
                    subst hg4
                    exact fun a W hA hW => ⟨true, hA.sub (by kernel_rfl), hW, hF⟩
                  · replace hF := hF.2 hc12
                    refine OkQ.batch 2 [(0, .slice axl_0 xl.length cxl_0), (3, .pointer (some ⟨bs3, 0, none⟩)), (5, .bool true), (7, .int .i64 x7l11), (52, .bool false), (53, .slice axl_0 xl.length cxl_0), (54, .int .i64 x7l11)] (by kernel_rfl) ?_
                    refine OkQ.opYes (j := 1) (d := 52) (want := false) (b := false) rfl (by kernel_rfl) (by kernel_rfl) rfl (OpQ.indexRo (e := .pair (.bool) (.slice (.pair (.int .i64) (.int .i64)))) (i := x7l11) (el := e4) rfl rfl Tryz.underlying22 (by kernel_rfl) hRxl_0 h04 he4 rfl fun q13 o13 cs13 _ hat13 hr13 => ?_)
                    obtain ⟨_, _, rfl, rfl, ⟨a13_1, c13_1, rfl, hm13_1, hr13_1⟩⟩ := hr13
                    have hR13_1 : Rep g (.slice (.pair (.int .i64) (.int .i64))) [.slice a13_1 e4.2.length c13_1] e4.2 := ⟨a13_1, c13_1, rfl, hm13_1, hr13_1⟩
                    replace hat13 : At g q13 o13 [.bool e4.1, .slice a13_1 e4.2.length c13_1] := hat13
                    refine OkQ.opYes (j := 1) (d := 52) (want := false) (b := false) rfl (by kernel_rfl) (by kernel_rfl) rfl (OpQ.step (v := .agg #[.bool e4.1, .slice a13_1 e4.2.length c13_1]) (Yields.loadAggRo 0 2 #[.bool e4.1, .slice a13_1 e4.2.length c13_1] hat13 (by kernel_rfl) Tryz.underlying28 rfl (by kernel_rfl) (by kernel_rfl) (by kernel_rfl)) rfl rfl ?_)
                    refine OkQ.opYes (j := 1) (d := 52) (want := false) (b := false) rfl (by kernel_rfl) (by kernel_rfl) rfl (OpQ.step (v := .agg #[.int .i64 xenv.1, .int .i64 xenv.2.1, .bool xenv.2.2.1, .bool xenv.2.2.2]) (Yields.loadAgg 0 4 #[.int .i64 xenv.1, .int .i64 xenv.2.1, .bool xenv.2.2.1, .bool xenv.2.2.2] rfl rfl Tryz.underlying24 rfl (by kernel_rfl) (by kernel_rfl) (by kernel_rfl)) rfl rfl ?_)
                    obtain ⟨hp14, hF⟩ := hF
                    refine OkQ.opYes (j := 1) (d := 52) (want := false) (b := false) rfl (by kernel_rfl) (by kernel_rfl) rfl (OpQ.callG (v := .bool (rqhS e4 xenv)) (enters (by kernel_rfl) (fun _ => by kernel_rfl)) (fun W hW => rqh_c e4 xenv (hR13_1.mono hW.sees) hp14) rfl ?_)
                    refine OkQ.batch 2 [(0, .slice axl_0 xl.length cxl_0), (3, .pointer (some ⟨bs3, 0, none⟩)), (5, .bool true), (6, .bool (rqhS e4 xenv)), (7, .int .i64 x7l11)] (by kernel_rfl) ?_
                    refine OkQ.nil ?_
                    refine Ok.blockN ?_
                    refine Ok.thenN ?_
                    subst hg4
                    exact fun a W hA hW => ⟨(rqhS (xl.getD (Int.toNat x7l11) default) xenv), hA.sub (by kernel_rfl), hW, hF⟩
        ·
          clear hF
          rintro a W ⟨x6j18, hA, hW, hF⟩
          refine (?_ : Ok _ _ _ _ _ _) a W hA hW
          clear hA hW
          refine Ok.region ?_
          refine Ok.batch 3 [(0, .slice axl_0 xl.length cxl_0), (3, .pointer (some ⟨bs3, 0, none⟩)), (5, .bool true), (6, .bool x6j18), (7, .int .i64 (IntKind.wrap .i64 (x7l11 + 1)))] (by kernel_rfl) ?_
          refine Ok.nil ?_
          refine Ok.thenN ?_
          exact fun a W hA hW => ⟨k11, Nat.lt_succ_self _, x6j18, IntKind.wrap .i64 (x7l11 + 1), hA.sub (by kernel_rfl), hW, hF⟩
      · replace hF := hF.2 hc2
        refine Ok.exit ?_
        refine Ok.thenE ?_
        refine Ok.thenE ?_
        refine Ok.blockHit ?_
        refine Ok.thenN ?_
        refine Ok.seq ?_
        refine Ok.region ?_
        refine Ok.batch 1 [(3, .pointer (some ⟨bs3, 0, none⟩)), (5, .bool true), (6, .bool x6l11), (60, .slice axl_0 xl.length cxl_0)] (by kernel_rfl) ?_
        obtain ⟨hp15, hF⟩ := hF
        refine Ok.op rfl (OpOk.callG (v := .string ⟨⟨(textS xl)⟩⟩) (enters (by kernel_rfl) (fun _ => by kernel_rfl)) (fun W hW => rqt_c xl (hRxl_0.mono hW.sees) hp15) rfl ?_)
        refine Ok.batch 1 [(3, .pointer (some ⟨bs3, 0, none⟩)), (5, .bool true), (6, .bool x6l11), (9, .string ⟨⟨(textS xl)⟩⟩)] (by kernel_rfl) ?_
        refine Ok.nil ?_
        refine Ok.thenN ?_
        refine Ok.seq ?_
        refine Ok.region ?_
        refine Ok.batch 1 [(3, .pointer (some ⟨bs3, 0, none⟩)), (5, .bool true), (6, .bool x6l11), (9, .string ⟨⟨(textS xl)⟩⟩), (63, .string ⟨⟨(textS xl)⟩⟩)] (by kernel_rfl) ?_
        refine Ok.op rfl (OpOk.step (v := .agg #[.int .i64 xenv.1, .int .i64 xenv.2.1, .bool xenv.2.2.1, .bool xenv.2.2.2]) (Yields.loadAgg 0 4 #[.int .i64 xenv.1, .int .i64 xenv.2.1, .bool xenv.2.2.1, .bool xenv.2.2.2] rfl rfl Tryz.underlying24 rfl (by kernel_rfl) (by kernel_rfl) (by kernel_rfl)) rfl rfl ?_)
        obtain ⟨hp16, hF⟩ := hF
        refine Ok.op rfl (OpOk.callG (v := .tuple #[.bool ((holdS (textS xl) xenv).1), .int .i64 ((holdS (textS xl) xenv).2)]) (enters (by kernel_rfl) (fun _ => by kernel_rfl)) (fun W hW => mho_c (textS xl) xenv (hG0.mono hW.sees) (hG1.mono hW.sees) (hG2.mono hW.sees) (hG3.mono hW.sees) hp16) rfl ?_)
        refine Ok.batch 5 [(3, .pointer (some ⟨bs3, 0, none⟩)), (5, .bool true), (6, .bool x6l11), (9, .string ⟨⟨(textS xl)⟩⟩), (10, .bool ((holdS (textS xl) xenv).1)), (11, .int .i64 ((holdS (textS xl) xenv).2))] (by kernel_rfl) ?_
        refine Ok.nil ?_
        refine Ok.thenN ?_
        refine Ok.seq ?_
        refine Ok.seq ?_
        refine Ok.region ?_
        refine Ok.batch 3 [(3, .pointer (some ⟨bs3, 0, none⟩)), (5, .bool true), (6, .bool x6l11), (10, .bool ((holdS (textS xl) xenv).1)), (11, .int .i64 ((holdS (textS xl) xenv).2)), (70, .bool (decide (((textS xl).length : Int) > 400)))] (by kernel_rfl) ?_
        refine Ok.nil ?_
        refine Ok.thenN ?_
        refine Ok.cond (b := decide (((textS xl).length : Int) > 400)) rfl (fun hc17 => ?_) (fun hc17 => ?_)
        · replace hF := hF.1 hc17
          refine Ok.seq ?_
          refine Ok.region ?_
          refine Ok.batch 2 [(10, .bool ((holdS (textS xl) xenv).1)), (11, .int .i64 ((holdS (textS xl) xenv).2)), (72, .bool true)] (by kernel_rfl) ?_
          refine Ok.midway 3 [(11, .int .i64 ((holdS (textS xl) xenv).2)), (75, .bool (true && (!((holdS (textS xl) xenv).1))))] (fun hR18 => ?_) ?_
          · refine Ok.boolAt 72 (true) rfl (fun hc19 => ?_) (fun hc19 => ?_)
            · skip
              refine Ok.batch 3 [(11, .int .i64 ((holdS (textS xl) xenv).2)), (75, .bool (!((holdS (textS xl) xenv).1)))] (by kernel_rfl) ?_
              refine Ok.reval 75 rfl (show (.bool (!((holdS (textS xl) xenv).1)) : Value) = .bool (true && (!((holdS (textS xl) xenv).1))) from congrArg Value.bool (mand_t hc19)) ?_
              refine Ok.batch 0 [(11, .int .i64 ((holdS (textS xl) xenv).2)), (75, .bool (true && (!((holdS (textS xl) xenv).1))))] (by kernel_rfl) ?_
              exact hR18
            · skip
              refine Ok.batch 3 [(11, .int .i64 ((holdS (textS xl) xenv).2)), (75, .bool false)] (by kernel_rfl) ?_
              refine Ok.reval 75 rfl (show (.bool false : Value) = .bool (true && (!((holdS (textS xl) xenv).1))) from congrArg Value.bool (mand_f hc19)) ?_
              refine Ok.batch 0 [(11, .int .i64 ((holdS (textS xl) xenv).2)), (75, .bool (true && (!((holdS (textS xl) xenv).1))))] (by kernel_rfl) ?_
              exact hR18
          refine Ok.batch 1 [(11, .int .i64 ((holdS (textS xl) xenv).2)), (76, .bool (true && (!((holdS (textS xl) xenv).1))))] (by kernel_rfl) ?_
          refine Ok.midway 3 [(79, .bool ((true && (!((holdS (textS xl) xenv).1))) && (((holdS (textS xl) xenv).2) == 2)))] (fun hR20 => ?_) ?_
          · refine Ok.boolAt 76 ((true && (!((holdS (textS xl) xenv).1)))) rfl (fun hc21 => ?_) (fun hc21 => ?_)
            · skip
              refine Ok.batch 3 [(79, .bool (((holdS (textS xl) xenv).2) == 2))] (by kernel_rfl) ?_
              refine Ok.reval 79 rfl (show (.bool (((holdS (textS xl) xenv).2) == 2) : Value) = .bool ((true && (!((holdS (textS xl) xenv).1))) && (((holdS (textS xl) xenv).2) == 2)) from congrArg Value.bool (mand_t hc21)) ?_
              refine Ok.batch 0 [(79, .bool ((true && (!((holdS (textS xl) xenv).1))) && (((holdS (textS xl) xenv).2) == 2)))] (by kernel_rfl) ?_
              exact hR20
            · skip
              refine Ok.batch 3 [(79, .bool false)] (by kernel_rfl) ?_
              refine Ok.reval 79 rfl (show (.bool false : Value) = .bool ((true && (!((holdS (textS xl) xenv).1))) && (((holdS (textS xl) xenv).2) == 2)) from congrArg Value.bool (mand_f hc21)) ?_
              refine Ok.batch 0 [(79, .bool ((true && (!((holdS (textS xl) xenv).1))) && (((holdS (textS xl) xenv).2) == 2)))] (by kernel_rfl) ?_
              exact hR20
          refine Ok.batch 1 [(4, .bool ((true && (!((holdS (textS xl) xenv).1))) && (((holdS (textS xl) xenv).2) == 2)))] (by kernel_rfl) ?_
          refine Ok.nil ?_
          refine Ok.thenN ?_
          refine Ok.ret ?_
          refine Ok.thenR ?_
          exact Ok.resP (vs := [.bool ((true && (!((holdS (textS xl) xenv).1))) && (((holdS (textS xl) xenv).2) == 2))]) [] [] (by decide) rfl (.inl rfl) rfl (.cons (.tmp rfl) .nil) (Gext.refl w0 g) ⟨((true && (!((holdS (textS xl) xenv).1))) && (((holdS (textS xl) xenv).2) == 2)), rfl, rfl, hF⟩
        · replace hF := hF.2 hc17
          refine Ok.skip ?_
          refine Ok.thenN ?_
          refine Ok.seq ?_
          refine Ok.seq ?_
          refine Ok.region ?_
          refine Ok.op rfl (OpOk.step (v := .agg #[.int .i64 xenv.1, .int .i64 xenv.2.1, .bool xenv.2.2.1, .bool xenv.2.2.2]) (Yields.loadAgg 0 4 #[.int .i64 xenv.1, .int .i64 xenv.2.1, .bool xenv.2.2.1, .bool xenv.2.2.2] rfl rfl Tryz.underlying24 rfl (by kernel_rfl) (by kernel_rfl) (by kernel_rfl)) rfl rfl ?_)
          refine Ok.op rfl (OpOk.callG (v := .bool (renvM xenv)) (enters (by kernel_rfl) (fun _ => by kernel_rfl)) (fun W hW => renv_c xenv) rfl ?_)
          refine Ok.batch 1 [(5, .bool true), (6, .bool x6l11), (10, .bool ((holdS (textS xl) xenv).1)), (11, .int .i64 ((holdS (textS xl) xenv).2)), (82, .bool (!(renvM xenv)))] (by kernel_rfl) ?_
          refine Ok.nil ?_
          refine Ok.thenN ?_
          refine Ok.cond (b := !(renvM xenv)) rfl (fun hc22 => ?_) (fun hc22 => ?_)
          · replace hF := hF.1 hc22
            refine Ok.seq ?_
            refine Ok.region ?_
            refine Ok.batch 2 [(10, .bool ((holdS (textS xl) xenv).1)), (11, .int .i64 ((holdS (textS xl) xenv).2)), (84, .bool true)] (by kernel_rfl) ?_
            refine Ok.midway 3 [(11, .int .i64 ((holdS (textS xl) xenv).2)), (87, .bool (true && (!((holdS (textS xl) xenv).1))))] (fun hR23 => ?_) ?_
            · refine Ok.boolAt 84 (true) rfl (fun hc24 => ?_) (fun hc24 => ?_)
              · skip
                refine Ok.batch 3 [(11, .int .i64 ((holdS (textS xl) xenv).2)), (87, .bool (!((holdS (textS xl) xenv).1)))] (by kernel_rfl) ?_
                refine Ok.reval 87 rfl (show (.bool (!((holdS (textS xl) xenv).1)) : Value) = .bool (true && (!((holdS (textS xl) xenv).1))) from congrArg Value.bool (mand_t hc24)) ?_
                refine Ok.batch 0 [(11, .int .i64 ((holdS (textS xl) xenv).2)), (87, .bool (true && (!((holdS (textS xl) xenv).1))))] (by kernel_rfl) ?_
                exact hR23
              · skip
                refine Ok.batch 3 [(11, .int .i64 ((holdS (textS xl) xenv).2)), (87, .bool false)] (by kernel_rfl) ?_
                refine Ok.reval 87 rfl (show (.bool false : Value) = .bool (true && (!((holdS (textS xl) xenv).1))) from congrArg Value.bool (mand_f hc24)) ?_
                refine Ok.batch 0 [(11, .int .i64 ((holdS (textS xl) xenv).2)), (87, .bool (true && (!((holdS (textS xl) xenv).1))))] (by kernel_rfl) ?_
                exact hR23
            refine Ok.batch 1 [(11, .int .i64 ((holdS (textS xl) xenv).2)), (88, .bool (true && (!((holdS (textS xl) xenv).1))))] (by kernel_rfl) ?_
            refine Ok.midway 3 [(91, .bool ((true && (!((holdS (textS xl) xenv).1))) && (((holdS (textS xl) xenv).2) == 1)))] (fun hR25 => ?_) ?_
            · refine Ok.boolAt 88 ((true && (!((holdS (textS xl) xenv).1)))) rfl (fun hc26 => ?_) (fun hc26 => ?_)
              · skip
                refine Ok.batch 3 [(91, .bool (((holdS (textS xl) xenv).2) == 1))] (by kernel_rfl) ?_
                refine Ok.reval 91 rfl (show (.bool (((holdS (textS xl) xenv).2) == 1) : Value) = .bool ((true && (!((holdS (textS xl) xenv).1))) && (((holdS (textS xl) xenv).2) == 1)) from congrArg Value.bool (mand_t hc26)) ?_
                refine Ok.batch 0 [(91, .bool ((true && (!((holdS (textS xl) xenv).1))) && (((holdS (textS xl) xenv).2) == 1)))] (by kernel_rfl) ?_
                exact hR25
              · skip
                refine Ok.batch 3 [(91, .bool false)] (by kernel_rfl) ?_
                refine Ok.reval 91 rfl (show (.bool false : Value) = .bool ((true && (!((holdS (textS xl) xenv).1))) && (((holdS (textS xl) xenv).2) == 1)) from congrArg Value.bool (mand_f hc26)) ?_
                refine Ok.batch 0 [(91, .bool ((true && (!((holdS (textS xl) xenv).1))) && (((holdS (textS xl) xenv).2) == 1)))] (by kernel_rfl) ?_
                exact hR25
            refine Ok.batch 1 [(4, .bool ((true && (!((holdS (textS xl) xenv).1))) && (((holdS (textS xl) xenv).2) == 1)))] (by kernel_rfl) ?_
            refine Ok.nil ?_
            refine Ok.thenN ?_
            refine Ok.ret ?_
            refine Ok.thenR ?_
            exact Ok.resP (vs := [.bool ((true && (!((holdS (textS xl) xenv).1))) && (((holdS (textS xl) xenv).2) == 1))]) [] [] (by decide) rfl (.inl rfl) rfl (.cons (.tmp rfl) .nil) (Gext.refl w0 g) ⟨((true && (!((holdS (textS xl) xenv).1))) && (((holdS (textS xl) xenv).2) == 1)), rfl, rfl, hF⟩
          · replace hF := hF.2 hc22
            refine Ok.skip ?_
            refine Ok.thenN ?_
            refine Ok.seq ?_
            refine Ok.region ?_
            refine Ok.batch 2 [(6, .bool x6l11), (10, .bool ((holdS (textS xl) xenv).1)), (11, .int .i64 ((holdS (textS xl) xenv).2)), (93, .bool true)] (by kernel_rfl) ?_
            refine Ok.midway 3 [(6, .bool x6l11), (10, .bool ((holdS (textS xl) xenv).1)), (96, .bool (true && (((holdS (textS xl) xenv).2) == 0)))] (fun hR27 => ?_) ?_
            · refine Ok.boolAt 93 (true) rfl (fun hc28 => ?_) (fun hc28 => ?_)
              · skip
                refine Ok.batch 3 [(6, .bool x6l11), (10, .bool ((holdS (textS xl) xenv).1)), (96, .bool (((holdS (textS xl) xenv).2) == 0))] (by kernel_rfl) ?_
                refine Ok.reval 96 rfl (show (.bool (((holdS (textS xl) xenv).2) == 0) : Value) = .bool (true && (((holdS (textS xl) xenv).2) == 0)) from congrArg Value.bool (mand_t hc28)) ?_
                refine Ok.batch 0 [(6, .bool x6l11), (10, .bool ((holdS (textS xl) xenv).1)), (96, .bool (true && (((holdS (textS xl) xenv).2) == 0)))] (by kernel_rfl) ?_
                exact hR27
              · skip
                refine Ok.batch 3 [(6, .bool x6l11), (10, .bool ((holdS (textS xl) xenv).1)), (96, .bool false)] (by kernel_rfl) ?_
                refine Ok.reval 96 rfl (show (.bool false : Value) = .bool (true && (((holdS (textS xl) xenv).2) == 0)) from congrArg Value.bool (mand_f hc28)) ?_
                refine Ok.batch 0 [(6, .bool x6l11), (10, .bool ((holdS (textS xl) xenv).1)), (96, .bool (true && (((holdS (textS xl) xenv).2) == 0)))] (by kernel_rfl) ?_
                exact hR27
            refine Ok.batch 1 [(6, .bool x6l11), (10, .bool ((holdS (textS xl) xenv).1)), (97, .bool (true && (((holdS (textS xl) xenv).2) == 0)))] (by kernel_rfl) ?_
            refine Ok.midway 4 [(101, .bool ((true && (((holdS (textS xl) xenv).2) == 0)) && ((holdS (textS xl) xenv).1 == x6l11)))] (fun hR29 => ?_) ?_
            · refine Ok.boolAt 97 ((true && (((holdS (textS xl) xenv).2) == 0))) rfl (fun hc30 => ?_) (fun hc30 => ?_)
              · skip
                refine Ok.batch 4 [(101, .bool ((holdS (textS xl) xenv).1 == x6l11))] (by kernel_rfl) ?_
                refine Ok.reval 101 rfl (show (.bool ((holdS (textS xl) xenv).1 == x6l11) : Value) = .bool ((true && (((holdS (textS xl) xenv).2) == 0)) && ((holdS (textS xl) xenv).1 == x6l11)) from congrArg Value.bool (mand_t hc30)) ?_
                refine Ok.batch 0 [(101, .bool ((true && (((holdS (textS xl) xenv).2) == 0)) && ((holdS (textS xl) xenv).1 == x6l11)))] (by kernel_rfl) ?_
                exact hR29
              · skip
                refine Ok.batch 4 [(101, .bool false)] (by kernel_rfl) ?_
                refine Ok.reval 101 rfl (show (.bool false : Value) = .bool ((true && (((holdS (textS xl) xenv).2) == 0)) && ((holdS (textS xl) xenv).1 == x6l11)) from congrArg Value.bool (mand_f hc30)) ?_
                refine Ok.batch 0 [(101, .bool ((true && (((holdS (textS xl) xenv).2) == 0)) && ((holdS (textS xl) xenv).1 == x6l11)))] (by kernel_rfl) ?_
                exact hR29
            refine Ok.batch 1 [(4, .bool ((true && (((holdS (textS xl) xenv).2) == 0)) && ((holdS (textS xl) xenv).1 == x6l11)))] (by kernel_rfl) ?_
            refine Ok.nil ?_
            refine Ok.thenN ?_
            refine Ok.ret ?_
            exact Ok.resP (vs := [.bool ((true && (((holdS (textS xl) xenv).2) == 0)) && ((holdS (textS xl) xenv).1 == x6l11))]) [] [] (by decide) rfl (.inl rfl) rfl (.cons (.tmp rfl) .nil) (Gext.refl w0 g) ⟨((true && (((holdS (textS xl) xenv).2) == 0)) && ((holdS (textS xl) xenv).1 == x6l11)), rfl, rfl, hF⟩
theorem lmh_end {l : List Qu} {e : En} (ht : textP l) (hq : ∀ q ∈ l, rightQ q) {x : Bool} (hx : x = (l.isEmpty || l.any (fun q => rqhS q e))) : textP l ∧ holdP (textS l) e ∧ ((decide (((textS l).length : Int) > 400)) = true → ((true && (!((holdS (textS l) e).1))) && (((holdS (textS l) e).2) == 2)) = true) ∧ ((decide (((textS l).length : Int) > 400)) = false → ((!(renvM e)) = true → ((true && (!((holdS (textS l) e).1))) && (((holdS (textS l) e).2) == 1)) = true) ∧ ((!(renvM e)) = false → ((true && (((holdS (textS l) e).2) == 0)) && ((holdS (textS l) e).1 == x)) = true)) := by
  by_cases hl : 400 < (textS l).length
  · obtain ⟨h1, h2⟩ := hold_long hl e
    refine ⟨ht, h1, fun _ => by rw [h2]; rfl, fun h => absurd (of_decide_eq_false h) (by omega)⟩
  · obtain ⟨h1, h2⟩ := hold_told hq (by omega) e
    refine ⟨ht, h1, fun h => absurd (of_decide_eq_true h) (by omega), fun _ => ⟨fun hr => ?_, fun hr => ?_⟩⟩
    · rw [h2, if_t hr]; rfl
    · rw [h2, if_f hr, hx]; simp
theorem lmh_loop {l : List Qu} {e : En} (ht : textP l) : ∀ (m i : Nat) (x : Bool), i + m = l.length → (∀ q ∈ l.take i, rightQ q) → x = (l.isEmpty || (l.take i).any (fun q => rqhS q e)) → lmhl11 l e (fun r => r = true) (m + 1) x (i : Int) := by
  have hlen := ht.1
  intro m
  induction m with
  | zero =>
    intro i x hi hq hx
    rw [List.take_of_length_le (by omega)] at hq hx
    exact ⟨fun hc => absurd (of_decide_eq_true hc) (by omega), fun _ => lmh_end ht hq hx⟩
  | succ m ih =>
    intro i x hi hq hx
    have hi' : i < l.length := by omega
    have hfl := (ht.2 _ (mem_getD hi')).1
    refine ⟨fun _ => ?_, fun hc => absurd (of_decide_eq_false hc) (by omega)⟩
    have inner : ∀ (n j : Nat), j + n = (l.getD i default).2.length → (∀ f ∈ (l.getD i default).2.take j, rightF f) → lmhl24 l e (fun r => r = true) x (i : Int) (lmhl11 l e (fun r => r = true) (m + 1)) (n + 1) (j : Int) := by
      intro n
      induction n with
      | zero =>
        intro j hj hf
        rw [List.take_of_length_le (by omega)] at hf
        refine ⟨by omega, by rw [Int.toNat_natCast]; exact hi', fun hc => absurd (of_decide_eq_true hc) (by rw [Int.toNat_natCast]; omega), fun _ => ?_⟩
        rw [Int.toNat_natCast]
        refine ⟨fun _ => rfl, fun hz => ?_⟩
        have hne : (l.getD i default).2 ≠ [] := by
          intro h; rw [h] at hz; exact absurd hz (by decide)
        have hq' : ∀ q ∈ l.take (i + 1), rightQ q := fun q hm => by
          rw [take_get default hi'] at hm
          rcases List.mem_append.1 hm with hm | hm
          · exact hq q hm
          · rw [List.mem_singleton] at hm
            subst hm
            exact ⟨hne, hf⟩
        have key : ∀ y : Bool, y = (x || rqhS (l.getD i default) e) → lmhj18 y (i : Int) (lmhl11 l e (fun r => r = true) (m + 1)) := fun y hy => by
          unfold lmhj18
          rw [w64 (by omega), show (i : Int) + 1 = ((i + 1 : Nat) : Int) by omega]
          refine ih (i + 1) y (by omega) hq' ?_
          rw [hy, hx, take_get default hi', List.any_append, List.any_cons, List.any_nil, Bool.or_false, Bool.or_assoc]
        exact ⟨fun h => key true (by rw [h]; rfl), fun h => ⟨hfl, key _ (by rw [h]; rfl)⟩⟩
      | succ n ihn =>
        intro j hj hf
        have hj' : j < (l.getD i default).2.length := by omega
        refine ⟨by omega, by rw [Int.toNat_natCast]; exact hi', fun _ => ?_, fun hc => absurd (of_decide_eq_false hc) (by rw [Int.toNat_natCast]; omega)⟩
        rw [Int.toNat_natCast, Int.toNat_natCast]
        refine ⟨by omega, hj', fun _ => rfl, fun h => ?_⟩
        rw [w64 (by omega), show (j : Int) + 1 = ((j + 1 : Nat) : Int) by omega]
        refine ihn (j + 1) (by omega) fun f hm => ?_
        rw [take_get default hj'] at hm
        rcases List.mem_append.1 hm with hm | hm
        · exact hf f hm
        · rw [List.mem_singleton] at hm
          subst hm
          exact right_of (by simpa using h)
    exact ⟨_, inner (l.getD i default).2.length 0 (by omega) (fun f hm => by cases hm)⟩
def lmhP (l : List Qu) (e : En) : Prop := DomU ((.slice (.pair (.bool) (.slice (.pair (.int .i64) (.int .i64)))))) l ∧ DomU ((.pair (.int .i64) (.pair (.int .i64) (.pair (.bool) (.bool))))) e
theorem sum_mem' {α : Type} {f : α → Nat} : ∀ {l : List α} {x : α}, x ∈ l → f x ≤ (l.map f).sum
  | y :: l, x, h => by
    rw [List.map_cons, List.sum_cons]
    rcases List.mem_cons.1 h with rfl | h
    · omega
    · have := sum_mem' (f := f) h; omega
theorem sum_len' {α : Type} {f : α → Nat} (hf : ∀ x, 1 ≤ f x) : ∀ (l : List α), l.length ≤ (l.map f).sum
  | [] => Nat.zero_le _
  | y :: l => by
    have := sum_len' hf l
    have := hf y
    rw [List.map_cons, List.sum_cons, List.length_cons]; omega
theorem lmh_text {l : List Qu} (hd : Dom ((.slice (.pair (.bool) (.slice (.pair (.int .i64) (.int .i64)))))) l) (hb : bulkT ((.slice (.pair (.bool) (.slice (.pair (.int .i64) (.int .i64)))))) l ≤ 1048576) : textP l := by
  have hb : (l.map (bulkT (.pair .bool (.slice (.pair (.int .i64) (.int .i64)))))).sum + 1 ≤ 1048576 := hb
  have hd : l.length ≤ maxLen ∧ ∀ q ∈ l, Dom (.pair .bool (.slice (.pair (.int .i64) (.int .i64)))) q := hd
  have hq : ∀ q : Qu, bulkT (.pair .bool (.slice (.pair (.int .i64) (.int .i64)))) q = 1 + ((q.2.map (bulkT (.pair (.int .i64) (.int .i64)))).sum + 1) := fun q => rfl
  refine ⟨?_, fun q hm => ⟨?_, fun f hf => ?_⟩⟩
  · have := sum_len' (f := bulkT (.pair .bool (.slice (.pair (.int .i64) (.int .i64))))) (fun q => by rw [hq]; omega) l
    omega
  · have h1 := sum_mem' (f := bulkT (.pair .bool (.slice (.pair (.int .i64) (.int .i64))))) hm
    rw [hq] at h1
    have h2 := sum_len' (f := bulkT (.pair (.int .i64) (.int .i64))) (fun q => by show 1 ≤ 1 + 1; omega) q.2
    omega
  · exact Dom.i64 ((hd.2 q hm).2.2 f hf).2
theorem lmh_F (l : List Qu) (e : En) (hp : lmhP l e) : lmhF l e (fun r => r = true) := by
  obtain ⟨⟨⟨hd, -⟩, hb⟩, -⟩ := hp
  have ht : textP l := lmh_text hd hb
  have := lmh_loop (e := e) ht l.length 0 ((l.length : Int) == 0) (by omega) (fun q hm => by cases hm) (by
    cases l with
    | nil => rfl
    | cons q l => exact beq_eq_false_iff_ne.2 (by simp only [List.length_cons]; omega))
  exact ⟨_, this⟩
set_option linter.unusedVariables false in
theorem lmh_c {g : Ghost} {axl_0 : Option Addr} {cxl_0 : Nat} (xl : List (Bool × List (Int × Int))) (xenv : Int × Int × Bool × Bool) (hRxl_0 : Rep g (.slice (.pair (.bool) (.slice (.pair (.int .i64) (.int .i64))))) [.slice axl_0 xl.length cxl_0] xl) (hG0 : GlobL g 0 (.str) DWords) (hG1 : SomeInt g 1) (hG2 : SomeIf g 2) (hG3 : SomeIf g 3)  (hp : lmhP xl xenv) : CallsG Tryz.prog 3 #[.slice axl_0 xl.length cxl_0, .agg #[.int .i64 xenv.1, .int .i64 xenv.2.1, .bool xenv.2.2.1, .bool xenv.2.2.2]] g (.bool true) :=
  (lmh_ok xl xenv hRxl_0 hG0 hG1 hG2 hG3 _ (lmh_F xl xenv hp)).gives (by rintro g' H' v _ ⟨r0, rfl, rfl, hK⟩; subst hK; rfl)
end Go.Proofs.YtjehllphdpkjeaaGreatDoor.Me
