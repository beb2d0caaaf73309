/- media: Holds. -/
import Derived.Test.YtjehllphdpkjeaaGreatDoorMte
namespace Go.Proofs.YtjehllphdpkjeaaGreatDoor.Me
open Go Go.Eng Go.RowKit Go.Shelf Go.Proofs Bld Trm Css Ti
set_option linter.unusedVariables false
def msoV0 (xf : Int × Int) (xenv : Int × Int × Bool × Bool) : Bool :=
  ((xf.1 == 1) || (if (xf.1 == 2) = true then !xenv.2.2.2 else (if (xf.1 == 3) = true then xenv.2.2.2 else (if (xf.1 == 4) = true then decide (xenv.1 ≥ xf.2) else (if (xf.1 == 5) = true then decide (xenv.1 ≤ xf.2) else (if (xf.1 == 6) = true then decide (xenv.2.1 ≥ xf.2) else (if (xf.1 == 7) = true then decide (xenv.2.1 ≤ xf.2) else (if (xf.1 == 8) = true then xenv.2.2.1 else (if (xf.1 == 9) = true then !xenv.2.2.1 else (if (xf.1 == 10) = true then decide (xenv.2.1 ≥ xenv.1) else decide (xenv.2.1 < xenv.1)))))))))))
def msoj5 (xf : Int × Int) (xenv : Int × Int × Bool × Bool) (K : Int → Prop) : Prop :=
  (((msoV0 xf xenv)) = true → K 1) ∧ (((msoV0 xf xenv)) = false → K (-1))
def msoF (xf : Int × Int) (xenv : Int × Int × Bool × Bool) (K : Int → Prop) : Prop :=
  (((xf.1 == 1)) = true → msoj5 xf xenv K) ∧ (((xf.1 == 1)) = false → (((xf.1 == 2)) = true → msoj5 xf xenv K) ∧ (((xf.1 == 2)) = false → (((xf.1 == 3)) = true → msoj5 xf xenv K) ∧ (((xf.1 == 3)) = false → (((xf.1 == 4)) = true → msoj5 xf xenv K) ∧ (((xf.1 == 4)) = false → (((xf.1 == 5)) = true → msoj5 xf xenv K) ∧ (((xf.1 == 5)) = false → (((xf.1 == 6)) = true → msoj5 xf xenv K) ∧ (((xf.1 == 6)) = false → (((xf.1 == 7)) = true → msoj5 xf xenv K) ∧ (((xf.1 == 7)) = false → (((xf.1 == 8)) = true → msoj5 xf xenv K) ∧ (((xf.1 == 8)) = false → (((xf.1 == 9)) = true → msoj5 xf xenv K) ∧ (((xf.1 == 9)) = false → (((xf.1 == 10)) = true → msoj5 xf xenv K) ∧ (((xf.1 == 10)) = false → (((xf.1 == 11)) = true → msoj5 xf xenv K) ∧ (((xf.1 == 11)) = false → K 0)))))))))))
set_option maxHeartbeats 4000000 in
set_option maxRecDepth 100000 in
set_option linter.unusedVariables false in
theorem mso_ok {g : Ghost} (xf : Int × Int) (xenv : Int × Int × Bool × Bool) (K : Int → Prop)
    (hF : msoF xf xenv K) : CallsH Tryz.prog 19 #[.agg #[.int .i64 xf.1, .int .i64 xf.2], .agg #[.int .i64 xenv.1, .int .i64 xenv.2.1, .bool xenv.2.2.1, .bool xenv.2.2.2]] g [] (fun g' H' v => ∃ (r0 : Int), v = .int .i64 r0 ∧ H' = [] ∧ K r0) := by
  refine CallsH.enter 71 [(0, .agg #[.int .i64 xf.1, .int .i64 xf.2]), (1, .agg #[.int .i64 xenv.1, .int .i64 xenv.2.1, .bool xenv.2.2.1, .bool xenv.2.2.2])] Tryz.func19 rfl (by kernel_rfl) (by kernel_rfl) (by kernel_rfl) fun w0 => ?_
  refine Ok.seq ?_
  refine Ok.region ?_
  refine Ok.op rfl (OpOk.box (v := .agg #[.int .i64 xf.1, .int .i64 xf.2]) (cs := #[.int .i64 xf.1, .int .i64 xf.2]) rfl (by kernel_rfl) rfl fun bs2 => ?_)
  refine Ok.op rfl (OpOk.box (v := .agg #[.int .i64 xenv.1, .int .i64 xenv.2.1, .bool xenv.2.2.1, .bool xenv.2.2.2]) (cs := #[.int .i64 xenv.1, .int .i64 xenv.2.1, .bool xenv.2.2.1, .bool xenv.2.2.2]) rfl (by kernel_rfl) rfl fun bs3 => ?_)
  refine Ok.batch 1 [(2, .pointer (some ⟨bs2, 0, none⟩)), (3, .pointer (some ⟨bs3, 0, none⟩))] (by kernel_rfl) ?_
  refine Ok.nil ?_
  refine Ok.thenN ?_
  refine Ok.seq ?_
  refine Ok.region ?_
  refine Ok.batch 1 [(2, .pointer (some ⟨bs2, 0, none⟩)), (3, .pointer (some ⟨bs3, 0, none⟩))] (by kernel_rfl) ?_
  refine Ok.nil ?_
  refine Ok.thenN ?_
  refine Ok.cut (fun a W => StA 71 [(5, .bool (msoV0 xf xenv))] a ∧ StW w0 [] g W ∧ msoj5 xf xenv K) ?_ ?_
  ·
    refine Ok.seq ?_
    refine Ok.region ?_
    refine Ok.batch 1 [(2, .pointer (some ⟨bs2, 0, none⟩)), (3, .pointer (some ⟨bs3, 0, none⟩)), (6, .pointer (some ⟨bs2, 0, none⟩))] (by kernel_rfl) ?_
    refine Ok.op rfl (OpOk.step (v := .int .i64 xf.1) (Yields.load 1 rfl rfl Tryz.underlying3 rfl (by kernel_rfl)) rfl rfl ?_)
    refine Ok.nil ?_
    refine Ok.thenN ?_
    refine Ok.block ?_
    refine Ok.seq ?_
    refine Ok.region ?_
    refine Ok.batch 2 [(2, .pointer (some ⟨bs2, 0, none⟩)), (3, .pointer (some ⟨bs3, 0, none⟩)), (7, .int .i64 xf.1), (8, .bool (xf.1 == 1))] (by kernel_rfl) ?_
    refine Ok.nil ?_
    refine Ok.thenN ?_
    refine Ok.cond (b := (xf.1 == 1)) rfl (fun hc4 => ?_) (fun hc4 => ?_)
    · replace hF := hF.1 hc4
      refine Ok.region ?_
      refine Ok.batch 1 [(5, .bool true)] (by kernel_rfl) ?_
      refine Ok.nil ?_
      refine Ok.blockN ?_
      refine Ok.thenN ?_
      refine Ok.reval 5 rfl (show (.bool true : Value) = .bool (msoV0 xf xenv) from congrArg (Value.bool) (mor_t hc4)) ?_
      exact fun a W hA hW => ⟨hA.sub (by kernel_rfl), hW.sub (.cons _ (.cons _ .slnil)), hF⟩
    · replace hF := hF.2 hc4
      refine Ok.seq ?_
      refine Ok.region ?_
      refine Ok.batch 2 [(2, .pointer (some ⟨bs2, 0, none⟩)), (3, .pointer (some ⟨bs3, 0, none⟩)), (7, .int .i64 xf.1), (10, .bool (xf.1 == 2))] (by kernel_rfl) ?_
      refine Ok.nil ?_
      refine Ok.thenN ?_
      refine Ok.cond (b := (xf.1 == 2)) rfl (fun hc5 => ?_) (fun hc5 => ?_)
      · replace hF := hF.1 hc5
        refine Ok.region ?_
        refine Ok.batch 1 [(12, .pointer (some ⟨bs3, 3, none⟩))] (by kernel_rfl) ?_
        refine Ok.op rfl (OpOk.step (v := .bool xenv.2.2.2) (Yields.load 0 rfl rfl Tryz.underlying4 rfl (by kernel_rfl)) rfl rfl ?_)
        refine Ok.batch 2 [(5, .bool (!xenv.2.2.2))] (by kernel_rfl) ?_
        refine Ok.nil ?_
        refine Ok.blockN ?_
        refine Ok.thenN ?_
        refine Ok.reval 5 rfl (show (.bool (!xenv.2.2.2) : Value) = .bool (msoV0 xf xenv) from congrArg (Value.bool) ((Eq.trans ((if_t hc5).symm) (mor_f hc4)))) ?_
        exact fun a W hA hW => ⟨hA.sub (by kernel_rfl), hW.sub (.cons _ (.cons _ .slnil)), hF⟩
      · replace hF := hF.2 hc5
        refine Ok.seq ?_
        refine Ok.region ?_
        refine Ok.batch 2 [(2, .pointer (some ⟨bs2, 0, none⟩)), (3, .pointer (some ⟨bs3, 0, none⟩)), (7, .int .i64 xf.1), (15, .bool (xf.1 == 3))] (by kernel_rfl) ?_
        refine Ok.nil ?_
        refine Ok.thenN ?_
        refine Ok.cond (b := (xf.1 == 3)) rfl (fun hc6 => ?_) (fun hc6 => ?_)
        · replace hF := hF.1 hc6
          refine Ok.region ?_
          refine Ok.batch 1 [(17, .pointer (some ⟨bs3, 3, none⟩))] (by kernel_rfl) ?_
          refine Ok.op rfl (OpOk.step (v := .bool xenv.2.2.2) (Yields.load 0 rfl rfl Tryz.underlying4 rfl (by kernel_rfl)) rfl rfl ?_)
          refine Ok.batch 1 [(5, .bool xenv.2.2.2)] (by kernel_rfl) ?_
          refine Ok.nil ?_
          refine Ok.blockN ?_
          refine Ok.thenN ?_
          refine Ok.reval 5 rfl (show (.bool xenv.2.2.2 : Value) = .bool (msoV0 xf xenv) from congrArg (Value.bool) ((Eq.trans ((Eq.trans ((if_t hc6).symm) ((if_f hc5).symm))) (mor_f hc4)))) ?_
          exact fun a W hA hW => ⟨hA.sub (by kernel_rfl), hW.sub (.cons _ (.cons _ .slnil)), hF⟩
        · replace hF := hF.2 hc6
          refine Ok.seq ?_
          refine Ok.region ?_
          refine Ok.batch 2 [(2, .pointer (some ⟨bs2, 0, none⟩)), (3, .pointer (some ⟨bs3, 0, none⟩)), (7, .int .i64 xf.1), (19, .bool (xf.1 == 4))] (by kernel_rfl) ?_
          refine Ok.nil ?_
          refine Ok.thenN ?_
          refine Ok.cond (b := (xf.1 == 4)) rfl (fun hc7 => ?_) (fun hc7 => ?_)
          · replace hF := hF.1 hc7
            refine Ok.region ?_
            refine Ok.batch 1 [(2, .pointer (some ⟨bs2, 0, none⟩)), (21, .pointer (some ⟨bs3, 0, none⟩))] (by kernel_rfl) ?_
            refine Ok.op rfl (OpOk.step (v := .int .i64 xenv.1) (Yields.load 0 rfl rfl Tryz.underlying3 rfl (by kernel_rfl)) rfl rfl ?_)
            refine Ok.batch 1 [(22, .int .i64 xenv.1), (23, .pointer (some ⟨bs2, 1, none⟩))] (by kernel_rfl) ?_
            refine Ok.op rfl (OpOk.step (v := .int .i64 xf.2) (Yields.load 1 rfl rfl Tryz.underlying3 rfl (by kernel_rfl)) rfl rfl ?_)
            refine Ok.batch 2 [(5, .bool (decide (xenv.1 ≥ xf.2)))] (by kernel_rfl) ?_
            refine Ok.nil ?_
            refine Ok.blockN ?_
            refine Ok.thenN ?_
            refine Ok.reval 5 rfl (show (.bool (decide (xenv.1 ≥ xf.2)) : Value) = .bool (msoV0 xf xenv) from congrArg (Value.bool) ((Eq.trans ((Eq.trans ((Eq.trans ((if_t hc7).symm) ((if_f hc6).symm))) ((if_f hc5).symm))) (mor_f hc4)))) ?_
            exact fun a W hA hW => ⟨hA.sub (by kernel_rfl), hW.sub (.cons _ (.cons _ .slnil)), hF⟩
          · replace hF := hF.2 hc7
            refine Ok.seq ?_
            refine Ok.region ?_
            refine Ok.batch 2 [(2, .pointer (some ⟨bs2, 0, none⟩)), (3, .pointer (some ⟨bs3, 0, none⟩)), (7, .int .i64 xf.1), (26, .bool (xf.1 == 5))] (by kernel_rfl) ?_
            refine Ok.nil ?_
            refine Ok.thenN ?_
            refine Ok.cond (b := (xf.1 == 5)) rfl (fun hc8 => ?_) (fun hc8 => ?_)
            · replace hF := hF.1 hc8
              refine Ok.region ?_
              refine Ok.batch 1 [(2, .pointer (some ⟨bs2, 0, none⟩)), (28, .pointer (some ⟨bs3, 0, none⟩))] (by kernel_rfl) ?_
              refine Ok.op rfl (OpOk.step (v := .int .i64 xenv.1) (Yields.load 0 rfl rfl Tryz.underlying3 rfl (by kernel_rfl)) rfl rfl ?_)
              refine Ok.batch 1 [(29, .int .i64 xenv.1), (30, .pointer (some ⟨bs2, 1, none⟩))] (by kernel_rfl) ?_
              refine Ok.op rfl (OpOk.step (v := .int .i64 xf.2) (Yields.load 1 rfl rfl Tryz.underlying3 rfl (by kernel_rfl)) rfl rfl ?_)
              refine Ok.batch 2 [(5, .bool (decide (xenv.1 ≤ xf.2)))] (by kernel_rfl) ?_
              refine Ok.nil ?_
              refine Ok.blockN ?_
              refine Ok.thenN ?_
              refine Ok.reval 5 rfl (show (.bool (decide (xenv.1 ≤ xf.2)) : Value) = .bool (msoV0 xf xenv) from congrArg (Value.bool) ((Eq.trans ((Eq.trans ((Eq.trans ((Eq.trans ((if_t hc8).symm) ((if_f hc7).symm))) ((if_f hc6).symm))) ((if_f hc5).symm))) (mor_f hc4)))) ?_
              exact fun a W hA hW => ⟨hA.sub (by kernel_rfl), hW.sub (.cons _ (.cons _ .slnil)), hF⟩
            · replace hF := hF.2 hc8
              refine Ok.seq ?_
              refine Ok.region ?_
              refine Ok.batch 2 [(2, .pointer (some ⟨bs2, 0, none⟩)), (3, .pointer (some ⟨bs3, 0, none⟩)), (7, .int .i64 xf.1), (33, .bool (xf.1 == 6))] (by kernel_rfl) ?_
              refine Ok.nil ?_
              refine Ok.thenN ?_
              refine Ok.cond (b := (xf.1 == 6)) rfl (fun hc9 => ?_) (fun hc9 => ?_)
              · replace hF := hF.1 hc9
                refine Ok.region ?_
                refine Ok.batch 1 [(2, .pointer (some ⟨bs2, 0, none⟩)), (35, .pointer (some ⟨bs3, 1, none⟩))] (by kernel_rfl) ?_
                refine Ok.op rfl (OpOk.step (v := .int .i64 xenv.2.1) (Yields.load 0 rfl rfl Tryz.underlying3 rfl (by kernel_rfl)) rfl rfl ?_)
                refine Ok.batch 1 [(36, .int .i64 xenv.2.1), (37, .pointer (some ⟨bs2, 1, none⟩))] (by kernel_rfl) ?_
                refine Ok.op rfl (OpOk.step (v := .int .i64 xf.2) (Yields.load 1 rfl rfl Tryz.underlying3 rfl (by kernel_rfl)) rfl rfl ?_)
                refine Ok.batch 2 [(5, .bool (decide (xenv.2.1 ≥ xf.2)))] (by kernel_rfl) ?_
                refine Ok.nil ?_
                refine Ok.blockN ?_
                refine Ok.thenN ?_
                refine Ok.reval 5 rfl (show (.bool (decide (xenv.2.1 ≥ xf.2)) : Value) = .bool (msoV0 xf xenv) from congrArg (Value.bool) ((Eq.trans ((Eq.trans ((Eq.trans ((Eq.trans ((Eq.trans ((if_t hc9).symm) ((if_f hc8).symm))) ((if_f hc7).symm))) ((if_f hc6).symm))) ((if_f hc5).symm))) (mor_f hc4)))) ?_
                exact fun a W hA hW => ⟨hA.sub (by kernel_rfl), hW.sub (.cons _ (.cons _ .slnil)), hF⟩
              · replace hF := hF.2 hc9
                refine Ok.seq ?_
                refine Ok.region ?_
                refine Ok.batch 2 [(2, .pointer (some ⟨bs2, 0, none⟩)), (3, .pointer (some ⟨bs3, 0, none⟩)), (7, .int .i64 xf.1), (40, .bool (xf.1 == 7))] (by kernel_rfl) ?_
                refine Ok.nil ?_
                refine Ok.thenN ?_
                refine Ok.cond (b := (xf.1 == 7)) rfl (fun hc10 => ?_) (fun hc10 => ?_)
                · replace hF := hF.1 hc10
                  refine Ok.region ?_
                  refine Ok.batch 1 [(2, .pointer (some ⟨bs2, 0, none⟩)), (42, .pointer (some ⟨bs3, 1, none⟩))] (by kernel_rfl) ?_
                  refine Ok.op rfl (OpOk.step (v := .int .i64 xenv.2.1) (Yields.load 0 rfl rfl Tryz.underlying3 rfl (by kernel_rfl)) rfl rfl ?_)
                  refine Ok.batch 1 [(43, .int .i64 xenv.2.1), (44, .pointer (some ⟨bs2, 1, none⟩))] (by kernel_rfl) ?_
                  refine Ok.op rfl (OpOk.step (v := .int .i64 xf.2) (Yields.load 1 rfl rfl Tryz.underlying3 rfl (by kernel_rfl)) rfl rfl ?_)
                  refine Ok.batch 2 [(5, .bool (decide (xenv.2.1 ≤ xf.2)))] (by kernel_rfl) ?_
                  refine Ok.nil ?_
                  refine Ok.blockN ?_
                  refine Ok.thenN ?_
                  refine Ok.reval 5 rfl (show (.bool (decide (xenv.2.1 ≤ xf.2)) : Value) = .bool (msoV0 xf xenv) from congrArg (Value.bool) ((Eq.trans ((Eq.trans ((Eq.trans ((Eq.trans ((Eq.trans ((Eq.trans ((if_t hc10).symm) ((if_f hc9).symm))) ((if_f hc8).symm))) ((if_f hc7).symm))) ((if_f hc6).symm))) ((if_f hc5).symm))) (mor_f hc4)))) ?_
                  exact fun a W hA hW => ⟨hA.sub (by kernel_rfl), hW.sub (.cons _ (.cons _ .slnil)), hF⟩
                · replace hF := hF.2 hc10
                  refine Ok.seq ?_
                  refine Ok.region ?_
                  refine Ok.batch 2 [(3, .pointer (some ⟨bs3, 0, none⟩)), (7, .int .i64 xf.1), (47, .bool (xf.1 == 8))] (by kernel_rfl) ?_
                  refine Ok.nil ?_
                  refine Ok.thenN ?_
                  refine Ok.cond (b := (xf.1 == 8)) rfl (fun hc11 => ?_) (fun hc11 => ?_)
                  · replace hF := hF.1 hc11
                    refine Ok.region ?_
                    refine Ok.batch 1 [(49, .pointer (some ⟨bs3, 2, none⟩))] (by kernel_rfl) ?_
                    refine Ok.op rfl (OpOk.step (v := .bool xenv.2.2.1) (Yields.load 0 rfl rfl Tryz.underlying4 rfl (by kernel_rfl)) rfl rfl ?_)
                    refine Ok.batch 1 [(5, .bool xenv.2.2.1)] (by kernel_rfl) ?_
                    refine Ok.nil ?_
                    refine Ok.blockN ?_
                    refine Ok.thenN ?_
                    refine Ok.reval 5 rfl (show (.bool xenv.2.2.1 : Value) = .bool (msoV0 xf xenv) from congrArg (Value.bool) ((Eq.trans ((Eq.trans ((Eq.trans ((Eq.trans ((Eq.trans ((Eq.trans ((Eq.trans ((if_t hc11).symm) ((if_f hc10).symm))) ((if_f hc9).symm))) ((if_f hc8).symm))) ((if_f hc7).symm))) ((if_f hc6).symm))) ((if_f hc5).symm))) (mor_f hc4)))) ?_
                    exact fun a W hA hW => ⟨hA.sub (by kernel_rfl), hW.sub (.cons _ (.cons _ .slnil)), hF⟩
                  · replace hF := hF.2 hc11
                    refine Ok.seq ?_
                    refine Ok.region ?_
                    refine Ok.batch 2 [(3, .pointer (some ⟨bs3, 0, none⟩)), (7, .int .i64 xf.1), (51, .bool (xf.1 == 9))] (by kernel_rfl) ?_
                    refine Ok.nil ?_
                    refine Ok.thenN ?_
                    refine Ok.cond (b := (xf.1 == 9)) rfl (fun hc12 => ?_) (fun hc12 => ?_)
                    · replace hF := hF.1 hc12
                      refine Ok.region ?_
                      refine Ok.batch 1 [(53, .pointer (some ⟨bs3, 2, none⟩))] (by kernel_rfl) ?_
                      refine Ok.op rfl (OpOk.step (v := .bool xenv.2.2.1) (Yields.load 0 rfl rfl Tryz.underlying4 rfl (by kernel_rfl)) rfl rfl ?_)
                      refine Ok.batch 2 [(5, .bool (!xenv.2.2.1))] (by kernel_rfl) ?_
                      refine Ok.nil ?_
                      refine Ok.blockN ?_
                      refine Ok.thenN ?_
                      refine Ok.reval 5 rfl (show (.bool (!xenv.2.2.1) : Value) = .bool (msoV0 xf xenv) from congrArg (Value.bool) ((Eq.trans ((Eq.trans ((Eq.trans ((Eq.trans ((Eq.trans ((Eq.trans ((Eq.trans ((Eq.trans ((if_t hc12).symm) ((if_f hc11).symm))) ((if_f hc10).symm))) ((if_f hc9).symm))) ((if_f hc8).symm))) ((if_f hc7).symm))) ((if_f hc6).symm))) ((if_f hc5).symm))) (mor_f hc4)))) ?_
                      exact fun a W hA hW => ⟨hA.sub (by kernel_rfl), hW.sub (.cons _ (.cons _ .slnil)), hF⟩
                    · replace hF := hF.2 hc12
                      refine Ok.seq ?_
                      refine Ok.region ?_
                      refine Ok.batch 2 [(3, .pointer (some ⟨bs3, 0, none⟩)), (7, .int .i64 xf.1), (56, .bool (xf.1 == 10))] (by kernel_rfl) ?_
                      refine Ok.nil ?_
                      refine Ok.thenN ?_
                      refine Ok.cond (b := (xf.1 == 10)) rfl (fun hc13 => ?_) (fun hc13 => ?_)
                      · replace hF := hF.1 hc13
                        refine Ok.region ?_
                        refine Ok.batch 1 [(3, .pointer (some ⟨bs3, 0, none⟩)), (58, .pointer (some ⟨bs3, 1, none⟩))] (by kernel_rfl) ?_
                        refine Ok.op rfl (OpOk.step (v := .int .i64 xenv.2.1) (Yields.load 0 rfl rfl Tryz.underlying3 rfl (by kernel_rfl)) rfl rfl ?_)
                        refine Ok.batch 1 [(59, .int .i64 xenv.2.1), (60, .pointer (some ⟨bs3, 0, none⟩))] (by kernel_rfl) ?_
                        refine Ok.op rfl (OpOk.step (v := .int .i64 xenv.1) (Yields.load 0 rfl rfl Tryz.underlying3 rfl (by kernel_rfl)) rfl rfl ?_)
                        refine Ok.batch 2 [(5, .bool (decide (xenv.2.1 ≥ xenv.1)))] (by kernel_rfl) ?_
                        refine Ok.nil ?_
                        refine Ok.blockN ?_
                        refine Ok.thenN ?_
                        refine Ok.reval 5 rfl (show (.bool (decide (xenv.2.1 ≥ xenv.1)) : Value) = .bool (msoV0 xf xenv) from congrArg (Value.bool) ((Eq.trans ((Eq.trans ((Eq.trans ((Eq.trans ((Eq.trans ((Eq.trans ((Eq.trans ((Eq.trans ((Eq.trans ((if_t hc13).symm) ((if_f hc12).symm))) ((if_f hc11).symm))) ((if_f hc10).symm))) ((if_f hc9).symm))) ((if_f hc8).symm))) ((if_f hc7).symm))) ((if_f hc6).symm))) ((if_f hc5).symm))) (mor_f hc4)))) ?_
                        exact fun a W hA hW => ⟨hA.sub (by kernel_rfl), hW.sub (.cons _ (.cons _ .slnil)), hF⟩
                      · replace hF := hF.2 hc13
                        refine Ok.seq ?_
                        refine Ok.region ?_
                        refine Ok.batch 2 [(3, .pointer (some ⟨bs3, 0, none⟩)), (63, .bool (xf.1 == 11))] (by kernel_rfl) ?_
                        refine Ok.nil ?_
                        refine Ok.thenN ?_
                        refine Ok.cond (b := (xf.1 == 11)) rfl (fun hc14 => ?_) (fun hc14 => ?_)
                        · replace hF := hF.1 hc14
                          refine Ok.region ?_
                          refine Ok.batch 1 [(3, .pointer (some ⟨bs3, 0, none⟩)), (65, .pointer (some ⟨bs3, 1, none⟩))] (by kernel_rfl) ?_
                          refine Ok.op rfl (OpOk.step (v := .int .i64 xenv.2.1) (Yields.load 0 rfl rfl Tryz.underlying3 rfl (by kernel_rfl)) rfl rfl ?_)
                          refine Ok.batch 1 [(66, .int .i64 xenv.2.1), (67, .pointer (some ⟨bs3, 0, none⟩))] (by kernel_rfl) ?_
                          refine Ok.op rfl (OpOk.step (v := .int .i64 xenv.1) (Yields.load 0 rfl rfl Tryz.underlying3 rfl (by kernel_rfl)) rfl rfl ?_)
                          refine Ok.batch 2 [(5, .bool (decide (xenv.2.1 < xenv.1)))] (by kernel_rfl) ?_
                          refine Ok.nil ?_
                          refine Ok.blockN ?_
                          refine Ok.thenN ?_
                          refine Ok.reval 5 rfl (show (.bool (decide (xenv.2.1 < xenv.1)) : Value) = .bool (msoV0 xf xenv) from congrArg (Value.bool) ((Eq.trans ((Eq.trans ((Eq.trans ((Eq.trans ((Eq.trans ((Eq.trans ((Eq.trans ((Eq.trans ((Eq.trans ((if_f hc13).symm) ((if_f hc12).symm))) ((if_f hc11).symm))) ((if_f hc10).symm))) ((if_f hc9).symm))) ((if_f hc8).symm))) ((if_f hc7).symm))) ((if_f hc6).symm))) ((if_f hc5).symm))) (mor_f hc4)))) ?_
                          exact fun a W hA hW => ⟨hA.sub (by kernel_rfl), hW.sub (.cons _ (.cons _ .slnil)), hF⟩
                        · replace hF := hF.2 hc14
                          refine Ok.seq ?_
                          refine Ok.region ?_
                          refine Ok.batch 1 [(4, .int .i64 0)] (by kernel_rfl) ?_
                          refine Ok.nil ?_
                          refine Ok.thenN ?_
                          refine Ok.ret ?_
                          refine Ok.blockR ?_
                          refine Ok.thenR ?_
                          exact Ok.resP (vs := [.int .i64 0]) [] [] (by decide) rfl (.inl rfl) rfl (.cons (.tmp rfl) .nil) (Gext.refl w0 g) ⟨0, rfl, rfl, hF⟩
  ·
    clear hF
    rintro a W ⟨hA, hW, hF⟩
    refine (?_ : Ok _ _ _ _ _ _) a W hA hW
    clear hA hW
    refine Ok.seq ?_
    refine Ok.seq ?_
    refine Ok.region ?_
    refine Ok.batch 1 [(70, .bool (msoV0 xf xenv))] (by kernel_rfl) ?_
    refine Ok.nil ?_
    refine Ok.thenN ?_
    refine Ok.cond (b := (msoV0 xf xenv)) rfl (fun hc3 => ?_) (fun hc3 => ?_)
    · replace hF := hF.1 hc3
      refine Ok.seq ?_
      refine Ok.region ?_
      refine Ok.batch 1 [(4, .int .i64 1)] (by kernel_rfl) ?_
      refine Ok.nil ?_
      refine Ok.thenN ?_
      refine Ok.ret ?_
      refine Ok.thenR ?_
      exact Ok.resH (vs := [.int .i64 1]) (.inl rfl) rfl (.cons (.tmp rfl) .nil) (Gext.refl w0 g) ⟨1, rfl, rfl, hF⟩
    · replace hF := hF.2 hc3
      refine Ok.skip ?_
      refine Ok.thenN ?_
      refine Ok.seq ?_
      refine Ok.region ?_
      refine Ok.batch 1 [(4, .int .i64 (-1))] (by kernel_rfl) ?_
      refine Ok.nil ?_
      refine Ok.thenN ?_
      refine Ok.ret ?_
      exact Ok.resH (vs := [.int .i64 (-1)]) (.inl rfl) rfl (.cons (.tmp rfl) .nil) (Gext.refl w0 g) ⟨(-1), rfl, rfl, hF⟩
def msoj5M (xf : Int × Int) (xenv : Int × Int × Bool × Bool) : Int := (if (msoV0 xf xenv) = true then 1 else (-1))
set_option linter.unusedSimpArgs false in
set_option linter.unusedVariables false in
theorem msoj5_A (xf : Int × Int) (xenv : Int × Int × Bool × Bool) (P : Int → Prop) (h : P (msoj5M xf xenv)) : msoj5 xf xenv (fun k0 => P k0) := by
  unfold msoj5M at h
  unfold msoj5
  refine ⟨fun hc0 => ?_, fun hc0 => ?_⟩
  · rw [if_t hc0] at h
    exact h
  · rw [if_f hc0] at h
    exact h
def msoM (xf : Int × Int) (xenv : Int × Int × Bool × Bool) : Int := (if (xf.1 == 1) = true then (msoj5M xf xenv) else (if (xf.1 == 2) = true then (msoj5M xf xenv) else (if (xf.1 == 3) = true then (msoj5M xf xenv) else (if (xf.1 == 4) = true then (msoj5M xf xenv) else (if (xf.1 == 5) = true then (msoj5M xf xenv) else (if (xf.1 == 6) = true then (msoj5M xf xenv) else (if (xf.1 == 7) = true then (msoj5M xf xenv) else (if (xf.1 == 8) = true then (msoj5M xf xenv) else (if (xf.1 == 9) = true then (msoj5M xf xenv) else (if (xf.1 == 10) = true then (msoj5M xf xenv) else (if (xf.1 == 11) = true then (msoj5M xf xenv) else 0)))))))))))
set_option linter.unusedSimpArgs false in
set_option linter.unusedVariables false in
theorem msoF_A (xf : Int × Int) (xenv : Int × Int × Bool × Bool) (P : Int → Prop) (h : P (msoM xf xenv)) : msoF xf xenv (fun k0 => P k0) := by
  unfold msoM at h
  unfold msoF
  refine ⟨fun hc0 => ?_, fun hc0 => ?_⟩
  · rw [if_t hc0] at h
    have hd0 := hc0; try simp only [Bool.and_eq_true, Bool.or_eq_true, Bool.and_eq_false_iff, Bool.or_eq_false_iff, Bool.not_eq_true', Bool.not_eq_false', decide_eq_true_eq, decide_eq_false_iff_not, beq_iff_eq, beq_eq_false_iff_ne, ne_eq] at hd0
    exact msoj5_A xf xenv _ h
  · rw [if_f hc0] at h
    have hd0 := hc0; try simp only [Bool.and_eq_true, Bool.or_eq_true, Bool.and_eq_false_iff, Bool.or_eq_false_iff, Bool.not_eq_true', Bool.not_eq_false', decide_eq_true_eq, decide_eq_false_iff_not, beq_iff_eq, beq_eq_false_iff_ne, ne_eq] at hd0
    refine ⟨fun hc1 => ?_, fun hc1 => ?_⟩
    · rw [if_t hc1] at h
      have hd1 := hc1; try simp only [Bool.and_eq_true, Bool.or_eq_true, Bool.and_eq_false_iff, Bool.or_eq_false_iff, Bool.not_eq_true', Bool.not_eq_false', decide_eq_true_eq, decide_eq_false_iff_not, beq_iff_eq, beq_eq_false_iff_ne, ne_eq] at hd1
      exact msoj5_A xf xenv _ h
    · rw [if_f hc1] at h
      have hd1 := hc1; try simp only [Bool.and_eq_true, Bool.or_eq_true, Bool.and_eq_false_iff, Bool.or_eq_false_iff, Bool.not_eq_true', Bool.not_eq_false', decide_eq_true_eq, decide_eq_false_iff_not, beq_iff_eq, beq_eq_false_iff_ne, ne_eq] at hd1
      refine ⟨fun hc2 => ?_, fun hc2 => ?_⟩
      · rw [if_t hc2] at h
        have hd2 := hc2; try simp only [Bool.and_eq_true, Bool.or_eq_true, Bool.and_eq_false_iff, Bool.or_eq_false_iff, Bool.not_eq_true', Bool.not_eq_false', decide_eq_true_eq, decide_eq_false_iff_not, beq_iff_eq, beq_eq_false_iff_ne, ne_eq] at hd2
        exact msoj5_A xf xenv _ h
      · rw [if_f hc2] at h
        have hd2 := hc2; try simp only [Bool.and_eq_true, Bool.or_eq_true, Bool.and_eq_false_iff, Bool.or_eq_false_iff, Bool.not_eq_true', Bool.not_eq_false', decide_eq_true_eq, decide_eq_false_iff_not, beq_iff_eq, beq_eq_false_iff_ne, ne_eq] at hd2
        refine ⟨fun hc3 => ?_, fun hc3 => ?_⟩
        · rw [if_t hc3] at h
          have hd3 := hc3; try simp only [Bool.and_eq_true, Bool.or_eq_true, Bool.and_eq_false_iff, Bool.or_eq_false_iff, Bool.not_eq_true', Bool.not_eq_false', decide_eq_true_eq, decide_eq_false_iff_not, beq_iff_eq, beq_eq_false_iff_ne, ne_eq] at hd3
          exact msoj5_A xf xenv _ h
        · rw [if_f hc3] at h
          have hd3 := hc3; try simp only [Bool.and_eq_true, Bool.or_eq_true, Bool.and_eq_false_iff, Bool.or_eq_false_iff, Bool.not_eq_true', Bool.not_eq_false', decide_eq_true_eq, decide_eq_false_iff_not, beq_iff_eq, beq_eq_false_iff_ne, ne_eq] at hd3
          refine ⟨fun hc4 => ?_, fun hc4 => ?_⟩
          · rw [if_t hc4] at h
            have hd4 := hc4; try simp only [Bool.and_eq_true, Bool.or_eq_true, Bool.and_eq_false_iff, Bool.or_eq_false_iff, Bool.not_eq_true', Bool.not_eq_false', decide_eq_true_eq, decide_eq_false_iff_not, beq_iff_eq, beq_eq_false_iff_ne, ne_eq] at hd4
            exact msoj5_A xf xenv _ h
          · rw [if_f hc4] at h
            have hd4 := hc4; try simp only [Bool.and_eq_true, Bool.or_eq_true, Bool.and_eq_false_iff, Bool.or_eq_false_iff, Bool.not_eq_true', Bool.not_eq_false', decide_eq_true_eq, decide_eq_false_iff_not, beq_iff_eq, beq_eq_false_iff_ne, ne_eq] at hd4
            refine ⟨fun hc5 => ?_, fun hc5 => ?_⟩
            · rw [if_t hc5] at h
              have hd5 := hc5; try simp only [Bool.and_eq_true, Bool.or_eq_true, Bool.and_eq_false_iff, Bool.or_eq_false_iff, Bool.not_eq_true', Bool.not_eq_false', decide_eq_true_eq, decide_eq_false_iff_not, beq_iff_eq, beq_eq_false_iff_ne, ne_eq] at hd5
              exact msoj5_A xf xenv _ h
            · rw [if_f hc5] at h
              have hd5 := hc5; try simp only [Bool.and_eq_true, Bool.or_eq_true, Bool.and_eq_false_iff, Bool.or_eq_false_iff, Bool.not_eq_true', Bool.not_eq_false', decide_eq_true_eq, decide_eq_false_iff_not, beq_iff_eq, beq_eq_false_iff_ne, ne_eq] at hd5
              refine ⟨fun hc6 => ?_, fun hc6 => ?_⟩
              · rw [if_t hc6] at h
                have hd6 := hc6; try simp only [Bool.and_eq_true, Bool.or_eq_true, Bool.and_eq_false_iff, Bool.or_eq_false_iff, Bool.not_eq_true', Bool.not_eq_false', decide_eq_true_eq, decide_eq_false_iff_not, beq_iff_eq, beq_eq_false_iff_ne, ne_eq] at hd6
                exact msoj5_A xf xenv _ h
              · rw [if_f hc6] at h
                have hd6 := hc6; try simp only [Bool.and_eq_true, Bool.or_eq_true, Bool.and_eq_false_iff, Bool.or_eq_false_iff, Bool.not_eq_true', Bool.not_eq_false', decide_eq_true_eq, decide_eq_false_iff_not, beq_iff_eq, beq_eq_false_iff_ne, ne_eq] at hd6
                refine ⟨fun hc7 => ?_, fun hc7 => ?_⟩
                · rw [if_t hc7] at h
                  have hd7 := hc7; try simp only [Bool.and_eq_true, Bool.or_eq_true, Bool.and_eq_false_iff, Bool.or_eq_false_iff, Bool.not_eq_true', Bool.not_eq_false', decide_eq_true_eq, decide_eq_false_iff_not, beq_iff_eq, beq_eq_false_iff_ne, ne_eq] at hd7
                  exact msoj5_A xf xenv _ h
                · rw [if_f hc7] at h
                  have hd7 := hc7; try simp only [Bool.and_eq_true, Bool.or_eq_true, Bool.and_eq_false_iff, Bool.or_eq_false_iff, Bool.not_eq_true', Bool.not_eq_false', decide_eq_true_eq, decide_eq_false_iff_not, beq_iff_eq, beq_eq_false_iff_ne, ne_eq] at hd7
                  refine ⟨fun hc8 => ?_, fun hc8 => ?_⟩
                  · rw [if_t hc8] at h
                    have hd8 := hc8; try simp only [Bool.and_eq_true, Bool.or_eq_true, Bool.and_eq_false_iff, Bool.or_eq_false_iff, Bool.not_eq_true', Bool.not_eq_false', decide_eq_true_eq, decide_eq_false_iff_not, beq_iff_eq, beq_eq_false_iff_ne, ne_eq] at hd8
                    exact msoj5_A xf xenv _ h
                  · rw [if_f hc8] at h
                    have hd8 := hc8; try simp only [Bool.and_eq_true, Bool.or_eq_true, Bool.and_eq_false_iff, Bool.or_eq_false_iff, Bool.not_eq_true', Bool.not_eq_false', decide_eq_true_eq, decide_eq_false_iff_not, beq_iff_eq, beq_eq_false_iff_ne, ne_eq] at hd8
                    refine ⟨fun hc9 => ?_, fun hc9 => ?_⟩
                    · rw [if_t hc9] at h
                      have hd9 := hc9; try simp only [Bool.and_eq_true, Bool.or_eq_true, Bool.and_eq_false_iff, Bool.or_eq_false_iff, Bool.not_eq_true', Bool.not_eq_false', decide_eq_true_eq, decide_eq_false_iff_not, beq_iff_eq, beq_eq_false_iff_ne, ne_eq] at hd9
                      exact msoj5_A xf xenv _ h
                    · rw [if_f hc9] at h
                      have hd9 := hc9; try simp only [Bool.and_eq_true, Bool.or_eq_true, Bool.and_eq_false_iff, Bool.or_eq_false_iff, Bool.not_eq_true', Bool.not_eq_false', decide_eq_true_eq, decide_eq_false_iff_not, beq_iff_eq, beq_eq_false_iff_ne, ne_eq] at hd9
                      refine ⟨fun hc10 => ?_, fun hc10 => ?_⟩
                      · rw [if_t hc10] at h
                        have hd10 := hc10; try simp only [Bool.and_eq_true, Bool.or_eq_true, Bool.and_eq_false_iff, Bool.or_eq_false_iff, Bool.not_eq_true', Bool.not_eq_false', decide_eq_true_eq, decide_eq_false_iff_not, beq_iff_eq, beq_eq_false_iff_ne, ne_eq] at hd10
                        exact msoj5_A xf xenv _ h
                      · rw [if_f hc10] at h
                        have hd10 := hc10; try simp only [Bool.and_eq_true, Bool.or_eq_true, Bool.and_eq_false_iff, Bool.or_eq_false_iff, Bool.not_eq_true', Bool.not_eq_false', decide_eq_true_eq, decide_eq_false_iff_not, beq_iff_eq, beq_eq_false_iff_ne, ne_eq] at hd10
                        exact h
theorem mso_F (xf : Int × Int) (xenv : Int × Int × Bool × Bool) : msoF xf xenv (fun k0 => k0 = msoM xf xenv) :=
  msoF_A xf xenv (fun z => z = msoM xf xenv) rfl
set_option linter.unusedVariables false in
theorem mso_c {g : Ghost} (xf : Int × Int) (xenv : Int × Int × Bool × Bool)  : CallsG Tryz.prog 19 #[.agg #[.int .i64 xf.1, .int .i64 xf.2], .agg #[.int .i64 xenv.1, .int .i64 xenv.2.1, .bool xenv.2.2.1, .bool xenv.2.2.2]] g (.int .i64 (msoM xf xenv)) :=
  (mso_ok xf xenv _ (mso_F xf xenv)).gives (by rintro g' H' v _ ⟨r0, rfl, rfl, hK⟩; subst hK; rfl)
theorem mso_range (f : Int × Int) (e : Int × Int × Bool × Bool) : -1 ≤ msoM f e ∧ msoM f e ≤ 1 := by
  unfold msoM msoj5M
  repeat' split
  all_goals omega
def malV0 (xq : Bool × List (Int × Int)) (x5l9 : Int) : Int :=
  (if xq.1 = true then IntKind.wrap .i64 (0 - x5l9) else x5l9)
def malj22 (xq : Bool × List (Int × Int)) (K : Int → Prop) (x5l9 : Int) : Prop :=
  K (malV0 xq x5l9)
def mall9b (xq : Bool × List (Int × Int)) (xenv : Int × Int × Bool × Bool) (K : Int → Prop) (x5l9 : Int) (x11l9 : Int) (C9 : Int → Int → Prop) : Prop :=
  ((decide (x11l9 < (xq.2.length : Int))) = true → (0 : Int) ≤ x11l9 ∧ Int.toNat x11l9 < xq.2.length ∧ C9 (if (msoM (xq.2.getD (Int.toNat x11l9) default) xenv) < x5l9 then (msoM (xq.2.getD (Int.toNat x11l9) default) xenv) else x5l9) (IntKind.wrap .i64 (x11l9 + 1))) ∧ ((decide (x11l9 < (xq.2.length : Int))) = false → ((xq.1) = true → malj22 xq K x5l9) ∧ ((xq.1) = false → malj22 xq K x5l9))
def mall9 (xq : Bool × List (Int × Int)) (xenv : Int × Int × Bool × Bool) (K : Int → Prop) : Nat → Int → Int → Prop
  | 0, _, _ => False
  | k + 1, x5l9, x11l9 => mall9b xq xenv K x5l9 x11l9 (mall9 xq xenv K k)
def malF (xq : Bool × List (Int × Int)) (xenv : Int × Int × Bool × Bool) (K : Int → Prop) : Prop :=
  ∃ k, mall9 xq xenv K k 1 0
set_option maxHeartbeats 4000000 in
set_option maxRecDepth 100000 in
set_option linter.unusedVariables false in
theorem mal_ok {g : Ghost} {axq_0 : Option Addr} {cxq_0 : Nat} (xq : Bool × List (Int × Int)) (xenv : Int × Int × Bool × Bool) (hRxq_0 : Rep g (.slice (.pair (.int .i64) (.int .i64))) [.slice axq_0 xq.2.length cxq_0] xq.2) (K : Int → Prop)
    (hF : malF xq xenv K) : CallsH Tryz.prog 13 #[.agg #[.bool xq.1, .slice axq_0 xq.2.length cxq_0], .agg #[.int .i64 xenv.1, .int .i64 xenv.2.1, .bool xenv.2.2.1, .bool xenv.2.2.2]] g [] (fun g' H' v => ∃ (r0 : Int), v = .int .i64 r0 ∧ H' = [] ∧ K r0) := by
  refine CallsH.enter 26 [(0, .agg #[.bool xq.1, .slice axq_0 xq.2.length cxq_0]), (1, .agg #[.int .i64 xenv.1, .int .i64 xenv.2.1, .bool xenv.2.2.1, .bool xenv.2.2.2])] Tryz.func13 rfl (by kernel_rfl) (by kernel_rfl) (by kernel_rfl) fun w0 => ?_
  refine Ok.seq ?_
  refine Ok.region ?_
  refine Ok.op rfl (OpOk.box (v := .agg #[.bool xq.1, .slice axq_0 xq.2.length cxq_0]) (cs := #[.bool xq.1, .slice axq_0 xq.2.length cxq_0]) rfl (by kernel_rfl) rfl fun bs2 => ?_)
  refine Ok.op rfl (OpOk.box (v := .agg #[.int .i64 xenv.1, .int .i64 xenv.2.1, .bool xenv.2.2.1, .bool xenv.2.2.2]) (cs := #[.int .i64 xenv.1, .int .i64 xenv.2.1, .bool xenv.2.2.1, .bool xenv.2.2.2]) rfl (by kernel_rfl) rfl fun bs3 => ?_)
  refine Ok.batch 1 [(2, .pointer (some ⟨bs2, 0, none⟩)), (3, .pointer (some ⟨bs3, 0, none⟩))] (by kernel_rfl) ?_
  refine Ok.nil ?_
  refine Ok.thenN ?_
  refine Ok.seq ?_
  refine Ok.region ?_
  refine Ok.batch 1 [(2, .pointer (some ⟨bs2, 0, none⟩)), (3, .pointer (some ⟨bs3, 0, none⟩)), (5, .int .i64 1)] (by kernel_rfl) ?_
  refine Ok.nil ?_
  refine Ok.thenN ?_
  refine Ok.seq ?_
  refine Ok.seq ?_
  refine Ok.region ?_
  refine Ok.batch 1 [(2, .pointer (some ⟨bs2, 0, none⟩)), (3, .pointer (some ⟨bs3, 0, none⟩)), (5, .int .i64 1), (8, .pointer (some ⟨bs2, 1, none⟩))] (by kernel_rfl) ?_
  refine Ok.op rfl (OpOk.step (v := .slice axq_0 xq.2.length cxq_0) (Yields.load 1 rfl rfl Tryz.underlying26 rfl (by kernel_rfl)) rfl rfl ?_)
  refine Ok.batch 2 [(2, .pointer (some ⟨bs2, 0, none⟩)), (3, .pointer (some ⟨bs3, 0, none⟩)), (5, .int .i64 1), (9, .slice axq_0 xq.2.length cxq_0), (10, .int .i64 (xq.2.length : Int)), (11, .int .i64 0)] (by kernel_rfl) ?_
  refine Ok.nil ?_
  refine Ok.thenN ?_
  refine Ok.block ?_
  obtain ⟨k, hF⟩ := hF
  refine Ok.loop (fun k a W => ∃ (x5l9 : Int) (x11l9 : Int), StA 26 [(2, .pointer (some ⟨bs2, 0, none⟩)), (3, .pointer (some ⟨bs3, 0, none⟩)), (5, .int .i64 x5l9), (9, .slice axq_0 xq.2.length cxq_0), (10, .int .i64 (xq.2.length : Int)), (11, .int .i64 x11l9)] a ∧ StW w0 [.blk bs3 (.cells #[.int .i64 xenv.1, .int .i64 xenv.2.1, .bool xenv.2.2.1, .bool xenv.2.2.2] 24), .blk bs2 (.cells #[.bool xq.1, .slice axq_0 xq.2.length cxq_0] 28)] g W ∧ mall9 xq xenv K k x5l9 x11l9) k ?_ ?_
  ·
    exact fun a W hA hW => ⟨1, 0, hA.sub (by kernel_rfl), hW, hF⟩
  ·
    clear hF
    rintro k9 a W ⟨x5l9, x11l9, hA, hW, hF⟩
    cases k9 with
    | zero => exact (hF : False).elim
    | succ k9 =>
      refine (?_ : Ok _ _ _ _ _ _) a W hA hW
      clear hA hW
      refine Ok.seq ?_
      refine Ok.region ?_
      refine Ok.batch 1 [(2, .pointer (some ⟨bs2, 0, none⟩)), (3, .pointer (some ⟨bs3, 0, none⟩)), (5, .int .i64 x5l9), (9, .slice axq_0 xq.2.length cxq_0), (10, .int .i64 (xq.2.length : Int)), (11, .int .i64 x11l9), (12, .bool (decide (x11l9 < (xq.2.length : Int))))] (by kernel_rfl) ?_
      refine Ok.nil ?_
      refine Ok.thenN ?_
      refine Ok.seq ?_
      refine Ok.cond (b := decide (x11l9 < (xq.2.length : Int))) rfl (fun hc3 => ?_) (fun hc3 => ?_)
      · replace hF := hF.1 hc3
        refine Ok.skip ?_
        refine Ok.thenN ?_
        refine Ok.seq ?_
        refine Ok.block ?_
        refine Ok.seq ?_
        refine Ok.region ?_
        obtain ⟨h05, h15, hF⟩ := hF
        have he5 := get_of (l := xq.2) (default : Int × Int) h15
        generalize hg5 : (xq.2.getD (Int.toNat x11l9) default) = e5 at he5 hF ⊢
        refine Ok.op rfl (OpOk.indexRo (e := .pair (.int .i64) (.int .i64)) (i := x11l9) (el := e5) rfl rfl Tryz.underlying26 (by kernel_rfl) hRxq_0 h05 he5 rfl fun q4 o4 cs4 _ hat4 hr4 => ?_)
        obtain ⟨_, _, rfl, rfl, rfl⟩ := hr4
        replace hat4 : At g q4 o4 [.int .i64 e5.1, .int .i64 e5.2] := hat4
        refine Ok.op rfl (OpOk.step (v := .agg #[.int .i64 e5.1, .int .i64 e5.2]) (Yields.loadAggRo 0 2 #[.int .i64 e5.1, .int .i64 e5.2] hat4 (by kernel_rfl) Tryz.underlying31 rfl (by kernel_rfl) (by kernel_rfl) (by kernel_rfl)) rfl rfl ?_)
        refine Ok.op rfl (OpOk.alloc (z := .agg #[.int .i64 0, .int .i64 0]) (cs := #[.int .i64 0, .int .i64 0]) (by kernel_rfl) (by kernel_rfl) rfl fun bs7 => ?_)
        refine Ok.op rfl (OpOk.store (k := 2) (v := .agg #[.int .i64 e5.1, .int .i64 e5.2]) (H' := [.blk bs7 (.cells #[.int .i64 e5.1, .int .i64 e5.2] 31), .blk bs3 (.cells #[.int .i64 xenv.1, .int .i64 xenv.2.1, .bool xenv.2.2.1, .bool xenv.2.2.2] 24), .blk bs2 (.cells #[.bool xq.1, .slice axq_0 xq.2.length cxq_0] 28)]) 0 rfl rfl rfl (by kernel_rfl) (by kernel_rfl) (by kernel_rfl) (by kernel_rfl) (by kernel_rfl) ?_)
        refine Ok.nil ?_
        refine Ok.thenN ?_
        refine Ok.region ?_
        refine Ok.batch 1 [(2, .pointer (some ⟨bs2, 0, none⟩)), (3, .pointer (some ⟨bs3, 0, none⟩)), (7, .pointer (some ⟨bs7, 0, none⟩)), (9, .slice axq_0 xq.2.length cxq_0), (10, .int .i64 (xq.2.length : Int)), (11, .int .i64 x11l9), (15, .int .i64 x5l9)] (by kernel_rfl) ?_
        refine Ok.op rfl (OpOk.step (v := .agg #[.int .i64 e5.1, .int .i64 e5.2]) (Yields.loadAgg 0 2 #[.int .i64 e5.1, .int .i64 e5.2] rfl rfl Tryz.underlying31 rfl (by kernel_rfl) (by kernel_rfl) (by kernel_rfl)) rfl rfl ?_)
        refine Ok.op rfl (OpOk.step (v := .agg #[.int .i64 xenv.1, .int .i64 xenv.2.1, .bool xenv.2.2.1, .bool xenv.2.2.2]) (Yields.loadAgg 1 4 #[.int .i64 xenv.1, .int .i64 xenv.2.1, .bool xenv.2.2.1, .bool xenv.2.2.2] rfl rfl Tryz.underlying24 rfl (by kernel_rfl) (by kernel_rfl) (by kernel_rfl)) rfl rfl ?_)
        refine Ok.op rfl (OpOk.callG (v := .int .i64 (msoM e5 xenv)) (enters (by kernel_rfl) (fun _ => by kernel_rfl)) (fun W hW => mso_c e5 xenv) rfl ?_)
        refine Ok.batch 2 [(2, .pointer (some ⟨bs2, 0, none⟩)), (3, .pointer (some ⟨bs3, 0, none⟩)), (5, .int .i64 (if (msoM e5 xenv) < x5l9 then (msoM e5 xenv) else x5l9)), (9, .slice axq_0 xq.2.length cxq_0), (10, .int .i64 (xq.2.length : Int)), (11, .int .i64 x11l9)] (by kernel_rfl) ?_
        refine Ok.nil ?_
        refine Ok.blockN ?_
        refine Ok.thenN ?_
        refine Ok.region ?_
        refine Ok.batch 2 [(2, .pointer (some ⟨bs2, 0, none⟩)), (3, .pointer (some ⟨bs3, 0, none⟩)), (5, .int .i64 (if (msoM e5 xenv) < x5l9 then (msoM e5 xenv) else x5l9)), (9, .slice axq_0 xq.2.length cxq_0), (10, .int .i64 (xq.2.length : Int)), (11, .int .i64 (IntKind.wrap .i64 (x11l9 + 1)))] (by kernel_rfl) ?_
        refine Ok.nil ?_
        refine Ok.thenN ?_
        subst hg5
        exact fun a W hA hW => ⟨k9, Nat.lt_succ_self _, (if (msoM (xq.2.getD (Int.toNat x11l9) default) xenv) < x5l9 then (msoM (xq.2.getD (Int.toNat x11l9) default) xenv) else x5l9), IntKind.wrap .i64 (x11l9 + 1), hA.sub (by kernel_rfl), hW.sub (.cons _ (.cons_cons _ (.cons_cons _ .slnil))), hF⟩
      · replace hF := hF.2 hc3
        refine Ok.exit ?_
        refine Ok.thenE ?_
        refine Ok.thenE ?_
        refine Ok.blockHit ?_
        refine Ok.thenN ?_
        refine Ok.cut (fun a W => StA 26 [(5, .int .i64 (malV0 xq x5l9))] a ∧ StW w0 [] g W ∧ malj22 xq K x5l9) ?_ ?_
        ·
          refine Ok.seq ?_
          refine Ok.region ?_
          refine Ok.batch 1 [(5, .int .i64 x5l9), (21, .pointer (some ⟨bs2, 0, none⟩))] (by kernel_rfl) ?_
          refine Ok.op rfl (OpOk.step (v := .bool xq.1) (Yields.load 1 rfl rfl Tryz.underlying4 rfl (by kernel_rfl)) rfl rfl ?_)
          refine Ok.nil ?_
          refine Ok.thenN ?_
          refine Ok.cond (b := xq.1) rfl (fun hc7 => ?_) (fun hc7 => ?_)
          · replace hF := hF.1 hc7
            refine Ok.region ?_
            refine Ok.batch 3 [(5, .int .i64 (IntKind.wrap .i64 (0 - x5l9)))] (by kernel_rfl) ?_
            refine Ok.nil ?_
            refine Ok.thenN ?_
            refine Ok.reval 5 rfl (show (.int .i64 (IntKind.wrap .i64 (0 - x5l9)) : Value) = .int .i64 (malV0 xq x5l9) from congrArg (Value.int .i64) ((if_t hc7).symm)) ?_
            exact fun a W hA hW => ⟨hA.sub (by kernel_rfl), hW.sub (.cons _ (.cons _ .slnil)), hF⟩
          · replace hF := hF.2 hc7
            refine Ok.skip ?_
            refine Ok.thenN ?_
            refine Ok.reval 5 rfl (show (.int .i64 x5l9 : Value) = .int .i64 (malV0 xq x5l9) from congrArg (Value.int .i64) ((if_f hc7).symm)) ?_
            exact fun a W hA hW => ⟨hA.sub (by kernel_rfl), hW.sub (.cons _ (.cons _ .slnil)), hF⟩
        ·
          clear hF
          rintro a W ⟨hA, hW, hF⟩
          refine (?_ : Ok _ _ _ _ _ _) a W hA hW
          clear hA hW
          refine Ok.seq ?_
          refine Ok.region ?_
          refine Ok.batch 2 [(4, .int .i64 (malV0 xq x5l9))] (by kernel_rfl) ?_
          refine Ok.nil ?_
          refine Ok.thenN ?_
          refine Ok.ret ?_
          exact Ok.resH (vs := [.int .i64 (malV0 xq x5l9)]) (.inl rfl) rfl (.cons (.tmp rfl) .nil) (Gext.refl w0 g) ⟨(malV0 xq x5l9), rfl, rfl, hF⟩
def allStep (e : Int × Int × Bool × Bool) (n : Int) (f : Int × Int) : Int := if msoM f e < n then msoM f e else n
def allS (q : Bool × List (Int × Int)) (e : Int × Int × Bool × Bool) : Int := if q.1 = true then -(q.2.foldl (allStep e) 1) else q.2.foldl (allStep e) 1
def allP (q : Bool × List (Int × Int)) (_ : Int × Int × Bool × Bool) : Prop := q.2.length ≤ 1000000
theorem all_range (e : Int × Int × Bool × Bool) : ∀ (l : List (Int × Int)) (n : Int), -1 ≤ n → n ≤ 1 → -1 ≤ l.foldl (allStep e) n ∧ l.foldl (allStep e) n ≤ 1
  | [], n, h0, h1 => ⟨h0, h1⟩
  | f :: l, n, h0, h1 => by
    have := mso_range f e
    refine all_range e l (allStep e n f) ?_ ?_ <;> unfold allStep <;> split <;> omega
theorem mal_F (q : Bool × List (Int × Int)) (e : Int × Int × Bool × Bool) (hp : allP q e) : malF q e (fun r => r = allS q e) := by
  unfold allP at hp
  have hr := all_range e q.2 1 (by omega) (by omega)
  have loop : ∀ (k i : Nat) (n : Int), i + k = q.2.length → (q.2.drop i).foldl (allStep e) n = q.2.foldl (allStep e) 1 → mall9 q e (fun r => r = allS q e) (k + 1) n (i : Int) := by
    intro k
    induction k with
    | zero =>
      intro i n h he
      rw [List.drop_of_length_le (by omega)] at he
      have he : n = q.2.foldl (allStep e) 1 := he
      refine ⟨fun h => by have := of_decide_eq_true h; omega, fun _ => ⟨fun hq => ?_, fun hq => ?_⟩⟩
      · show malV0 q n = allS q e
        unfold malV0 allS
        rw [if_t hq, if_t hq, he, w64 (by omega)]; omega
      · show malV0 q n = allS q e
        unfold malV0 allS
        rw [if_f hq, if_f hq, he]
    | succ k ih =>
      intro i n h he
      rw [drop_get default (by omega)] at he
      refine ⟨fun _ => ⟨by omega, by rw [Int.toNat_natCast]; omega, ?_⟩, fun h => by have := of_decide_eq_false h; omega⟩
      rw [Int.toNat_natCast, w64 (by omega)]
      exact ih (i + 1) _ (by omega) he
  exact ⟨q.2.length + 1, loop q.2.length 0 1 (by omega) rfl⟩
set_option linter.unusedVariables false in
theorem mal_c {g : Ghost} {axq_0 : Option Addr} {cxq_0 : Nat} (xq : Bool × List (Int × Int)) (xenv : Int × Int × Bool × Bool) (hRxq_0 : Rep g (.slice (.pair (.int .i64) (.int .i64))) [.slice axq_0 xq.2.length cxq_0] xq.2)  (hp : allP xq xenv) : CallsG Tryz.prog 13 #[.agg #[.bool xq.1, .slice axq_0 xq.2.length cxq_0], .agg #[.int .i64 xenv.1, .int .i64 xenv.2.1, .bool xenv.2.2.1, .bool xenv.2.2.2]] g (.int .i64 (allS xq xenv)) :=
  (mal_ok xq xenv hRxq_0 _ (mal_F xq xenv hp)).gives (by rintro g' H' v _ ⟨r0, rfl, rfl, hK⟩; subst hK; rfl)
def mhoV0 (xenv : Int × Int × Bool × Bool) : Bool :=
  ((decide (xenv.1 < 1)) || ((decide (xenv.1 > 4000)) || ((decide (xenv.2.1 < 1)) || (decide (xenv.2.1 > 4000)))))
def mhol25b (xs : List UInt8) (xenv : Int × Int × Bool × Bool) (K : Bool → Int → Prop) (x38l25 : Int) (C25 : Int → Prop) : Prop :=
  ((decide (x38l25 < (((readS xs).1).length : Int))) = true → (0 : Int) ≤ x38l25 ∧ Int.toNat x38l25 < ((readS xs).1).length ∧ allP (((readS xs).1).getD (Int.toNat x38l25) default) xenv ∧ ((((allS (((readS xs).1).getD (Int.toNat x38l25) default) xenv) == 1)) = true → K true 0) ∧ ((((allS (((readS xs).1).getD (Int.toNat x38l25) default) xenv) == 1)) = false → C25 (IntKind.wrap .i64 (x38l25 + 1)))) ∧ ((decide (x38l25 < (((readS xs).1).length : Int))) = false → K false 0)
def mhol25 (xs : List UInt8) (xenv : Int × Int × Bool × Bool) (K : Bool → Int → Prop) : Nat → Int → Prop
  | 0, _ => False
  | k + 1, x38l25 => mhol25b xs xenv K x38l25 (mhol25 xs xenv K k)
def mhoj14 (xs : List UInt8) (xenv : Int × Int × Bool × Bool) (K : Bool → Int → Prop) : Prop :=
  (((mhoV0 xenv)) = true → K false 1) ∧ (((mhoV0 xenv)) = false → ∃ k, mhol25 xs xenv K k 0)
def mhoF (xs : List UInt8) (xenv : Int × Int × Bool × Bool) (K : Bool → Int → Prop) : Prop :=
  readP xs ∧ (((((readS xs).2) != 0)) = true → K false ((readS xs).2)) ∧ (((((readS xs).2) != 0)) = false → ((decide (xenv.1 < 1)) = true → mhoj14 xs xenv K) ∧ ((decide (xenv.1 < 1)) = false → ((decide (xenv.1 > 4000)) = true → mhoj14 xs xenv K) ∧ ((decide (xenv.1 > 4000)) = false → ((decide (xenv.2.1 < 1)) = true → mhoj14 xs xenv K) ∧ ((decide (xenv.2.1 < 1)) = false → mhoj14 xs xenv K))))
set_option maxHeartbeats 4000000 in
set_option maxRecDepth 100000 in
set_option linter.unusedVariables false in
theorem mho_ok {g : Ghost} (xs : List UInt8) (xenv : Int × Int × Bool × Bool) (hG0 : GlobL g 0 (.str) DWords) (hG1 : SomeInt g 1) (hG2 : SomeIf g 2) (hG3 : SomeIf g 3) (K : Bool → Int → Prop)
    (hF : mhoF xs xenv K) : CallsH Tryz.prog 8 #[.string ⟨⟨xs⟩⟩, .agg #[.int .i64 xenv.1, .int .i64 xenv.2.1, .bool xenv.2.2.1, .bool xenv.2.2.2]] g [] (fun g' H' v => ∃ (r0 : Bool), ∃ (r1 : Int), v = .tuple #[.bool r0, .int .i64 r1] ∧ H' = [] ∧ K r0 r1) := by
  refine CallsH.enter 47 [(0, .string ⟨⟨xs⟩⟩), (1, .agg #[.int .i64 xenv.1, .int .i64 xenv.2.1, .bool xenv.2.2.1, .bool xenv.2.2.2])] Tryz.func8 rfl (by kernel_rfl) (by kernel_rfl) (by kernel_rfl) fun w0 => ?_
  refine Ok.seq ?_
  refine Ok.region ?_
  refine Ok.op rfl (OpOk.box (v := .agg #[.int .i64 xenv.1, .int .i64 xenv.2.1, .bool xenv.2.2.1, .bool xenv.2.2.2]) (cs := #[.int .i64 xenv.1, .int .i64 xenv.2.1, .bool xenv.2.2.1, .bool xenv.2.2.2]) rfl (by kernel_rfl) rfl fun bs3 => ?_)
  refine Ok.batch 2 [(0, .string ⟨⟨xs⟩⟩), (3, .pointer (some ⟨bs3, 0, none⟩))] (by kernel_rfl) ?_
  refine Ok.nil ?_
  refine Ok.thenN ?_
  refine Ok.seq ?_
  refine Ok.region ?_
  refine Ok.batch 1 [(3, .pointer (some ⟨bs3, 0, none⟩)), (11, .string ⟨⟨xs⟩⟩)] (by kernel_rfl) ?_
  obtain ⟨hp2, hF⟩ := hF
  refine Ok.op rfl (OpOk.callH [] [.blk bs3 (.cells #[.int .i64 xenv.1, .int .i64 xenv.2.1, .bool xenv.2.2.1, .bool xenv.2.2.2] 24)] (enters (by kernel_rfl) (fun _ => by kernel_rfl)) rfl (mre_c xs hG0 hG1 hG2 hG3 hp2) rfl fun g3 _ _ hx3 hV3 => ?_)
  obtain ⟨a3_0, c3_0, rfl, hR3_0, rfl⟩ := hV3
  replace hG0 := hG0.mono hx3.1
  replace hG1 := hG1.mono hx3.1
  replace hG2 := hG2.mono hx3.1
  replace hG3 := hG3.mono hx3.1
  refine Ok.batch 5 [(3, .pointer (some ⟨bs3, 0, none⟩)), (6, .slice a3_0 ((readS xs).1).length c3_0), (7, .int .i64 ((readS xs).2))] (by kernel_rfl) ?_
  refine Ok.nil ?_
  refine Ok.thenN ?_
  refine Ok.seq ?_
  refine Ok.seq ?_
  refine Ok.region ?_
  refine Ok.batch 2 [(3, .pointer (some ⟨bs3, 0, none⟩)), (6, .slice a3_0 ((readS xs).1).length c3_0), (7, .int .i64 ((readS xs).2)), (16, .bool (((readS xs).2) != 0))] (by kernel_rfl) ?_
  refine Ok.nil ?_
  refine Ok.thenN ?_
  refine Ok.cond (b := (((readS xs).2) != 0)) rfl (fun hc4 => ?_) (fun hc4 => ?_)
  · replace hF := hF.1 hc4
    refine Ok.seq ?_
    refine Ok.region ?_
    refine Ok.batch 3 [(4, .bool false), (5, .int .i64 ((readS xs).2))] (by kernel_rfl) ?_
    refine Ok.nil ?_
    refine Ok.thenN ?_
    refine Ok.ret ?_
    refine Ok.thenR ?_
    exact Ok.resP (vs := [.bool false, .int .i64 ((readS xs).2)]) [] [] (by decide) rfl (.inl rfl) rfl (.cons (.tmp rfl) (.cons (.tmp rfl) .nil)) hx3 ⟨false, ((readS xs).2), rfl, rfl, hF⟩
  · replace hF := hF.2 hc4
    refine Ok.skip ?_
    refine Ok.thenN ?_
    refine Ok.seq ?_
    refine Ok.cut (fun a W => ∃ gj14 : Ghost, Gext w0 g3 gj14 ∧ StA 47 [(3, .pointer (some ⟨bs3, 0, none⟩)), (6, .slice a3_0 ((readS xs).1).length c3_0), (35, .bool (mhoV0 xenv))] a ∧ StW w0 [.blk bs3 (.cells #[.int .i64 xenv.1, .int .i64 xenv.2.1, .bool xenv.2.2.1, .bool xenv.2.2.2] 24)] gj14 W ∧ mhoj14 xs xenv K) ?_ ?_
    ·
      refine Ok.region ?_
      refine Ok.batch 1 [(3, .pointer (some ⟨bs3, 0, none⟩)), (6, .slice a3_0 ((readS xs).1).length c3_0), (18, .pointer (some ⟨bs3, 0, none⟩))] (by kernel_rfl) ?_
      refine Ok.op rfl (OpOk.step (v := .int .i64 xenv.1) (Yields.load 0 rfl rfl Tryz.underlying3 rfl (by kernel_rfl)) rfl rfl ?_)
      refine Ok.batch 2 [(3, .pointer (some ⟨bs3, 0, none⟩)), (6, .slice a3_0 ((readS xs).1).length c3_0), (21, .bool (decide (xenv.1 < 1)))] (by kernel_rfl) ?_
      refine Ok.boolAt 21 (decide (xenv.1 < 1)) rfl (fun hc12 => ?_) (fun hc12 => ?_)
      · replace hF := hF.1 hc12
        refine Ok.batch 14 [(3, .pointer (some ⟨bs3, 0, none⟩)), (6, .slice a3_0 ((readS xs).1).length c3_0), (35, .bool true)] (by kernel_rfl) ?_
        refine Ok.nil ?_
        refine Ok.thenN ?_
        refine Ok.reval 35 rfl (show (.bool true : Value) = .bool (mhoV0 xenv) from congrArg (Value.bool) (mor_t hc12)) ?_
        exact fun a W hA hW => ⟨g3, (Gext.refl w0 g3), hA.sub (by kernel_rfl), hW, hF⟩
      · replace hF := hF.2 hc12
        refine Ok.batch 1 [(3, .pointer (some ⟨bs3, 0, none⟩)), (6, .slice a3_0 ((readS xs).1).length c3_0), (21, .bool false), (22, .pointer (some ⟨bs3, 0, none⟩))] (by kernel_rfl) ?_
        refine Ok.opYes (j := 3) (d := 21) (want := false) (b := false) rfl (by kernel_rfl) (by kernel_rfl) rfl (OpOk.step (v := .int .i64 xenv.1) (Yields.load 0 rfl rfl Tryz.underlying3 rfl (by kernel_rfl)) rfl rfl ?_)
        refine Ok.batch 3 [(3, .pointer (some ⟨bs3, 0, none⟩)), (6, .slice a3_0 ((readS xs).1).length c3_0), (26, .bool (decide (xenv.1 > 4000)))] (by kernel_rfl) ?_
        refine Ok.boolAt 26 (decide (xenv.1 > 4000)) rfl (fun hc13 => ?_) (fun hc13 => ?_)
        · replace hF := hF.1 hc13
          refine Ok.batch 9 [(3, .pointer (some ⟨bs3, 0, none⟩)), (6, .slice a3_0 ((readS xs).1).length c3_0), (35, .bool true)] (by kernel_rfl) ?_
          refine Ok.nil ?_
          refine Ok.thenN ?_
          refine Ok.reval 35 rfl (show (.bool true : Value) = .bool (mhoV0 xenv) from congrArg (Value.bool) ((Eq.trans (mor_t hc13) (mor_f hc12)))) ?_
          exact fun a W hA hW => ⟨g3, (Gext.refl w0 g3), hA.sub (by kernel_rfl), hW, hF⟩
        · replace hF := hF.2 hc13
          refine Ok.batch 1 [(3, .pointer (some ⟨bs3, 0, none⟩)), (6, .slice a3_0 ((readS xs).1).length c3_0), (26, .bool false), (27, .pointer (some ⟨bs3, 1, none⟩))] (by kernel_rfl) ?_
          refine Ok.opYes (j := 8) (d := 26) (want := false) (b := false) rfl (by kernel_rfl) (by kernel_rfl) rfl (OpOk.step (v := .int .i64 xenv.2.1) (Yields.load 0 rfl rfl Tryz.underlying3 rfl (by kernel_rfl)) rfl rfl ?_)
          refine Ok.batch 3 [(3, .pointer (some ⟨bs3, 0, none⟩)), (6, .slice a3_0 ((readS xs).1).length c3_0), (31, .bool (decide (xenv.2.1 < 1)))] (by kernel_rfl) ?_
          refine Ok.boolAt 31 (decide (xenv.2.1 < 1)) rfl (fun hc14 => ?_) (fun hc14 => ?_)
          · replace hF := hF.1 hc14
            refine Ok.batch 4 [(3, .pointer (some ⟨bs3, 0, none⟩)), (6, .slice a3_0 ((readS xs).1).length c3_0), (35, .bool true)] (by kernel_rfl) ?_
            refine Ok.nil ?_
            refine Ok.thenN ?_
            refine Ok.reval 35 rfl (show (.bool true : Value) = .bool (mhoV0 xenv) from congrArg (Value.bool) ((Eq.trans ((Eq.trans (mor_t hc14) (mor_f hc13))) (mor_f hc12)))) ?_
            exact fun a W hA hW => ⟨g3, (Gext.refl w0 g3), hA.sub (by kernel_rfl), hW, hF⟩
          · replace hF := hF.2 hc14
            refine Ok.batch 1 [(3, .pointer (some ⟨bs3, 0, none⟩)), (6, .slice a3_0 ((readS xs).1).length c3_0), (31, .bool false), (32, .pointer (some ⟨bs3, 1, none⟩))] (by kernel_rfl) ?_
            refine Ok.opYes (j := 13) (d := 31) (want := false) (b := false) rfl (by kernel_rfl) (by kernel_rfl) rfl (OpOk.step (v := .int .i64 xenv.2.1) (Yields.load 0 rfl rfl Tryz.underlying3 rfl (by kernel_rfl)) rfl rfl ?_)
            refine Ok.batch 2 [(3, .pointer (some ⟨bs3, 0, none⟩)), (6, .slice a3_0 ((readS xs).1).length c3_0), (35, .bool (decide (xenv.2.1 > 4000)))] (by kernel_rfl) ?_
            refine Ok.nil ?_
            refine Ok.thenN ?_
            refine Ok.reval 35 rfl (show (.bool (decide (xenv.2.1 > 4000)) : Value) = .bool (mhoV0 xenv) from congrArg (Value.bool) ((Eq.trans ((Eq.trans (mor_f hc14) (mor_f hc13))) (mor_f hc12)))) ?_
            exact fun a W hA hW => ⟨g3, (Gext.refl w0 g3), hA.sub (by kernel_rfl), hW, hF⟩
    ·
      clear hF
      rintro a W ⟨gj14, hxj14, hA, hW, hF⟩
      refine (?_ : Ok _ _ _ _ _ _) a W hA hW
      clear hA hW
      replace hR3_0 := hR3_0.mono hxj14.1
      replace hG0 := hG0.mono hxj14.1
      replace hG1 := hG1.mono hxj14.1
      replace hG2 := hG2.mono hxj14.1
      replace hG3 := hG3.mono hxj14.1
      refine Ok.cond (b := (mhoV0 xenv)) rfl (fun hc5 => ?_) (fun hc5 => ?_)
      · replace hF := hF.1 hc5
        refine Ok.seq ?_
        refine Ok.region ?_
        refine Ok.batch 2 [(4, .bool false), (5, .int .i64 1)] (by kernel_rfl) ?_
        refine Ok.nil ?_
        refine Ok.thenN ?_
        refine Ok.ret ?_
        refine Ok.thenR ?_
        exact Ok.resP (vs := [.bool false, .int .i64 1]) [] [] (by decide) rfl (.inl rfl) rfl (.cons (.tmp rfl) (.cons (.tmp rfl) .nil)) (hx3.trans hxj14) ⟨false, 1, rfl, rfl, hF⟩
      · replace hF := hF.2 hc5
        refine Ok.skip ?_
        refine Ok.thenN ?_
        refine Ok.seq ?_
        refine Ok.seq ?_
        refine Ok.region ?_
        refine Ok.batch 3 [(3, .pointer (some ⟨bs3, 0, none⟩)), (36, .slice a3_0 ((readS xs).1).length c3_0), (37, .int .i64 (((readS xs).1).length : Int)), (38, .int .i64 0)] (by kernel_rfl) ?_
        refine Ok.nil ?_
        refine Ok.thenN ?_
        refine Ok.block ?_
        obtain ⟨k, hF⟩ := hF
        refine Ok.loop (fun k a W => ∃ gl25 : Ghost, Gext w0 gj14 gl25 ∧ ∃ (x38l25 : Int), StA 47 [(3, .pointer (some ⟨bs3, 0, none⟩)), (36, .slice a3_0 ((readS xs).1).length c3_0), (37, .int .i64 (((readS xs).1).length : Int)), (38, .int .i64 x38l25)] a ∧ StW w0 [.blk bs3 (.cells #[.int .i64 xenv.1, .int .i64 xenv.2.1, .bool xenv.2.2.1, .bool xenv.2.2.2] 24)] gl25 W ∧ mhol25 xs xenv K k x38l25) k ?_ ?_
        ·
          exact fun a W hA hW => ⟨gj14, (Gext.refl w0 gj14), 0, hA.sub (by kernel_rfl), hW, hF⟩
        ·
          clear hF
          rintro k25 a W ⟨gl25, hxl25, x38l25, hA, hW, hF⟩
          cases k25 with
          | zero => exact (hF : False).elim
          | succ k25 =>
            refine (?_ : Ok _ _ _ _ _ _) a W hA hW
            clear hA hW
            replace hR3_0 := hR3_0.mono hxl25.1
            replace hG0 := hG0.mono hxl25.1
            replace hG1 := hG1.mono hxl25.1
            replace hG2 := hG2.mono hxl25.1
            replace hG3 := hG3.mono hxl25.1
            refine Ok.seq ?_
            refine Ok.region ?_
            refine Ok.batch 1 [(3, .pointer (some ⟨bs3, 0, none⟩)), (36, .slice a3_0 ((readS xs).1).length c3_0), (37, .int .i64 (((readS xs).1).length : Int)), (38, .int .i64 x38l25), (39, .bool (decide (x38l25 < (((readS xs).1).length : Int))))] (by kernel_rfl) ?_
            refine Ok.nil ?_
            refine Ok.thenN ?_
            refine Ok.seq ?_
            refine Ok.cond (b := decide (x38l25 < (((readS xs).1).length : Int))) rfl (fun hc6 => ?_) (fun hc6 => ?_)
            · replace hF := hF.1 hc6
              refine Ok.skip ?_
              refine Ok.thenN ?_
              refine Ok.seq ?_
              refine Ok.block ?_
              refine Ok.seq ?_
              refine Ok.region ?_
              obtain ⟨h08, h18, hF⟩ := hF
              have he8 := get_of (l := (readS xs).1) (default : Bool × List (Int × Int)) h18
              generalize hg8 : (((readS xs).1).getD (Int.toNat x38l25) default) = e8 at he8 hF ⊢
              refine Ok.op rfl (OpOk.indexRo (e := .pair (.bool) (.slice (.pair (.int .i64) (.int .i64)))) (i := x38l25) (el := e8) rfl rfl Tryz.underlying22 (by kernel_rfl) hR3_0 h08 he8 rfl fun q7 o7 cs7 _ hat7 hr7 => ?_)
              obtain ⟨_, _, rfl, rfl, ⟨a7_1, c7_1, rfl, hm7_1, hr7_1⟩⟩ := hr7
              have hR7_1 : Rep gl25 (.slice (.pair (.int .i64) (.int .i64))) [.slice a7_1 e8.2.length c7_1] e8.2 := ⟨a7_1, c7_1, rfl, hm7_1, hr7_1⟩
              replace hat7 : At gl25 q7 o7 [.bool e8.1, .slice a7_1 e8.2.length c7_1] := hat7
              refine Ok.op rfl (OpOk.step (v := .agg #[.bool e8.1, .slice a7_1 e8.2.length c7_1]) (Yields.loadAggRo 0 2 #[.bool e8.1, .slice a7_1 e8.2.length c7_1] hat7 (by kernel_rfl) Tryz.underlying28 rfl (by kernel_rfl) (by kernel_rfl) (by kernel_rfl)) rfl rfl ?_)
              refine Ok.op rfl (OpOk.alloc (z := .agg #[.bool false, .slice none 0 0]) (cs := #[.bool false, .slice none 0 0]) (by kernel_rfl) (by kernel_rfl) rfl fun bs9 => ?_)
              refine Ok.op rfl (OpOk.store (k := 2) (v := .agg #[.bool e8.1, .slice a7_1 e8.2.length c7_1]) (H' := [.blk bs9 (.cells #[.bool e8.1, .slice a7_1 e8.2.length c7_1] 28), .blk bs3 (.cells #[.int .i64 xenv.1, .int .i64 xenv.2.1, .bool xenv.2.2.1, .bool xenv.2.2.2] 24)]) 0 rfl rfl rfl (by kernel_rfl) (by kernel_rfl) (by kernel_rfl) (by kernel_rfl) (by kernel_rfl) ?_)
              refine Ok.nil ?_
              refine Ok.thenN ?_
              refine Ok.seq ?_
              refine Ok.region ?_
              refine Ok.op rfl (OpOk.step (v := .agg #[.bool e8.1, .slice a7_1 e8.2.length c7_1]) (Yields.loadAgg 0 2 #[.bool e8.1, .slice a7_1 e8.2.length c7_1] rfl rfl Tryz.underlying28 rfl (by kernel_rfl) (by kernel_rfl) (by kernel_rfl)) rfl rfl ?_)
              refine Ok.op rfl (OpOk.step (v := .agg #[.int .i64 xenv.1, .int .i64 xenv.2.1, .bool xenv.2.2.1, .bool xenv.2.2.2]) (Yields.loadAgg 1 4 #[.int .i64 xenv.1, .int .i64 xenv.2.1, .bool xenv.2.2.1, .bool xenv.2.2.2] rfl rfl Tryz.underlying24 rfl (by kernel_rfl) (by kernel_rfl) (by kernel_rfl)) rfl rfl ?_)
              obtain ⟨hp10, hF⟩ := hF
              refine Ok.op rfl (OpOk.callG (v := .int .i64 (allS e8 xenv)) (enters (by kernel_rfl) (fun _ => by kernel_rfl)) (fun W hW => mal_c e8 xenv (hR7_1.mono hW.sees) hp10) rfl ?_)
              refine Ok.batch 1 [(3, .pointer (some ⟨bs3, 0, none⟩)), (36, .slice a3_0 ((readS xs).1).length c3_0), (37, .int .i64 (((readS xs).1).length : Int)), (38, .int .i64 x38l25), (45, .bool ((allS e8 xenv) == 1))] (by kernel_rfl) ?_
              refine Ok.nil ?_
              refine Ok.thenN ?_
              refine Ok.cond (b := ((allS e8 xenv) == 1)) rfl (fun hc11 => ?_) (fun hc11 => ?_)
              · replace hF := hF.1 hc11
                refine Ok.seq ?_
                refine Ok.region ?_
                refine Ok.batch 2 [(4, .bool true), (5, .int .i64 0)] (by kernel_rfl) ?_
                refine Ok.nil ?_
                refine Ok.thenN ?_
                refine Ok.ret ?_
                refine Ok.blockR ?_
                refine Ok.thenR ?_
                refine Ok.thenR ?_
                refine Ok.blockR ?_
                refine Ok.thenR ?_
                exact Ok.resP (vs := [.bool true, .int .i64 0]) [] [] (by decide) rfl (.inl rfl) rfl (.cons (.tmp rfl) (.cons (.tmp rfl) .nil)) ((hx3.trans hxj14).trans hxl25) ⟨true, 0, rfl, rfl, hF⟩
              · replace hF := hF.2 hc11
                refine Ok.skip ?_
                refine Ok.blockN ?_
                refine Ok.thenN ?_
                refine Ok.region ?_
                refine Ok.batch 2 [(3, .pointer (some ⟨bs3, 0, none⟩)), (36, .slice a3_0 ((readS xs).1).length c3_0), (37, .int .i64 (((readS xs).1).length : Int)), (38, .int .i64 (IntKind.wrap .i64 (x38l25 + 1)))] (by kernel_rfl) ?_
                refine Ok.nil ?_
                refine Ok.thenN ?_
                subst hg8
                exact fun a W hA hW => ⟨k25, Nat.lt_succ_self _, gl25, hxl25, IntKind.wrap .i64 (x38l25 + 1), hA.sub (by kernel_rfl), hW.sub (.cons _ (.cons_cons _ .slnil)), hF⟩
            · replace hF := hF.2 hc6
              refine Ok.exit ?_
              refine Ok.thenE ?_
              refine Ok.thenE ?_
              refine Ok.blockHit ?_
              refine Ok.thenN ?_
              refine Ok.seq ?_
              refine Ok.region ?_
              refine Ok.batch 2 [(4, .bool false), (5, .int .i64 0)] (by kernel_rfl) ?_
              refine Ok.nil ?_
              refine Ok.thenN ?_
              refine Ok.ret ?_
              exact Ok.resP (vs := [.bool false, .int .i64 0]) [] [] (by decide) rfl (.inl rfl) rfl (.cons (.tmp rfl) (.cons (.tmp rfl) .nil)) ((hx3.trans hxj14).trans hxl25) ⟨false, 0, rfl, rfl, hF⟩
def holdS (s : List UInt8) (e : Int × Int × Bool × Bool) : Bool × Int :=
  if ((readS s).2 != 0) = true then (false, (readS s).2) else if mhoV0 e = true then (false, 1) else ((readS s).1.any (fun q => allS q e == 1), 0)
def holdP (s : List UInt8) (_ : Int × Int × Bool × Bool) : Prop := readP s
theorem quer_len : ∀ (k : Nat) (l : List Tok) (fs : List (Int × Int)), (querN k l fs).1.length ≤ fs.length + k
  | 0, _, fs => by rw [querN]; exact Nat.le_refl _
  | k + 1, l, fs => by
    have := quer_len k ((l.drop (Int.toNat (mquV4 (l.getD 0 default) l))).drop 1) (fs ++ [(mquV5 (l.getD 0 default) l, mquV6 (l.getD 0 default) l)])
    rw [List.length_append] at this
    simp only [List.length_cons, List.length_nil] at this
    rw [querN]
    simp only
    repeat' split
    all_goals first
      | (show fs.length ≤ _; omega)
      | (simp only [List.length_append, List.length_cons, List.length_nil]; omega)
      | omega
theorem read_len {s : List UInt8} (hp : readP s) : (readS s).1.length ≤ 1001 ∧ ∀ q ∈ (readS s).1, q.2.length ≤ 1001 := by
  unfold readS
  split
  · exact ⟨Nat.zero_le _, fun q h => by cases h⟩
  · rename_i h
    have h : decide ((s.length : Int) > 400) = false := by simpa using h
    have hl := of_decide_eq_false h
    obtain ⟨h1, h2⟩ := hp (by omega)
    have hpi := pieS_ok (solid_ok h2)
    split
    · refine ⟨by decide, fun q h => ?_⟩
      rw [List.mem_singleton] at h
      subst h; decide
    · refine ⟨by rw [List.length_map]; exact hpi.2, fun q hq => ?_⟩
      obtain ⟨p, hm, rfl⟩ := List.mem_map.1 hq
      have hp := hpi.1 p hm
      unfold qOf mreV0
      simp only
      split
      · decide
      · have := quer_len (p.length + 1) (if mquV0 p = true then p.drop 1 else p) []
        have hl := hp.1
        simp only [List.length_nil] at this
        show (querR p).1.length ≤ _
        unfold querR
        omega
theorem mho_F (s : List UInt8) (e : Int × Int × Bool × Bool) (hp : holdP s e) : mhoF s e (fun r r1 => (r, r1) = holdS s e) := by
  have hlen := read_len hp
  refine ⟨hp, fun h => ?_, fun h => ?_⟩
  · unfold holdS; rw [if_t h]
  · have j14 : mhoj14 s e (fun r r1 => (r, r1) = holdS s e) := by
      unfold holdS
      refine ⟨fun hv => ?_, fun hv => ?_⟩
      · rw [if_f h, if_t hv]
      · rw [if_f h, if_f hv]
        generalize hR : (readS s).1 = R at *
        have loop : ∀ (k i : Nat), i + k = R.length → R.any (fun q => allS q e == 1) = (R.drop i).any (fun q => allS q e == 1) → mhol25 s e (fun r r1 => (r, r1) = (R.any (fun q => allS q e == 1), (0 : Int))) (k + 1) (i : Int) := by
          intro k
          induction k with
          | zero =>
            intro i h he
            rw [List.drop_of_length_le (by omega)] at he
            refine ⟨fun h => ?_, fun _ => by rw [he]; rfl⟩
            have := of_decide_eq_true h
            rw [hR] at this
            omega
          | succ k ih =>
            intro i h he
            rw [drop_get default (by omega), List.any_cons] at he
            refine ⟨fun _ => ?_, fun h => ?_⟩
            · rw [hR, Int.toNat_natCast]
              have hm : R.getD i default ∈ R := by
                rw [List.getD_eq_getElem?_getD, List.getElem?_eq_getElem (show i < R.length by omega), Option.getD_some]
                exact List.getElem_mem _
              refine ⟨by omega, by omega, by have := hlen.2 _ hm; unfold allP; omega, fun h1 => ?_, fun h1 => ?_⟩
              · rw [he, h1]; rfl
              · rw [h1, Bool.false_or] at he
                rw [w64 (by omega)]
                exact ih (i + 1) (by omega) he
            · have := of_decide_eq_false h
              rw [hR] at this
              omega
        exact ⟨R.length + 1, loop R.length 0 (by omega) rfl⟩
    exact ⟨fun _ => j14, fun _ => ⟨fun _ => j14, fun _ => ⟨fun _ => j14, fun _ => j14⟩⟩⟩
set_option linter.unusedVariables false in
theorem mho_c {g : Ghost} (xs : List UInt8) (xenv : Int × Int × Bool × Bool) (hG0 : GlobL g 0 (.str) DWords) (hG1 : SomeInt g 1) (hG2 : SomeIf g 2) (hG3 : SomeIf g 3)  (hp : holdP xs xenv) : CallsG Tryz.prog 8 #[.string ⟨⟨xs⟩⟩, .agg #[.int .i64 xenv.1, .int .i64 xenv.2.1, .bool xenv.2.2.1, .bool xenv.2.2.2]] g (.tuple #[.bool ((holdS xs xenv).1), .int .i64 ((holdS xs xenv).2)]) :=
  (mho_ok xs xenv hG0 hG1 hG2 hG3 _ (mho_F xs xenv hp)).gives (by rintro g' H' v _ ⟨r0, r1, rfl, rfl, hK⟩; obtain ⟨rfl, rfl⟩ : r0 = (holdS xs xenv).1 ∧ r1 = (holdS xs xenv).2 := ⟨congrArg (fun z => z.1) hK, congrArg (fun z => z.2) hK⟩; rfl)
def widF (K : Bool → Prop) : Prop :=
  holdP ([40, 109, 105, 110, 45, 119, 105, 100, 116, 104, 58, 32, 54, 48, 48, 112, 120, 41] : List UInt8) (600, 1, false, false) ∧ K (((holdS ([40, 109, 105, 110, 45, 119, 105, 100, 116, 104, 58, 32, 54, 48, 48, 112, 120, 41] : List UInt8) (600, 1, false, false)).1) && (((holdS ([40, 109, 105, 110, 45, 119, 105, 100, 116, 104, 58, 32, 54, 48, 48, 112, 120, 41] : List UInt8) (600, 1, false, false)).2) == 0))
set_option maxHeartbeats 4000000 in
set_option maxRecDepth 100000 in
set_option linter.unusedVariables false in
theorem wid_ok {g : Ghost}  (hG0 : GlobL g 0 (.str) DWords) (hG1 : SomeInt g 1) (hG2 : SomeIf g 2) (hG3 : SomeIf g 3) (K : Bool → Prop)
    (hF : widF K) : CallsH Tryz.prog 4 #[] g [] (fun g' H' v => ∃ (r0 : Bool), v = .bool r0 ∧ H' = [] ∧ K r0) := by
  refine CallsH.enter 13 [] Tryz.func4 rfl (by kernel_rfl) (by kernel_rfl) (by kernel_rfl) fun w0 => ?_
  refine Ok.seq ?_
  refine Ok.region ?_
  refine Ok.batch 1 [] (by kernel_rfl) ?_
  refine Ok.nil ?_
  refine Ok.thenN ?_
  refine Ok.seq ?_
  refine Ok.region ?_
  refine Ok.batch 1 [(4, .agg #[.int .i64 600, .int .i64 1, .bool false, .bool false])] (by kernel_rfl) ?_
  obtain ⟨hp1, hF⟩ := hF
  refine Ok.op rfl (OpOk.callG (v := .tuple #[.bool ((holdS ([40, 109, 105, 110, 45, 119, 105, 100, 116, 104, 58, 32, 54, 48, 48, 112, 120, 41] : List UInt8) (600, 1, false, false)).1), .int .i64 ((holdS ([40, 109, 105, 110, 45, 119, 105, 100, 116, 104, 58, 32, 54, 48, 48, 112, 120, 41] : List UInt8) (600, 1, false, false)).2)]) (enters (by kernel_rfl) (fun _ => by kernel_rfl)) (fun W hW => mho_c ([40, 109, 105, 110, 45, 119, 105, 100, 116, 104, 58, 32, 54, 48, 48, 112, 120, 41] : List UInt8) (600, 1, false, false) (hG0.mono hW.sees) (hG1.mono hW.sees) (hG2.mono hW.sees) (hG3.mono hW.sees) hp1) rfl ?_)
  refine Ok.batch 5 [(1, .bool ((holdS ([40, 109, 105, 110, 45, 119, 105, 100, 116, 104, 58, 32, 54, 48, 48, 112, 120, 41] : List UInt8) (600, 1, false, false)).1)), (2, .int .i64 ((holdS ([40, 109, 105, 110, 45, 119, 105, 100, 116, 104, 58, 32, 54, 48, 48, 112, 120, 41] : List UInt8) (600, 1, false, false)).2))] (by kernel_rfl) ?_
  refine Ok.nil ?_
  refine Ok.thenN ?_
  refine Ok.seq ?_
  refine Ok.region ?_
  refine Ok.batch 2 [(2, .int .i64 ((holdS ([40, 109, 105, 110, 45, 119, 105, 100, 116, 104, 58, 32, 54, 48, 48, 112, 120, 41] : List UInt8) (600, 1, false, false)).2)), (9, .bool ((holdS ([40, 109, 105, 110, 45, 119, 105, 100, 116, 104, 58, 32, 54, 48, 48, 112, 120, 41] : List UInt8) (600, 1, false, false)).1))] (by kernel_rfl) ?_
  refine Ok.midway 3 [(12, .bool (((holdS ([40, 109, 105, 110, 45, 119, 105, 100, 116, 104, 58, 32, 54, 48, 48, 112, 120, 41] : List UInt8) (600, 1, false, false)).1) && (((holdS ([40, 109, 105, 110, 45, 119, 105, 100, 116, 104, 58, 32, 54, 48, 48, 112, 120, 41] : List UInt8) (600, 1, false, false)).2) == 0)))] (fun hR2 => ?_) ?_
  · refine Ok.boolAt 9 ((holdS ([40, 109, 105, 110, 45, 119, 105, 100, 116, 104, 58, 32, 54, 48, 48, 112, 120, 41] : List UInt8) (600, 1, false, false)).1) rfl (fun hc3 => ?_) (fun hc3 => ?_)
    · skip
      refine Ok.batch 3 [(12, .bool (((holdS ([40, 109, 105, 110, 45, 119, 105, 100, 116, 104, 58, 32, 54, 48, 48, 112, 120, 41] : List UInt8) (600, 1, false, false)).2) == 0))] (by kernel_rfl) ?_
      refine Ok.reval 12 rfl (show (.bool (((holdS ([40, 109, 105, 110, 45, 119, 105, 100, 116, 104, 58, 32, 54, 48, 48, 112, 120, 41] : List UInt8) (600, 1, false, false)).2) == 0) : Value) = .bool (((holdS ([40, 109, 105, 110, 45, 119, 105, 100, 116, 104, 58, 32, 54, 48, 48, 112, 120, 41] : List UInt8) (600, 1, false, false)).1) && (((holdS ([40, 109, 105, 110, 45, 119, 105, 100, 116, 104, 58, 32, 54, 48, 48, 112, 120, 41] : List UInt8) (600, 1, false, false)).2) == 0)) from congrArg Value.bool (mand_t hc3)) ?_
      refine Ok.batch 0 [(12, .bool (((holdS ([40, 109, 105, 110, 45, 119, 105, 100, 116, 104, 58, 32, 54, 48, 48, 112, 120, 41] : List UInt8) (600, 1, false, false)).1) && (((holdS ([40, 109, 105, 110, 45, 119, 105, 100, 116, 104, 58, 32, 54, 48, 48, 112, 120, 41] : List UInt8) (600, 1, false, false)).2) == 0)))] (by kernel_rfl) ?_
      exact hR2
    · skip
      refine Ok.batch 3 [(12, .bool false)] (by kernel_rfl) ?_
      refine Ok.reval 12 rfl (show (.bool false : Value) = .bool (((holdS ([40, 109, 105, 110, 45, 119, 105, 100, 116, 104, 58, 32, 54, 48, 48, 112, 120, 41] : List UInt8) (600, 1, false, false)).1) && (((holdS ([40, 109, 105, 110, 45, 119, 105, 100, 116, 104, 58, 32, 54, 48, 48, 112, 120, 41] : List UInt8) (600, 1, false, false)).2) == 0)) from congrArg Value.bool (mand_f hc3)) ?_
      refine Ok.batch 0 [(12, .bool (((holdS ([40, 109, 105, 110, 45, 119, 105, 100, 116, 104, 58, 32, 54, 48, 48, 112, 120, 41] : List UInt8) (600, 1, false, false)).1) && (((holdS ([40, 109, 105, 110, 45, 119, 105, 100, 116, 104, 58, 32, 54, 48, 48, 112, 120, 41] : List UInt8) (600, 1, false, false)).2) == 0)))] (by kernel_rfl) ?_
      exact hR2
  refine Ok.batch 1 [(0, .bool (((holdS ([40, 109, 105, 110, 45, 119, 105, 100, 116, 104, 58, 32, 54, 48, 48, 112, 120, 41] : List UInt8) (600, 1, false, false)).1) && (((holdS ([40, 109, 105, 110, 45, 119, 105, 100, 116, 104, 58, 32, 54, 48, 48, 112, 120, 41] : List UInt8) (600, 1, false, false)).2) == 0)))] (by kernel_rfl) ?_
  refine Ok.nil ?_
  refine Ok.thenN ?_
  refine Ok.ret ?_
  exact Ok.resH (vs := [.bool (((holdS ([40, 109, 105, 110, 45, 119, 105, 100, 116, 104, 58, 32, 54, 48, 48, 112, 120, 41] : List UInt8) (600, 1, false, false)).1) && (((holdS ([40, 109, 105, 110, 45, 119, 105, 100, 116, 104, 58, 32, 54, 48, 48, 112, 120, 41] : List UInt8) (600, 1, false, false)).2) == 0))]) (.inl rfl) rfl (.cons (.tmp rfl) .nil) (Gext.refl w0 g) ⟨(((holdS ([40, 109, 105, 110, 45, 119, 105, 100, 116, 104, 58, 32, 54, 48, 48, 112, 120, 41] : List UInt8) (600, 1, false, false)).1) && (((holdS ([40, 109, 105, 110, 45, 119, 105, 100, 116, 104, 58, 32, 54, 48, 48, 112, 120, 41] : List UInt8) (600, 1, false, false)).2) == 0)), rfl, rfl, hF⟩
abbrev DWide : List UInt8 := [40, 109, 105, 110, 45, 119, 105, 100, 116, 104, 58, 32, 54, 48, 48, 112, 120, 41]
set_option maxRecDepth 100000 in
theorem wide_cut : cutP DWide := ⟨by decide, by decide +kernel⟩
set_option maxRecDepth 100000 in
theorem wide_toks : toksOK (cutS DWide) := ⟨by decide +kernel, by decide +kernel⟩
set_option maxRecDepth 100000 in
theorem wide_hold : holdS DWide (600, 1, false, false) = (true, 0) := by decide +kernel
theorem wid_F : widF (fun r => r = true) := ⟨fun _ => ⟨wide_cut, wide_toks⟩, by rw [wide_hold]; rfl⟩
set_option linter.unusedVariables false in
theorem wid_c {g : Ghost}  (hG0 : GlobL g 0 (.str) DWords) (hG1 : SomeInt g 1) (hG2 : SomeIf g 2) (hG3 : SomeIf g 3)  : CallsG Tryz.prog 4 #[] g (.bool true) :=
  (wid_ok  hG0 hG1 hG2 hG3 _ (wid_F )).gives (by rintro g' H' v _ ⟨r0, rfl, rfl, hK⟩; subst hK; rfl)
end Go.Proofs.YtjehllphdpkjeaaGreatDoor.Me
