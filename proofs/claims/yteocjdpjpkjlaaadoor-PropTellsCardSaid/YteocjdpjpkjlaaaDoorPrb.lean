/- Properties: what fits (second part). -/
import Derived.Test.YteocjdpjpkjlaaaDoorPra
namespace Go.Proofs.YteocjdpjpkjlaaaDoor.Pf
open Go Go.Eng Go.RowKit Sp
set_option linter.unusedVariables false
def pfitj32 (xv : Int × Int) (K : Bool → Prop) : Prop :=
  K ((decide (xv.2 ≥ 0)) && (decide (xv.2 < 4294967296)))
def pfitj71 (xp : Int) (xv : Int × Int) (K : Bool → Prop) : Prop :=
  K ((decide (xv.2 ≥ (if (xp == 37) = true then 64 else (if (((((patM xp).2).2).2).2) = true then 0 else -16777216)))) && (decide (xv.2 ≤ (if (xp == 37) = true then 16777216 else (if (xp == 34) = true then 1000 else 16777216)))))
def pfitj44 (xp : Int) (xv : Int × Int) (K : Bool → Prop) : Prop :=
  ((decide (xv.2 ≥ (if (xp == 37) = true then 64 else (if (((((patM xp).2).2).2).2) = true then 0 else -16777216)))) = true → pfitj71 xp xv K) ∧ ((decide (xv.2 ≥ (if (xp == 37) = true then 64 else (if (((((patM xp).2).2).2).2) = true then 0 else -16777216)))) = false → pfitj71 xp xv K)
def pfitj56 (xp : Int) (xv : Int × Int) (K : Bool → Prop) : Prop :=
  ((((xp == 31) || (xp == 53))) = true → ((((Int.tmod xv.2 1000) != 0)) = true → K false) ∧ ((((Int.tmod xv.2 1000) != 0)) = false → pfitj44 xp xv K)) ∧ ((((xp == 31) || (xp == 53))) = false → pfitj44 xp xv K)
def pfitj38 (xp : Int) (xv : Int × Int) (K : Bool → Prop) : Prop :=
  (((xp == 37)) = true → pfitj44 xp xv K) ∧ (((xp == 37)) = false → (((xp == 34)) = true → pfitj44 xp xv K) ∧ (((xp == 34)) = false → (((xp == 31)) = true → pfitj56 xp xv K) ∧ (((xp == 31)) = false → pfitj56 xp xv K)))
def pfitj4 (xp : Int) (xv : Int × Int) (K : Bool → Prop) : Prop :=
  ((((!(pinM xp)) || (!(scontS (((patM xp).2).1) (pletM xv.1))))) = true → K false) ∧ ((((!(pinM xp)) || (!(scontS (((patM xp).2).1) (pletM xv.1))))) = false → p59 xp ∧ (((xv.1 == 1)) = true → pkeyP ((patM xp).1, ((patM xp).2).1, (((patM xp).2).2).1, ((((patM xp).2).2).2).1, ((((patM xp).2).2).2).2) xv.2 ∧ K (!((pkeyM ((patM xp).1, ((patM xp).2).1, (((patM xp).2).2).1, ((((patM xp).2).2).2).1, ((((patM xp).2).2).2).2) xv.2) == ([] : List UInt8)))) ∧ (((xv.1 == 1)) = false → (((xv.1 == 6)) = true → K (xv.2 == 0)) ∧ (((xv.1 == 6)) = false → (((xv.1 == 5)) = true → ((decide (xv.2 ≥ 0)) = true → pfitj32 xv K) ∧ ((decide (xv.2 ≥ 0)) = false → pfitj32 xv K)) ∧ (((xv.1 == 5)) = false → ((((((patM xp).2).2).2).2) = true → pfitj38 xp xv K) ∧ ((((((patM xp).2).2).2).2) = false → pfitj38 xp xv K)))))
def pfitF (xp : Int) (xv : Int × Int) (K : Bool → Prop) : Prop :=
  ((!(pinM xp)) = true → pfitj4 xp xv K) ∧ ((!(pinM xp)) = false → p59 xp ∧ scontP (((patM xp).2).1) (pletM xv.1) ∧ pfitj4 xp xv K)
set_option maxHeartbeats 4000000 in
set_option maxRecDepth 100000 in
set_option linter.unusedVariables false in
theorem pfit_ok {g : Ghost} (xp : Int) (xv : Int × Int) (hG1 : SomeInt g 1) (K : Bool → Prop)
    (hF : pfitF xp xv K) : CallsH Tryd.prog 10 #[.int .i64 xp, .agg #[.int .i64 xv.1, .int .i64 xv.2]] g [] (fun g' H' v => ∃ (r0 : Bool), v = .bool r0 ∧ H' = [] ∧ K r0) := by
  refine CallsH.enter 71 [(0, .int .i64 xp), (1, .agg #[.int .i64 xv.1, .int .i64 xv.2])] Tryd.func10 rfl (by kernel_rfl) (by kernel_rfl) (by kernel_rfl) fun w0 => ?_
  refine Ok.seq ?_
  refine Ok.region ?_
  refine Ok.op rfl (OpOk.box (v := .agg #[.int .i64 xv.1, .int .i64 xv.2]) (cs := #[.int .i64 xv.1, .int .i64 xv.2]) rfl (by kernel_rfl) rfl fun b1 => ?_)
  refine Ok.batch 1 [(0, .int .i64 xp), (3, .pointer (some ⟨b1, 0, none⟩))] (by kernel_rfl) ?_
  refine Ok.nil ?_
  refine Ok.thenN ?_
  refine Ok.seq ?_
  refine Ok.cut (fun a W => StA 71 [(0, .int .i64 xp), (3, .pointer (some ⟨b1, 0, none⟩)), (20, .bool ((!(pinM xp)) || (!(scontS (((patM xp).2).1) (pletM xv.1)))))] a ∧ StW w0 [.blk b1 (.cells #[.int .i64 xv.1, .int .i64 xv.2] 23)] g W ∧ pfitj4 xp xv K) ?_ ?_
  ·
    refine Ok.quiet' (by kernel_rfl) (by kernel_rfl) ?_
    refine OkQ.batch 1 [(0, .int .i64 xp), (3, .pointer (some ⟨b1, 0, none⟩)), (8, .int .i64 xp)] (by kernel_rfl) ?_
    refine OkQ.op rfl (OpQ.callG (v := .bool (pinM xp)) (enters (by kernel_rfl) (fun _ => by kernel_rfl)) (fun W hW => pin_c xp) rfl ?_)
    refine OkQ.batch 2 [(0, .int .i64 xp), (3, .pointer (some ⟨b1, 0, none⟩)), (11, .bool (!(pinM xp)))] (by kernel_rfl) ?_
    refine OkQ.boolAt 11 (!(pinM xp)) rfl (fun hc17 => ?_) (fun hc17 => ?_)
    · replace hF := hF.1 hc17
      refine OkQ.batch 9 [(0, .int .i64 xp), (3, .pointer (some ⟨b1, 0, none⟩)), (20, .bool true)] (by kernel_rfl) ?_
      refine OkQ.nil ?_
      refine Ok.thenN ?_
      refine Ok.reval 20 rfl (show (.bool true : Value) = .bool ((!(pinM xp)) || (!(scontS (((patM xp).2).1) (pletM xv.1)))) from congrArg (Value.bool) (mor_t hc17)) ?_
      exact fun a W hA hW => ⟨hA.sub (by kernel_rfl), hW, hF⟩
    · replace hF := hF.2 hc17
      refine OkQ.batch 1 [(0, .int .i64 xp), (3, .pointer (some ⟨b1, 0, none⟩)), (11, .bool false), (12, .int .i64 xp)] (by kernel_rfl) ?_
      obtain ⟨hp18, hF⟩ := hF
      refine OkQ.opYes (j := 3) (d := 11) (want := false) (b := false) rfl (by kernel_rfl) (by kernel_rfl) rfl (OpQ.callG (v := .agg #[.string ⟨⟨(patM xp).1⟩⟩, .string ⟨⟨((patM xp).2).1⟩⟩, .string ⟨⟨(((patM xp).2).2).1⟩⟩, .string ⟨⟨((((patM xp).2).2).2).1⟩⟩, .bool (((((patM xp).2).2).2).2)]) (enters (by kernel_rfl) (fun _ => by kernel_rfl)) (fun W hW => pat_c xp hp18) rfl ?_)
      refine OkQ.batch 2 [(0, .int .i64 xp), (3, .pointer (some ⟨b1, 0, none⟩)), (11, .bool false), (14, .string ⟨⟨((patM xp).2).1⟩⟩), (15, .pointer (some ⟨b1, 0, none⟩))] (by kernel_rfl) ?_
      refine OkQ.opYes (j := 3) (d := 11) (want := false) (b := false) rfl (by kernel_rfl) (by kernel_rfl) rfl (OpQ.step (v := .int .i64 xv.1) (Yields.load 0 rfl rfl Tryd.underlying3 rfl (by kernel_rfl)) rfl rfl ?_)
      refine OkQ.opYes (j := 3) (d := 11) (want := false) (b := false) rfl (by kernel_rfl) (by kernel_rfl) rfl (OpQ.callG (v := .string ⟨⟨(pletM xv.1)⟩⟩) (enters (by kernel_rfl) (fun _ => by kernel_rfl)) (fun W hW => plet_c xv.1) rfl ?_)
      obtain ⟨hp19, hF⟩ := hF
      refine OkQ.opYes (j := 3) (d := 11) (want := false) (b := false) rfl (by kernel_rfl) (by kernel_rfl) rfl (OpQ.callG (v := .bool (scontS (((patM xp).2).1) (pletM xv.1))) (enters (by kernel_rfl) (fun _ => by kernel_rfl)) (fun W hW => scont_c (((patM xp).2).1) (pletM xv.1) (hG1.mono hW.sees) hp19) rfl ?_)
      refine OkQ.batch 2 [(0, .int .i64 xp), (3, .pointer (some ⟨b1, 0, none⟩)), (20, .bool (!(scontS (((patM xp).2).1) (pletM xv.1))))] (by kernel_rfl) ?_
      refine OkQ.nil ?_
      refine Ok.thenN ?_
      refine Ok.reval 20 rfl (show (.bool (!(scontS (((patM xp).2).1) (pletM xv.1))) : Value) = .bool ((!(pinM xp)) || (!(scontS (((patM xp).2).1) (pletM xv.1)))) from congrArg (Value.bool) (mor_f hc17)) ?_
      exact fun a W hA hW => ⟨hA.sub (by kernel_rfl), hW, hF⟩
  ·
    clear hF
    rintro a W ⟨hA, hW, hF⟩
    refine (?_ : Ok _ _ _ _ _ _) a W hA hW
    clear hA hW
    refine Ok.cond (b := ((!(pinM xp)) || (!(scontS (((patM xp).2).1) (pletM xv.1))))) rfl (fun hc2 => ?_) (fun hc2 => ?_)
    · replace hF := hF.1 hc2
      refine Ok.seq ?_
      refine Ok.region ?_
      refine Ok.batch 1 [(4, .bool false)] (by kernel_rfl) ?_
      refine Ok.nil ?_
      refine Ok.thenN ?_
      refine Ok.ret ?_
      refine Ok.thenR ?_
      exact Ok.resP (vs := [.bool false]) [] [] (by decide) rfl (.inl rfl) rfl (.cons (.tmp rfl) .nil) (Gext.refl w0 g) ⟨false, rfl, rfl, hF⟩
    · replace hF := hF.2 hc2
      refine Ok.skip ?_
      refine Ok.thenN ?_
      refine Ok.seq ?_
      refine Ok.region ?_
      refine Ok.batch 1 [(0, .int .i64 xp), (3, .pointer (some ⟨b1, 0, none⟩)), (21, .int .i64 xp)] (by kernel_rfl) ?_
      obtain ⟨hp3, hF⟩ := hF
      refine Ok.op rfl (OpOk.callG (v := .agg #[.string ⟨⟨(patM xp).1⟩⟩, .string ⟨⟨((patM xp).2).1⟩⟩, .string ⟨⟨(((patM xp).2).2).1⟩⟩, .string ⟨⟨((((patM xp).2).2).2).1⟩⟩, .bool (((((patM xp).2).2).2).2)]) (enters (by kernel_rfl) (fun _ => by kernel_rfl)) (fun W hW => pat_c xp hp3) rfl ?_)
      refine Ok.op rfl (OpOk.alloc (z := .agg #[.string ⟨⟨([] : List UInt8)⟩⟩, .string ⟨⟨([] : List UInt8)⟩⟩, .string ⟨⟨([] : List UInt8)⟩⟩, .string ⟨⟨([] : List UInt8)⟩⟩, .bool false]) (cs := #[.string ⟨⟨([] : List UInt8)⟩⟩, .string ⟨⟨([] : List UInt8)⟩⟩, .string ⟨⟨([] : List UInt8)⟩⟩, .string ⟨⟨([] : List UInt8)⟩⟩, .bool false]) (by kernel_rfl) (by kernel_rfl) rfl fun b4 => ?_)
      refine Ok.op rfl (OpOk.store (k := 5) (v := .agg #[.string ⟨⟨(patM xp).1⟩⟩, .string ⟨⟨((patM xp).2).1⟩⟩, .string ⟨⟨(((patM xp).2).2).1⟩⟩, .string ⟨⟨((((patM xp).2).2).2).1⟩⟩, .bool (((((patM xp).2).2).2).2)]) (H' := [.blk b4 (.cells #[.string ⟨⟨(patM xp).1⟩⟩, .string ⟨⟨((patM xp).2).1⟩⟩, .string ⟨⟨(((patM xp).2).2).1⟩⟩, .string ⟨⟨((((patM xp).2).2).2).1⟩⟩, .bool (((((patM xp).2).2).2).2)] 52), .blk b1 (.cells #[.int .i64 xv.1, .int .i64 xv.2] 23)]) 0 rfl rfl rfl (by kernel_rfl) (by kernel_rfl) (by kernel_rfl) (by kernel_rfl) (by kernel_rfl) ?_)
      refine Ok.nil ?_
      refine Ok.thenN ?_
      refine Ok.seq ?_
      refine Ok.seq ?_
      refine Ok.region ?_
      refine Ok.batch 1 [(0, .int .i64 xp), (3, .pointer (some ⟨b1, 0, none⟩)), (5, .pointer (some ⟨b4, 0, none⟩)), (23, .pointer (some ⟨b1, 0, none⟩))] (by kernel_rfl) ?_
      refine Ok.op rfl (OpOk.step (v := .int .i64 xv.1) (Yields.load 1 rfl rfl Tryd.underlying3 rfl (by kernel_rfl)) rfl rfl ?_)
      refine Ok.nil ?_
      refine Ok.thenN ?_
      refine Ok.block ?_
      refine Ok.seq ?_
      refine Ok.region ?_
      refine Ok.batch 2 [(0, .int .i64 xp), (3, .pointer (some ⟨b1, 0, none⟩)), (5, .pointer (some ⟨b4, 0, none⟩)), (24, .int .i64 xv.1), (25, .bool (xv.1 == 1))] (by kernel_rfl) ?_
      refine Ok.nil ?_
      refine Ok.thenN ?_
      refine Ok.cond (b := (xv.1 == 1)) rfl (fun hc5 => ?_) (fun hc5 => ?_)
      · replace hF := hF.1 hc5
        refine Ok.seq ?_
        refine Ok.region ?_
        refine Ok.op rfl (OpOk.step (v := .agg #[.string ⟨⟨(patM xp).1⟩⟩, .string ⟨⟨((patM xp).2).1⟩⟩, .string ⟨⟨(((patM xp).2).2).1⟩⟩, .string ⟨⟨((((patM xp).2).2).2).1⟩⟩, .bool (((((patM xp).2).2).2).2)]) (Yields.loadAgg 0 5 #[.string ⟨⟨(patM xp).1⟩⟩, .string ⟨⟨((patM xp).2).1⟩⟩, .string ⟨⟨(((patM xp).2).2).1⟩⟩, .string ⟨⟨((((patM xp).2).2).2).1⟩⟩, .bool (((((patM xp).2).2).2).2)] rfl rfl Tryd.underlying52 rfl (by kernel_rfl) (by kernel_rfl) (by kernel_rfl)) rfl rfl ?_)
        refine Ok.batch 1 [(27, .agg #[.string ⟨⟨(patM xp).1⟩⟩, .string ⟨⟨((patM xp).2).1⟩⟩, .string ⟨⟨(((patM xp).2).2).1⟩⟩, .string ⟨⟨((((patM xp).2).2).2).1⟩⟩, .bool (((((patM xp).2).2).2).2)]), (28, .pointer (some ⟨b1, 1, none⟩))] (by kernel_rfl) ?_
        refine Ok.op rfl (OpOk.step (v := .int .i64 xv.2) (Yields.load 1 rfl rfl Tryd.underlying3 rfl (by kernel_rfl)) rfl rfl ?_)
        obtain ⟨hp6, hF⟩ := hF
        refine Ok.op rfl (OpOk.callG (v := .string ⟨⟨(pkeyM ((patM xp).1, ((patM xp).2).1, (((patM xp).2).2).1, ((((patM xp).2).2).2).1, ((((patM xp).2).2).2).2) xv.2)⟩⟩) (enters (by kernel_rfl) (fun _ => by kernel_rfl)) (fun W hW => pkey_c ((patM xp).1, ((patM xp).2).1, (((patM xp).2).2).1, ((((patM xp).2).2).2).1, ((((patM xp).2).2).2).2) xv.2 (hG1.mono hW.sees) hp6) rfl ?_)
        refine Ok.op rfl (OpOk.step (v := .bool (!((pkeyM ((patM xp).1, ((patM xp).2).1, (((patM xp).2).2).1, ((((patM xp).2).2).2).1, ((((patM xp).2).2).2).2) xv.2) == ([] : List UInt8)))) (Yields.strCmp (f := .neq) (a := (pkeyM ((patM xp).1, ((patM xp).2).1, (((patM xp).2).2).1, ((((patM xp).2).2).2).1, ((((patM xp).2).2).2).2) xv.2)) (b := ([] : List UInt8)) (by kernel_rfl) (by kernel_rfl) rfl) rfl rfl ?_)
        refine Ok.batch 1 [(4, .bool (!((pkeyM ((patM xp).1, ((patM xp).2).1, (((patM xp).2).2).1, ((((patM xp).2).2).2).1, ((((patM xp).2).2).2).2) xv.2) == ([] : List UInt8))))] (by kernel_rfl) ?_
        refine Ok.nil ?_
        refine Ok.thenN ?_
        refine Ok.ret ?_
        refine Ok.blockR ?_
        refine Ok.thenR ?_
        exact Ok.resP (vs := [.bool (!((pkeyM ((patM xp).1, ((patM xp).2).1, (((patM xp).2).2).1, ((((patM xp).2).2).2).1, ((((patM xp).2).2).2).2) xv.2) == ([] : List UInt8)))]) [] [] (by decide) rfl (.inl rfl) rfl (.cons (.tmp rfl) .nil) (Gext.refl w0 g) ⟨(!((pkeyM ((patM xp).1, ((patM xp).2).1, (((patM xp).2).2).1, ((((patM xp).2).2).2).1, ((((patM xp).2).2).2).2) xv.2) == ([] : List UInt8))), rfl, rfl, hF⟩
      · replace hF := hF.2 hc5
        refine Ok.seq ?_
        refine Ok.region ?_
        refine Ok.batch 2 [(0, .int .i64 xp), (3, .pointer (some ⟨b1, 0, none⟩)), (5, .pointer (some ⟨b4, 0, none⟩)), (24, .int .i64 xv.1), (32, .bool (xv.1 == 6))] (by kernel_rfl) ?_
        refine Ok.nil ?_
        refine Ok.thenN ?_
        refine Ok.cond (b := (xv.1 == 6)) rfl (fun hc7 => ?_) (fun hc7 => ?_)
        · replace hF := hF.1 hc7
          refine Ok.seq ?_
          refine Ok.region ?_
          refine Ok.batch 1 [(34, .pointer (some ⟨b1, 1, none⟩))] (by kernel_rfl) ?_
          refine Ok.op rfl (OpOk.step (v := .int .i64 xv.2) (Yields.load 1 rfl rfl Tryd.underlying3 rfl (by kernel_rfl)) rfl rfl ?_)
          refine Ok.batch 2 [(4, .bool (xv.2 == 0))] (by kernel_rfl) ?_
          refine Ok.nil ?_
          refine Ok.thenN ?_
          refine Ok.ret ?_
          refine Ok.blockR ?_
          refine Ok.thenR ?_
          exact Ok.resP (vs := [.bool (xv.2 == 0)]) [] [] (by decide) rfl (.inl rfl) rfl (.cons (.tmp rfl) .nil) (Gext.refl w0 g) ⟨(xv.2 == 0), rfl, rfl, hF⟩
        · replace hF := hF.2 hc7
          refine Ok.seq ?_
          refine Ok.region ?_
          refine Ok.batch 2 [(0, .int .i64 xp), (3, .pointer (some ⟨b1, 0, none⟩)), (5, .pointer (some ⟨b4, 0, none⟩)), (37, .bool (xv.1 == 5))] (by kernel_rfl) ?_
          refine Ok.nil ?_
          refine Ok.thenN ?_
          refine Ok.cond (b := (xv.1 == 5)) rfl (fun hc8 => ?_) (fun hc8 => ?_)
          · replace hF := hF.1 hc8
            refine Ok.cut (fun a W => StA 71 [(4, .bool ((decide (xv.2 ≥ 0)) && (decide (xv.2 < 4294967296))))] a ∧ StW w0 [] g W ∧ pfitj32 xv K) ?_ ?_
            ·
              refine Ok.region ?_
              refine Ok.batch 1 [(3, .pointer (some ⟨b1, 0, none⟩)), (39, .pointer (some ⟨b1, 1, none⟩))] (by kernel_rfl) ?_
              refine Ok.op rfl (OpOk.step (v := .int .i64 xv.2) (Yields.load 1 rfl rfl Tryd.underlying3 rfl (by kernel_rfl)) rfl rfl ?_)
              refine Ok.batch 2 [(3, .pointer (some ⟨b1, 0, none⟩)), (42, .bool (decide (xv.2 ≥ 0)))] (by kernel_rfl) ?_
              refine Ok.boolAt 42 (decide (xv.2 ≥ 0)) rfl (fun hc9 => ?_) (fun hc9 => ?_)
              · replace hF := hF.1 hc9
                refine Ok.batch 1 [(42, .bool true), (43, .pointer (some ⟨b1, 1, none⟩))] (by kernel_rfl) ?_
                refine Ok.opYes (j := 3) (d := 42) (want := true) (b := true) rfl (by kernel_rfl) (by kernel_rfl) rfl (OpOk.step (v := .int .i64 xv.2) (Yields.load 1 rfl rfl Tryd.underlying3 rfl (by kernel_rfl)) rfl rfl ?_)
                refine Ok.batch 3 [(4, .bool (decide (xv.2 < 4294967296)))] (by kernel_rfl) ?_
                refine Ok.nil ?_
                refine Ok.thenN ?_
                refine Ok.reval 4 rfl (show (.bool (decide (xv.2 < 4294967296)) : Value) = .bool ((decide (xv.2 ≥ 0)) && (decide (xv.2 < 4294967296))) from congrArg (Value.bool) (mand_t hc9)) ?_
                exact fun a W hA hW => ⟨hA.sub (by kernel_rfl), hW.sub (.cons _ (.cons _ .slnil)), hF⟩
              · replace hF := hF.2 hc9
                refine Ok.batch 5 [(4, .bool false)] (by kernel_rfl) ?_
                refine Ok.nil ?_
                refine Ok.thenN ?_
                refine Ok.reval 4 rfl (show (.bool false : Value) = .bool ((decide (xv.2 ≥ 0)) && (decide (xv.2 < 4294967296))) from congrArg (Value.bool) (mand_f hc9)) ?_
                exact fun a W hA hW => ⟨hA.sub (by kernel_rfl), hW.sub (.cons _ (.cons _ .slnil)), hF⟩
            ·
              clear hF
              rintro a W ⟨hA, hW, hF⟩
              refine (?_ : Ok _ _ _ _ _ _) a W hA hW
              clear hA hW
              refine Ok.ret ?_
              refine Ok.blockR ?_
              refine Ok.thenR ?_
              exact Ok.resH (vs := [.bool ((decide (xv.2 ≥ 0)) && (decide (xv.2 < 4294967296)))]) (.inl rfl) rfl (.cons (.tmp rfl) .nil) (Gext.refl w0 g) ⟨((decide (xv.2 ≥ 0)) && (decide (xv.2 < 4294967296))), rfl, rfl, hF⟩
          · replace hF := hF.2 hc8
            refine Ok.skip ?_
            refine Ok.blockN ?_
            refine Ok.thenN ?_
            refine Ok.seq ?_
            refine Ok.region ?_
            refine Ok.batch 2 [(0, .int .i64 xp), (3, .pointer (some ⟨b1, 0, none⟩)), (5, .pointer (some ⟨b4, 0, none⟩)), (6, .int .i64 (-16777216)), (7, .int .i64 16777216)] (by kernel_rfl) ?_
            refine Ok.nil ?_
            refine Ok.thenN ?_
            refine Ok.cut (fun a W => StA 71 [(0, .int .i64 xp), (3, .pointer (some ⟨b1, 0, none⟩)), (6, .int .i64 (if (((((patM xp).2).2).2).2) = true then 0 else -16777216)), (7, .int .i64 16777216)] a ∧ StW w0 [.blk b1 (.cells #[.int .i64 xv.1, .int .i64 xv.2] 23)] g W ∧ pfitj38 xp xv K) ?_ ?_
            ·
              refine Ok.seq ?_
              refine Ok.region ?_
              refine Ok.batch 1 [(0, .int .i64 xp), (3, .pointer (some ⟨b1, 0, none⟩)), (6, .int .i64 (-16777216)), (7, .int .i64 16777216), (47, .pointer (some ⟨b4, 4, none⟩))] (by kernel_rfl) ?_
              refine Ok.op rfl (OpOk.step (v := .bool (((((patM xp).2).2).2).2)) (Yields.load 0 rfl rfl Tryd.underlying4 rfl (by kernel_rfl)) rfl rfl ?_)
              refine Ok.nil ?_
              refine Ok.thenN ?_
              refine Ok.cond (b := ((((patM xp).2).2).2).2) rfl (fun hc16 => ?_) (fun hc16 => ?_)
              · replace hF := hF.1 hc16
                refine Ok.region ?_
                refine Ok.batch 1 [(0, .int .i64 xp), (3, .pointer (some ⟨b1, 0, none⟩)), (6, .int .i64 0), (7, .int .i64 16777216)] (by kernel_rfl) ?_
                refine Ok.nil ?_
                refine Ok.thenN ?_
                refine Ok.reval 6 rfl (show (.int .i64 0 : Value) = .int .i64 (if (((((patM xp).2).2).2).2) = true then 0 else -16777216) from congrArg (Value.int .i64) ((if_t hc16).symm)) ?_
                exact fun a W hA hW => ⟨hA.sub (by kernel_rfl), hW.sub (.cons _ (.cons_cons _ .slnil)), hF⟩
              · replace hF := hF.2 hc16
                refine Ok.skip ?_
                refine Ok.thenN ?_
                refine Ok.reval 6 rfl (show (.int .i64 (-16777216) : Value) = .int .i64 (if (((((patM xp).2).2).2).2) = true then 0 else -16777216) from congrArg (Value.int .i64) ((if_f hc16).symm)) ?_
                exact fun a W hA hW => ⟨hA.sub (by kernel_rfl), hW.sub (.cons _ (.cons_cons _ .slnil)), hF⟩
            ·
              clear hF
              rintro a W ⟨hA, hW, hF⟩
              refine (?_ : Ok _ _ _ _ _ _) a W hA hW
              clear hA hW
              refine Ok.cut (fun a W => StA 71 [(3, .pointer (some ⟨b1, 0, none⟩)), (6, .int .i64 (if (xp == 37) = true then 64 else (if (((((patM xp).2).2).2).2) = true then 0 else -16777216))), (7, .int .i64 (if (xp == 37) = true then 16777216 else (if (xp == 34) = true then 1000 else 16777216)))] a ∧ StW w0 [.blk b1 (.cells #[.int .i64 xv.1, .int .i64 xv.2] 23)] g W ∧ pfitj44 xp xv K) ?_ ?_
              ·
                refine Ok.seq ?_
                refine Ok.region ?_
                refine Ok.batch 1 [(3, .pointer (some ⟨b1, 0, none⟩)), (6, .int .i64 (if (((((patM xp).2).2).2).2) = true then 0 else -16777216)), (7, .int .i64 16777216), (49, .int .i64 xp)] (by kernel_rfl) ?_
                refine Ok.nil ?_
                refine Ok.thenN ?_
                refine Ok.block ?_
                refine Ok.seq ?_
                refine Ok.region ?_
                refine Ok.batch 2 [(3, .pointer (some ⟨b1, 0, none⟩)), (6, .int .i64 (if (((((patM xp).2).2).2).2) = true then 0 else -16777216)), (7, .int .i64 16777216), (49, .int .i64 xp), (50, .bool (xp == 37))] (by kernel_rfl) ?_
                refine Ok.nil ?_
                refine Ok.thenN ?_
                refine Ok.cond (b := (xp == 37)) rfl (fun hc11 => ?_) (fun hc11 => ?_)
                · replace hF := hF.1 hc11
                  refine Ok.region ?_
                  refine Ok.batch 1 [(3, .pointer (some ⟨b1, 0, none⟩)), (6, .int .i64 64), (7, .int .i64 16777216)] (by kernel_rfl) ?_
                  refine Ok.nil ?_
                  refine Ok.blockN ?_
                  refine Ok.thenN ?_
                  refine Ok.reval 6 rfl (show (.int .i64 64 : Value) = .int .i64 (if (xp == 37) = true then 64 else (if (((((patM xp).2).2).2).2) = true then 0 else -16777216)) from congrArg (Value.int .i64) ((if_t hc11).symm)) ?_
                  refine Ok.reval 7 rfl (show (.int .i64 16777216 : Value) = .int .i64 (if (xp == 37) = true then 16777216 else (if (xp == 34) = true then 1000 else 16777216)) from congrArg (Value.int .i64) ((if_t hc11).symm)) ?_
                  exact fun a W hA hW => ⟨hA.sub (by kernel_rfl), hW, hF⟩
                · replace hF := hF.2 hc11
                  refine Ok.seq ?_
                  refine Ok.region ?_
                  refine Ok.batch 2 [(3, .pointer (some ⟨b1, 0, none⟩)), (6, .int .i64 (if (((((patM xp).2).2).2).2) = true then 0 else -16777216)), (7, .int .i64 16777216), (49, .int .i64 xp), (52, .bool (xp == 34))] (by kernel_rfl) ?_
                  refine Ok.nil ?_
                  refine Ok.thenN ?_
                  refine Ok.cond (b := (xp == 34)) rfl (fun hc12 => ?_) (fun hc12 => ?_)
                  · replace hF := hF.1 hc12
                    refine Ok.region ?_
                    refine Ok.batch 1 [(3, .pointer (some ⟨b1, 0, none⟩)), (6, .int .i64 (if (((((patM xp).2).2).2).2) = true then 0 else -16777216)), (7, .int .i64 1000)] (by kernel_rfl) ?_
                    refine Ok.nil ?_
                    refine Ok.blockN ?_
                    refine Ok.thenN ?_
                    refine Ok.reval 6 rfl (show (.int .i64 (if (((((patM xp).2).2).2).2) = true then 0 else -16777216) : Value) = .int .i64 (if (xp == 37) = true then 64 else (if (((((patM xp).2).2).2).2) = true then 0 else -16777216)) from congrArg (Value.int .i64) ((if_f hc11).symm)) ?_
                    refine Ok.reval 7 rfl (show (.int .i64 1000 : Value) = .int .i64 (if (xp == 37) = true then 16777216 else (if (xp == 34) = true then 1000 else 16777216)) from congrArg (Value.int .i64) ((Eq.trans ((if_t hc12).symm) ((if_f hc11).symm)))) ?_
                    exact fun a W hA hW => ⟨hA.sub (by kernel_rfl), hW, hF⟩
                  · replace hF := hF.2 hc12
                    refine Ok.cut (fun a W => StA 71 [(3, .pointer (some ⟨b1, 0, none⟩)), (6, .int .i64 (if (((((patM xp).2).2).2).2) = true then 0 else -16777216)), (7, .int .i64 16777216), (54, .bool ((xp == 31) || (xp == 53)))] a ∧ StW w0 [.blk b1 (.cells #[.int .i64 xv.1, .int .i64 xv.2] 23)] g W ∧ pfitj56 xp xv K) ?_ ?_
                    ·
                      refine Ok.seq ?_
                      refine Ok.region ?_
                      refine Ok.batch 2 [(3, .pointer (some ⟨b1, 0, none⟩)), (6, .int .i64 (if (((((patM xp).2).2).2).2) = true then 0 else -16777216)), (7, .int .i64 16777216), (49, .int .i64 xp), (54, .bool (xp == 31))] (by kernel_rfl) ?_
                      refine Ok.nil ?_
                      refine Ok.thenN ?_
                      refine Ok.cond (b := (xp == 31)) rfl (fun hc15 => ?_) (fun hc15 => ?_)
                      · replace hF := hF.1 hc15
                        refine Ok.skip ?_
                        refine Ok.thenN ?_
                        refine Ok.reval 54 rfl (show (.bool (xp == 31) : Value) = .bool ((xp == 31) || (xp == 53)) from congrArg (Value.bool) ((Eq.trans (hc15) (mor_t hc15)))) ?_
                        exact fun a W hA hW => ⟨hA.sub (by kernel_rfl), hW, hF⟩
                      · replace hF := hF.2 hc15
                        refine Ok.region ?_
                        refine Ok.batch 2 [(3, .pointer (some ⟨b1, 0, none⟩)), (6, .int .i64 (if (((((patM xp).2).2).2).2) = true then 0 else -16777216)), (7, .int .i64 16777216), (54, .bool (xp == 53))] (by kernel_rfl) ?_
                        refine Ok.nil ?_
                        refine Ok.thenN ?_
                        refine Ok.reval 54 rfl (show (.bool (xp == 53) : Value) = .bool ((xp == 31) || (xp == 53)) from congrArg (Value.bool) (mor_f hc15)) ?_
                        exact fun a W hA hW => ⟨hA.sub (by kernel_rfl), hW, hF⟩
                    ·
                      clear hF
                      rintro a W ⟨hA, hW, hF⟩
                      refine (?_ : Ok _ _ _ _ _ _) a W hA hW
                      clear hA hW
                      refine Ok.cond (b := ((xp == 31) || (xp == 53))) rfl (fun hc13 => ?_) (fun hc13 => ?_)
                      · replace hF := hF.1 hc13
                        refine Ok.seq ?_
                        refine Ok.region ?_
                        refine Ok.batch 1 [(3, .pointer (some ⟨b1, 0, none⟩)), (6, .int .i64 (if (((((patM xp).2).2).2).2) = true then 0 else -16777216)), (7, .int .i64 16777216), (57, .pointer (some ⟨b1, 1, none⟩))] (by kernel_rfl) ?_
                        refine Ok.op rfl (OpOk.step (v := .int .i64 xv.2) (Yields.load 0 rfl rfl Tryd.underlying3 rfl (by kernel_rfl)) rfl rfl ?_)
                        refine Ok.batch 2 [(3, .pointer (some ⟨b1, 0, none⟩)), (6, .int .i64 (if (((((patM xp).2).2).2).2) = true then 0 else -16777216)), (7, .int .i64 16777216), (60, .bool ((Int.tmod xv.2 1000) != 0))] (by kernel_rfl) ?_
                        refine Ok.nil ?_
                        refine Ok.thenN ?_
                        refine Ok.cond (b := ((Int.tmod xv.2 1000) != 0)) rfl (fun hc14 => ?_) (fun hc14 => ?_)
                        · replace hF := hF.1 hc14
                          refine Ok.seq ?_
                          refine Ok.region ?_
                          refine Ok.batch 1 [(4, .bool false)] (by kernel_rfl) ?_
                          refine Ok.nil ?_
                          refine Ok.thenN ?_
                          refine Ok.ret ?_
                          refine Ok.blockR ?_
                          refine Ok.thenR ?_
                          exact Ok.resP (vs := [.bool false]) [] [] (by decide) rfl (.inl rfl) rfl (.cons (.tmp rfl) .nil) (Gext.refl w0 g) ⟨false, rfl, rfl, hF⟩
                        · replace hF := hF.2 hc14
                          refine Ok.skip ?_
                          refine Ok.blockN ?_
                          refine Ok.thenN ?_
                          refine Ok.reval 6 rfl (show (.int .i64 (if (((((patM xp).2).2).2).2) = true then 0 else -16777216) : Value) = .int .i64 (if (xp == 37) = true then 64 else (if (((((patM xp).2).2).2).2) = true then 0 else -16777216)) from congrArg (Value.int .i64) ((if_f hc11).symm)) ?_
                          refine Ok.reval 7 rfl (show (.int .i64 16777216 : Value) = .int .i64 (if (xp == 37) = true then 16777216 else (if (xp == 34) = true then 1000 else 16777216)) from congrArg (Value.int .i64) ((Eq.trans ((if_f hc12).symm) ((if_f hc11).symm)))) ?_
                          exact fun a W hA hW => ⟨hA.sub (by kernel_rfl), hW, hF⟩
                      · replace hF := hF.2 hc13
                        refine Ok.skip ?_
                        refine Ok.blockN ?_
                        refine Ok.thenN ?_
                        refine Ok.reval 6 rfl (show (.int .i64 (if (((((patM xp).2).2).2).2) = true then 0 else -16777216) : Value) = .int .i64 (if (xp == 37) = true then 64 else (if (((((patM xp).2).2).2).2) = true then 0 else -16777216)) from congrArg (Value.int .i64) ((if_f hc11).symm)) ?_
                        refine Ok.reval 7 rfl (show (.int .i64 16777216 : Value) = .int .i64 (if (xp == 37) = true then 16777216 else (if (xp == 34) = true then 1000 else 16777216)) from congrArg (Value.int .i64) ((Eq.trans ((if_f hc12).symm) ((if_f hc11).symm)))) ?_
                        exact fun a W hA hW => ⟨hA.sub (by kernel_rfl), hW, hF⟩
              ·
                clear hF
                rintro a W ⟨hA, hW, hF⟩
                refine (?_ : Ok _ _ _ _ _ _) a W hA hW
                clear hA hW
                refine Ok.cut (fun a W => StA 71 [(4, .bool ((decide (xv.2 ≥ (if (xp == 37) = true then 64 else (if (((((patM xp).2).2).2).2) = true then 0 else -16777216)))) && (decide (xv.2 ≤ (if (xp == 37) = true then 16777216 else (if (xp == 34) = true then 1000 else 16777216))))))] a ∧ StW w0 [] g W ∧ pfitj71 xp xv K) ?_ ?_
                ·
                  refine Ok.region ?_
                  refine Ok.batch 1 [(3, .pointer (some ⟨b1, 0, none⟩)), (6, .int .i64 (if (xp == 37) = true then 64 else (if (((((patM xp).2).2).2).2) = true then 0 else -16777216))), (7, .int .i64 (if (xp == 37) = true then 16777216 else (if (xp == 34) = true then 1000 else 16777216))), (61, .pointer (some ⟨b1, 1, none⟩))] (by kernel_rfl) ?_
                  refine Ok.op rfl (OpOk.step (v := .int .i64 xv.2) (Yields.load 0 rfl rfl Tryd.underlying3 rfl (by kernel_rfl)) rfl rfl ?_)
                  refine Ok.batch 3 [(3, .pointer (some ⟨b1, 0, none⟩)), (7, .int .i64 (if (xp == 37) = true then 16777216 else (if (xp == 34) = true then 1000 else 16777216))), (65, .bool (decide (xv.2 ≥ (if (xp == 37) = true then 64 else (if (((((patM xp).2).2).2).2) = true then 0 else -16777216)))))] (by kernel_rfl) ?_
                  refine Ok.boolAt 65 (decide (xv.2 ≥ (if (xp == 37) = true then 64 else (if (((((patM xp).2).2).2).2) = true then 0 else -16777216)))) rfl (fun hc10 => ?_) (fun hc10 => ?_)
                  · replace hF := hF.1 hc10
                    refine Ok.batch 1 [(7, .int .i64 (if (xp == 37) = true then 16777216 else (if (xp == 34) = true then 1000 else 16777216))), (65, .bool true), (66, .pointer (some ⟨b1, 1, none⟩))] (by kernel_rfl) ?_
                    refine Ok.opYes (j := 4) (d := 65) (want := true) (b := true) rfl (by kernel_rfl) (by kernel_rfl) rfl (OpOk.step (v := .int .i64 xv.2) (Yields.load 0 rfl rfl Tryd.underlying3 rfl (by kernel_rfl)) rfl rfl ?_)
                    refine Ok.batch 4 [(4, .bool (decide (xv.2 ≤ (if (xp == 37) = true then 16777216 else (if (xp == 34) = true then 1000 else 16777216)))))] (by kernel_rfl) ?_
                    refine Ok.nil ?_
                    refine Ok.thenN ?_
                    refine Ok.reval 4 rfl (show (.bool (decide (xv.2 ≤ (if (xp == 37) = true then 16777216 else (if (xp == 34) = true then 1000 else 16777216)))) : Value) = .bool ((decide (xv.2 ≥ (if (xp == 37) = true then 64 else (if (((((patM xp).2).2).2).2) = true then 0 else -16777216)))) && (decide (xv.2 ≤ (if (xp == 37) = true then 16777216 else (if (xp == 34) = true then 1000 else 16777216))))) from congrArg (Value.bool) (mand_t hc10)) ?_
                    exact fun a W hA hW => ⟨hA.sub (by kernel_rfl), hW.sub (.cons _ .slnil), hF⟩
                  · replace hF := hF.2 hc10
                    refine Ok.batch 6 [(4, .bool false)] (by kernel_rfl) ?_
                    refine Ok.nil ?_
                    refine Ok.thenN ?_
                    refine Ok.reval 4 rfl (show (.bool false : Value) = .bool ((decide (xv.2 ≥ (if (xp == 37) = true then 64 else (if (((((patM xp).2).2).2).2) = true then 0 else -16777216)))) && (decide (xv.2 ≤ (if (xp == 37) = true then 16777216 else (if (xp == 34) = true then 1000 else 16777216))))) from congrArg (Value.bool) (mand_f hc10)) ?_
                    exact fun a W hA hW => ⟨hA.sub (by kernel_rfl), hW.sub (.cons _ .slnil), hF⟩
                ·
                  clear hF
                  rintro a W ⟨hA, hW, hF⟩
                  refine (?_ : Ok _ _ _ _ _ _) a W hA hW
                  clear hA hW
                  refine Ok.ret ?_
                  exact Ok.resH (vs := [.bool ((decide (xv.2 ≥ (if (xp == 37) = true then 64 else (if (((((patM xp).2).2).2).2) = true then 0 else -16777216)))) && (decide (xv.2 ≤ (if (xp == 37) = true then 16777216 else (if (xp == 34) = true then 1000 else 16777216)))))]) (.inl rfl) rfl (.cons (.tmp rfl) .nil) (Gext.refl w0 g) ⟨((decide (xv.2 ≥ (if (xp == 37) = true then 64 else (if (((((patM xp).2).2).2).2) = true then 0 else -16777216)))) && (decide (xv.2 ≤ (if (xp == 37) = true then 16777216 else (if (xp == 34) = true then 1000 else 16777216))))), rfl, rfl, hF⟩
def pfitj32M (xv : Int × Int) : Bool := ((decide (xv.2 ≥ 0)) && (decide (xv.2 < 4294967296)))
set_option linter.unusedSimpArgs false in
set_option linter.unusedVariables false in
theorem pfitj32_A (xv : Int × Int) (P : Bool → Prop) (h : P (pfitj32M xv)) : pfitj32 xv (fun k0 => P k0) := by
  unfold pfitj32M at h
  unfold pfitj32
  exact h
def pfitj71M (xp : Int) (xv : Int × Int) : Bool := ((decide (xv.2 ≥ (if (xp == 37) = true then 64 else (if (((((patM xp).2).2).2).2) = true then 0 else -16777216)))) && (decide (xv.2 ≤ (if (xp == 37) = true then 16777216 else (if (xp == 34) = true then 1000 else 16777216)))))
set_option linter.unusedSimpArgs false in
set_option linter.unusedVariables false in
theorem pfitj71_A (xp : Int) (xv : Int × Int) (P : Bool → Prop) (h : P (pfitj71M xp xv)) : pfitj71 xp xv (fun k0 => P k0) := by
  unfold pfitj71M at h
  unfold pfitj71
  exact h
def pfitj44M (xp : Int) (xv : Int × Int) : Bool := (pfitj71M xp xv)
set_option linter.unusedSimpArgs false in
set_option linter.unusedVariables false in
theorem pfitj44_A (xp : Int) (xv : Int × Int) (P : Bool → Prop) (h : P (pfitj44M xp xv)) : pfitj44 xp xv (fun k0 => P k0) := by
  unfold pfitj44M at h
  unfold pfitj44
  refine ⟨fun hc0 => ?_, fun hc0 => ?_⟩
  · skip
    have hd0 := hc0; try simp only [Bool.and_eq_true, Bool.or_eq_true, Bool.and_eq_false_iff, Bool.or_eq_false_iff, Bool.not_eq_true', Bool.not_eq_false', decide_eq_true_eq, decide_eq_false_iff_not, beq_iff_eq, beq_eq_false_iff_ne, ne_eq] at hd0
    exact pfitj71_A xp xv _ h
  · skip
    have hd0 := hc0; try simp only [Bool.and_eq_true, Bool.or_eq_true, Bool.and_eq_false_iff, Bool.or_eq_false_iff, Bool.not_eq_true', Bool.not_eq_false', decide_eq_true_eq, decide_eq_false_iff_not, beq_iff_eq, beq_eq_false_iff_ne, ne_eq] at hd0
    exact pfitj71_A xp xv _ h
def pfitj56M (xp : Int) (xv : Int × Int) : Bool := (if ((xp == 31) || (xp == 53)) = true then (if ((Int.tmod xv.2 1000) != 0) = true then false else (pfitj44M xp xv)) else (pfitj44M xp xv))
set_option linter.unusedSimpArgs false in
set_option linter.unusedVariables false in
theorem pfitj56_A (xp : Int) (xv : Int × Int) (P : Bool → Prop) (h : P (pfitj56M xp xv)) : pfitj56 xp xv (fun k0 => P k0) := by
  unfold pfitj56M at h
  unfold pfitj56
  refine ⟨fun hc0 => ?_, fun hc0 => ?_⟩
  · rw [if_t hc0] at h
    have hd0 := hc0; try simp only [Bool.and_eq_true, Bool.or_eq_true, Bool.and_eq_false_iff, Bool.or_eq_false_iff, Bool.not_eq_true', Bool.not_eq_false', decide_eq_true_eq, decide_eq_false_iff_not, beq_iff_eq, beq_eq_false_iff_ne, ne_eq] at hd0
    refine ⟨fun hc1 => ?_, fun hc1 => ?_⟩
    · rw [if_t hc1] at h
      exact h
    · rw [if_f hc1] at h
      exact pfitj44_A xp xv _ h
  · rw [if_f hc0] at h
    have hd0 := hc0; try simp only [Bool.and_eq_true, Bool.or_eq_true, Bool.and_eq_false_iff, Bool.or_eq_false_iff, Bool.not_eq_true', Bool.not_eq_false', decide_eq_true_eq, decide_eq_false_iff_not, beq_iff_eq, beq_eq_false_iff_ne, ne_eq] at hd0
    exact pfitj44_A xp xv _ h
def pfitj38M (xp : Int) (xv : Int × Int) : Bool := (if (xp == 37) = true then (pfitj44M xp xv) else (if (xp == 34) = true then (pfitj44M xp xv) else (pfitj56M xp xv)))
set_option linter.unusedSimpArgs false in
set_option linter.unusedVariables false in
theorem pfitj38_A (xp : Int) (xv : Int × Int) (P : Bool → Prop) (h : P (pfitj38M xp xv)) : pfitj38 xp xv (fun k0 => P k0) := by
  unfold pfitj38M at h
  unfold pfitj38
  refine ⟨fun hc0 => ?_, fun hc0 => ?_⟩
  · rw [if_t hc0] at h
    have hd0 := hc0; try simp only [Bool.and_eq_true, Bool.or_eq_true, Bool.and_eq_false_iff, Bool.or_eq_false_iff, Bool.not_eq_true', Bool.not_eq_false', decide_eq_true_eq, decide_eq_false_iff_not, beq_iff_eq, beq_eq_false_iff_ne, ne_eq] at hd0
    exact pfitj44_A xp xv _ h
  · rw [if_f hc0] at h
    have hd0 := hc0; try simp only [Bool.and_eq_true, Bool.or_eq_true, Bool.and_eq_false_iff, Bool.or_eq_false_iff, Bool.not_eq_true', Bool.not_eq_false', decide_eq_true_eq, decide_eq_false_iff_not, beq_iff_eq, beq_eq_false_iff_ne, ne_eq] at hd0
    refine ⟨fun hc1 => ?_, fun hc1 => ?_⟩
    · rw [if_t hc1] at h
      have hd1 := hc1; try simp only [Bool.and_eq_true, Bool.or_eq_true, Bool.and_eq_false_iff, Bool.or_eq_false_iff, Bool.not_eq_true', Bool.not_eq_false', decide_eq_true_eq, decide_eq_false_iff_not, beq_iff_eq, beq_eq_false_iff_ne, ne_eq] at hd1
      exact pfitj44_A xp xv _ h
    · rw [if_f hc1] at h
      have hd1 := hc1; try simp only [Bool.and_eq_true, Bool.or_eq_true, Bool.and_eq_false_iff, Bool.or_eq_false_iff, Bool.not_eq_true', Bool.not_eq_false', decide_eq_true_eq, decide_eq_false_iff_not, beq_iff_eq, beq_eq_false_iff_ne, ne_eq] at hd1
      refine ⟨fun hc2 => ?_, fun hc2 => ?_⟩
      · skip
        have hd2 := hc2; try simp only [Bool.and_eq_true, Bool.or_eq_true, Bool.and_eq_false_iff, Bool.or_eq_false_iff, Bool.not_eq_true', Bool.not_eq_false', decide_eq_true_eq, decide_eq_false_iff_not, beq_iff_eq, beq_eq_false_iff_ne, ne_eq] at hd2
        exact pfitj56_A xp xv _ h
      · skip
        have hd2 := hc2; try simp only [Bool.and_eq_true, Bool.or_eq_true, Bool.and_eq_false_iff, Bool.or_eq_false_iff, Bool.not_eq_true', Bool.not_eq_false', decide_eq_true_eq, decide_eq_false_iff_not, beq_iff_eq, beq_eq_false_iff_ne, ne_eq] at hd2
        exact pfitj56_A xp xv _ h
def pfitj4M (xp : Int) (xv : Int × Int) : Bool := (if ((!(pinM xp)) || (!(scontS (((patM xp).2).1) (pletM xv.1)))) = true then false else (if (xv.1 == 1) = true then (!((pkeyM ((patM xp).1, ((patM xp).2).1, (((patM xp).2).2).1, ((((patM xp).2).2).2).1, ((((patM xp).2).2).2).2) xv.2) == ([] : List UInt8))) else (if (xv.1 == 6) = true then (xv.2 == 0) else (if (xv.1 == 5) = true then (pfitj32M xv) else (pfitj38M xp xv)))))
set_option linter.unusedSimpArgs false in
set_option linter.unusedVariables false in
theorem pfitj4_A (xp : Int) (xv : Int × Int) (P : Bool → Prop) (h : P (pfitj4M xp xv)) : pfitj4 xp xv (fun k0 => P k0) := by
  unfold pfitj4M at h
  unfold pfitj4
  refine ⟨fun hc0 => ?_, fun hc0 => ?_⟩
  · rw [if_t hc0] at h
    have hd0 := hc0; try simp only [Bool.and_eq_true, Bool.or_eq_true, Bool.and_eq_false_iff, Bool.or_eq_false_iff, Bool.not_eq_true', Bool.not_eq_false', decide_eq_true_eq, decide_eq_false_iff_not, beq_iff_eq, beq_eq_false_iff_ne, ne_eq] at hd0
    exact h
  · rw [if_f hc0] at h
    have hd0 := hc0; try simp only [Bool.and_eq_true, Bool.or_eq_true, Bool.and_eq_false_iff, Bool.or_eq_false_iff, Bool.not_eq_true', Bool.not_eq_false', decide_eq_true_eq, decide_eq_false_iff_not, beq_iff_eq, beq_eq_false_iff_ne, ne_eq] at hd0
    refine ⟨?_, ?_⟩
    · first | exact kinds_ok (pin_p (by assumption)) _ | exact keys_ok (pin_p2 (by assumption)) _ | exact pin_p2 (by assumption) | exact pin_p (by assumption) | omega | assumption | exact trivial | (have h0 := List.length_pos_iff.mpr (by assumption); omega) | (simp; omega) | (simp at *; omega)
    refine ⟨fun hc1 => ?_, fun hc1 => ?_⟩
    · rw [if_t hc1] at h
      have hd1 := hc1; try simp only [Bool.and_eq_true, Bool.or_eq_true, Bool.and_eq_false_iff, Bool.or_eq_false_iff, Bool.not_eq_true', Bool.not_eq_false', decide_eq_true_eq, decide_eq_false_iff_not, beq_iff_eq, beq_eq_false_iff_ne, ne_eq] at hd1
      refine ⟨?_, ?_⟩
      · first | exact kinds_ok (pin_p (by assumption)) _ | exact keys_ok (pin_p2 (by assumption)) _ | exact pin_p2 (by assumption) | exact pin_p (by assumption) | omega | assumption | exact trivial | (have h0 := List.length_pos_iff.mpr (by assumption); omega) | (simp; omega) | (simp at *; omega)
      exact h
    · rw [if_f hc1] at h
      have hd1 := hc1; try simp only [Bool.and_eq_true, Bool.or_eq_true, Bool.and_eq_false_iff, Bool.or_eq_false_iff, Bool.not_eq_true', Bool.not_eq_false', decide_eq_true_eq, decide_eq_false_iff_not, beq_iff_eq, beq_eq_false_iff_ne, ne_eq] at hd1
      refine ⟨fun hc2 => ?_, fun hc2 => ?_⟩
      · rw [if_t hc2] at h
        have hd2 := hc2; try simp only [Bool.and_eq_true, Bool.or_eq_true, Bool.and_eq_false_iff, Bool.or_eq_false_iff, Bool.not_eq_true', Bool.not_eq_false', decide_eq_true_eq, decide_eq_false_iff_not, beq_iff_eq, beq_eq_false_iff_ne, ne_eq] at hd2
        exact h
      · rw [if_f hc2] at h
        have hd2 := hc2; try simp only [Bool.and_eq_true, Bool.or_eq_true, Bool.and_eq_false_iff, Bool.or_eq_false_iff, Bool.not_eq_true', Bool.not_eq_false', decide_eq_true_eq, decide_eq_false_iff_not, beq_iff_eq, beq_eq_false_iff_ne, ne_eq] at hd2
        refine ⟨fun hc3 => ?_, fun hc3 => ?_⟩
        · rw [if_t hc3] at h
          have hd3 := hc3; try simp only [Bool.and_eq_true, Bool.or_eq_true, Bool.and_eq_false_iff, Bool.or_eq_false_iff, Bool.not_eq_true', Bool.not_eq_false', decide_eq_true_eq, decide_eq_false_iff_not, beq_iff_eq, beq_eq_false_iff_ne, ne_eq] at hd3
          refine ⟨fun hc4 => ?_, fun hc4 => ?_⟩
          · skip
            have hd4 := of_decide_eq_true hc4
            exact pfitj32_A xv _ h
          · skip
            have hd4 := of_decide_eq_false hc4
            exact pfitj32_A xv _ h
        · rw [if_f hc3] at h
          have hd3 := hc3; try simp only [Bool.and_eq_true, Bool.or_eq_true, Bool.and_eq_false_iff, Bool.or_eq_false_iff, Bool.not_eq_true', Bool.not_eq_false', decide_eq_true_eq, decide_eq_false_iff_not, beq_iff_eq, beq_eq_false_iff_ne, ne_eq] at hd3
          refine ⟨fun hc4 => ?_, fun hc4 => ?_⟩
          · skip
            exact pfitj38_A xp xv _ h
          · skip
            exact pfitj38_A xp xv _ h
def pfitM (xp : Int) (xv : Int × Int) : Bool := (pfitj4M xp xv)
set_option linter.unusedSimpArgs false in
set_option linter.unusedVariables false in
theorem pfitF_A (xp : Int) (xv : Int × Int) (P : Bool → Prop) (h : P (pfitM xp xv)) : pfitF xp xv (fun k0 => P k0) := by
  unfold pfitM at h
  unfold pfitF
  refine ⟨fun hc0 => ?_, fun hc0 => ?_⟩
  · skip
    exact pfitj4_A xp xv _ h
  · skip
    refine ⟨?_, ?_⟩
    · first | exact kinds_ok (pin_p (by assumption)) _ | exact keys_ok (pin_p2 (by assumption)) _ | exact pin_p2 (by assumption) | exact pin_p (by assumption) | omega | assumption | exact trivial | (have h0 := List.length_pos_iff.mpr (by assumption); omega) | (simp; omega) | (simp at *; omega)
    refine ⟨?_, ?_⟩
    · first | exact kinds_ok (pin_p (by assumption)) _ | exact keys_ok (pin_p2 (by assumption)) _ | exact pin_p2 (by assumption) | exact pin_p (by assumption) | omega | assumption | exact trivial | (have h0 := List.length_pos_iff.mpr (by assumption); omega) | (simp; omega) | (simp at *; omega)
    exact pfitj4_A xp xv _ h
theorem pfit_F (xp : Int) (xv : Int × Int) : pfitF xp xv (fun k0 => k0 = pfitM xp xv) :=
  pfitF_A xp xv (fun z => z = pfitM xp xv) rfl
set_option linter.unusedVariables false in
theorem pfit_c {g : Ghost} (xp : Int) (xv : Int × Int) (hG1 : SomeInt g 1)  : CallsG Tryd.prog 10 #[.int .i64 xp, .agg #[.int .i64 xv.1, .int .i64 xv.2]] g (.bool (pfitM xp xv)) :=
  (pfit_ok xp xv hG1 _ (pfit_F xp xv)).gives (by rintro g' H' v _ ⟨r0, rfl, rfl, hK⟩; subst hK; rfl)
def rhbl7b (xs : List UInt8) (xc : Int) (K : Bool → Prop) (x5l7 : Int) (C7 : Int → Prop) : Prop :=
  ((decide (x5l7 < (xs.length : Int))) = true → (0 : Int) ≤ x5l7 ∧ Int.toNat x5l7 < xs.length ∧ (((((xs.getD (Int.toNat x5l7) 0).toNat : Int) == xc)) = true → K true) ∧ (((((xs.getD (Int.toNat x5l7) 0).toNat : Int) == xc)) = false → C7 (IntKind.wrap .i64 (x5l7 + 1)))) ∧ ((decide (x5l7 < (xs.length : Int))) = false → K false)
def rhbl7 (xs : List UInt8) (xc : Int) (K : Bool → Prop) : Nat → Int → Prop
  | 0, _ => False
  | k + 1, x5l7 => rhbl7b xs xc K x5l7 (rhbl7 xs xc K k)
def rhbF (xs : List UInt8) (xc : Int) (K : Bool → Prop) : Prop :=
  ∃ k, rhbl7 xs xc K k 0
set_option maxHeartbeats 4000000 in
set_option maxRecDepth 100000 in
set_option linter.unusedVariables false in
theorem rhb_ok {g : Ghost} (xs : List UInt8) (xc : Int) (K : Bool → Prop)
    (hF : rhbF xs xc K) : CallsH Tryd.prog 32 #[.string ⟨⟨xs⟩⟩, .int .u8 xc] g [] (fun g' H' v => ∃ (r0 : Bool), v = .bool r0 ∧ H' = [] ∧ K r0) := by
  refine CallsH.enter 17 [(0, .string ⟨⟨xs⟩⟩), (1, .int .u8 xc)] Tryd.func32 rfl (by kernel_rfl) (by kernel_rfl) (by kernel_rfl) fun w0 => ?_
  refine Ok.seq ?_
  refine Ok.region ?_
  refine Ok.batch 1 [(0, .string ⟨⟨xs⟩⟩), (1, .int .u8 xc)] (by kernel_rfl) ?_
  refine Ok.nil ?_
  refine Ok.thenN ?_
  refine Ok.seq ?_
  refine Ok.seq ?_
  refine Ok.region ?_
  refine Ok.batch 1 [(0, .string ⟨⟨xs⟩⟩), (1, .int .u8 xc), (5, .int .i64 0)] (by kernel_rfl) ?_
  refine Ok.nil ?_
  refine Ok.thenN ?_
  refine Ok.block ?_
  obtain ⟨k, hF⟩ := hF
  refine Ok.loop (fun k a W => ∃ (x5l7 : Int), StA 17 [(0, .string ⟨⟨xs⟩⟩), (1, .int .u8 xc), (5, .int .i64 x5l7)] a ∧ StW w0 [] g W ∧ rhbl7 xs xc K k x5l7) k ?_ ?_
  ·
    exact fun a W hA hW => ⟨0, hA.sub (by kernel_rfl), hW, hF⟩
  ·
    clear hF
    rintro k7 a W ⟨x5l7, hA, hW, hF⟩
    cases k7 with
    | zero => exact (hF : False).elim
    | succ k7 =>
      refine (?_ : Ok _ _ _ _ _ _) a W hA hW
      clear hA hW
      refine Ok.seq ?_
      refine Ok.seq ?_
      refine Ok.region ?_
      refine Ok.batch 4 [(0, .string ⟨⟨xs⟩⟩), (1, .int .u8 xc), (5, .int .i64 x5l7), (9, .bool (decide (x5l7 < (xs.length : Int))))] (by kernel_rfl) ?_
      refine Ok.nil ?_
      refine Ok.thenN ?_
      refine Ok.cond (b := decide (x5l7 < (xs.length : Int))) rfl (fun hc1 => ?_) (fun hc1 => ?_)
      · replace hF := hF.1 hc1
        refine Ok.skip ?_
        refine Ok.thenN ?_
        refine Ok.seq ?_
        refine Ok.block ?_
        refine Ok.seq ?_
        refine Ok.region ?_
        refine Ok.batch 2 [(0, .string ⟨⟨xs⟩⟩), (1, .int .u8 xc), (5, .int .i64 x5l7), (12, .string ⟨⟨xs⟩⟩), (13, .int .i64 x5l7)] (by kernel_rfl) ?_
        obtain ⟨h02, h12, hF⟩ := hF
        have he2 := get_of (l := xs) (0 : UInt8) h12
        generalize hg2 : (xs.getD (Int.toNat x5l7) 0) = e2 at he2 hF ⊢
        refine Ok.op rfl (OpOk.step (v := .int .u8 (e2.toNat : Int)) (Yields.indexStr (k := .i64) (i := x5l7) (s := xs) (b := e2) (by kernel_rfl) (by kernel_rfl) Tryd.underlying9 h02 he2) rfl rfl ?_)
        refine Ok.batch 2 [(0, .string ⟨⟨xs⟩⟩), (1, .int .u8 xc), (5, .int .i64 x5l7), (16, .bool ((e2.toNat : Int) == xc))] (by kernel_rfl) ?_
        refine Ok.nil ?_
        refine Ok.thenN ?_
        refine Ok.cond (b := ((e2.toNat : Int) == xc)) rfl (fun hc3 => ?_) (fun hc3 => ?_)
        · replace hF := hF.1 hc3
          refine Ok.seq ?_
          refine Ok.region ?_
          refine Ok.batch 1 [(4, .bool true)] (by kernel_rfl) ?_
          refine Ok.nil ?_
          refine Ok.thenN ?_
          refine Ok.ret ?_
          refine Ok.blockR ?_
          refine Ok.thenR ?_
          refine Ok.thenR ?_
          refine Ok.blockR ?_
          refine Ok.thenR ?_
          exact Ok.resH (vs := [.bool true]) (.inl rfl) rfl (.cons (.tmp rfl) .nil) (Gext.refl w0 g) ⟨true, rfl, rfl, hF⟩
        · replace hF := hF.2 hc3
          refine Ok.skip ?_
          refine Ok.blockN ?_
          refine Ok.thenN ?_
          refine Ok.region ?_
          refine Ok.batch 3 [(0, .string ⟨⟨xs⟩⟩), (1, .int .u8 xc), (5, .int .i64 (IntKind.wrap .i64 (x5l7 + 1)))] (by kernel_rfl) ?_
          refine Ok.nil ?_
          refine Ok.thenN ?_
          subst hg2
          exact fun a W hA hW => ⟨k7, Nat.lt_succ_self _, IntKind.wrap .i64 (x5l7 + 1), hA.sub (by kernel_rfl), hW, hF⟩
      · replace hF := hF.2 hc1
        refine Ok.exit ?_
        refine Ok.thenE ?_
        refine Ok.thenE ?_
        refine Ok.blockHit ?_
        refine Ok.thenN ?_
        refine Ok.seq ?_
        refine Ok.region ?_
        refine Ok.batch 1 [(4, .bool false)] (by kernel_rfl) ?_
        refine Ok.nil ?_
        refine Ok.thenN ?_
        refine Ok.ret ?_
        exact Ok.resH (vs := [.bool false]) (.inl rfl) rfl (.cons (.tmp rfl) .nil) (Gext.refl w0 g) ⟨false, rfl, rfl, hF⟩
def rhbS (s : List UInt8) (c : Int) : Bool := s.any fun x => (x.toNat : Int) == c
def rhbP (s : List UInt8) (_ : Int) : Prop := s.length ≤ 1000000
theorem rhb_F (s : List UInt8) (c : Int) (hp : rhbP s c) : rhbF s c (fun r => r = rhbS s c) := by
  unfold rhbP at hp
  have loop : ∀ (k i : Nat), i + k = s.length → rhbS s c = (s.drop i).any (fun x => (x.toNat : Int) == c) → rhbl7 s c (fun r => r = rhbS s c) (k + 1) (i : Int) := by
    intro k
    induction k with
    | zero =>
      intro i h he
      have hn : decide ((i : Int) < (s.length : Int)) = false := decide_eq_false (by omega)
      rw [List.drop_of_length_le (by omega)] at he
      exact ⟨fun h => (Bool.false_ne_true (hn.symm.trans h)).elim, fun _ => he.symm⟩
    | succ k ih =>
      intro i h he
      have hn : decide ((i : Int) < (s.length : Int)) = true := decide_eq_true (by omega)
      rw [drop_get (l := s) 0 (by omega), List.any_cons] at he
      refine ⟨fun _ => ⟨by omega, by rw [Int.toNat_natCast]; omega, ?_⟩, fun h => (Bool.false_ne_true (h.symm.trans hn)).elim⟩
      rw [Int.toNat_natCast]
      refine ⟨fun h1 => by rw [h1, Bool.true_or] at he; exact he.symm, fun h1 => ?_⟩
      rw [h1, Bool.false_or] at he
      rw [w64 (by omega)]
      exact ih (i + 1) (by omega) he
  exact ⟨_, loop s.length 0 (by omega) rfl⟩
set_option linter.unusedVariables false in
theorem rhb_c {g : Ghost} (xs : List UInt8) (xc : Int)  (hp : rhbP xs xc) : CallsG Tryd.prog 32 #[.string ⟨⟨xs⟩⟩, .int .u8 xc] g (.bool (rhbS xs xc)) :=
  (rhb_ok xs xc _ (rhb_F xs xc hp)).gives (by rintro g' H' v _ ⟨r0, rfl, rfl, hK⟩; subst hK; rfl)
def rpkT0 : List (List UInt8) := ([([107] : List UInt8), ([107] : List UInt8), ([107] : List UInt8), ([107] : List UInt8), ([107] : List UInt8), ([108, 112, 97, 48] : List UInt8), ([108, 112, 97, 48] : List UInt8), ([108, 112, 97, 48] : List UInt8), ([108, 112, 97, 48] : List UInt8), ([108, 112, 97, 48] : List UInt8), ([108, 112, 97, 48] : List UInt8), ([108, 112, 97] : List UInt8), ([108, 112, 97] : List UInt8), ([108, 112, 97] : List UInt8), ([108, 112, 97] : List UInt8), ([108, 112, 48] : List UInt8), ([108, 112, 48] : List UInt8), ([108, 112, 48] : List UInt8), ([108, 112, 48] : List UInt8), ([108, 48] : List UInt8), ([108, 48] : List UInt8), ([108, 48] : List UInt8), ([108, 48] : List UInt8), ([99] : List UInt8), ([99] : List UInt8), ([99] : List UInt8), ([99] : List UInt8), ([108, 112, 97] : List UInt8), ([108, 112, 97] : List UInt8), ([108, 112, 97] : List UInt8), ([108, 112, 97] : List UInt8), ([110, 97] : List UInt8), ([107] : List UInt8), ([107] : List UInt8), ([110, 48] : List UInt8), ([99] : List UInt8), ([99] : List UInt8), ([108, 48] : List UInt8), ([108, 110, 97, 48] : List UInt8), ([107] : List UInt8), ([108, 112] : List UInt8), ([107] : List UInt8), ([107, 108] : List UInt8), ([107] : List UInt8), ([108, 97] : List UInt8), ([107] : List UInt8), ([107] : List UInt8), ([107] : List UInt8), ([107] : List UInt8), ([107, 97] : List UInt8), ([110, 48] : List UInt8), ([110, 48] : List UInt8), ([108, 112, 97, 48] : List UInt8), ([110] : List UInt8), ([108, 48] : List UInt8), ([107] : List UInt8), ([108, 48] : List UInt8), ([107] : List UInt8), ([107] : List UInt8)] : List (List UInt8))
def rpkF (K : (List (List UInt8)) → Prop) : Prop :=
  K rpkT0
set_option maxHeartbeats 4000000 in
set_option maxRecDepth 100000 in
set_option linter.unusedVariables false in
theorem rpk_ok {g : Ghost}  (K : (List (List UInt8)) → Prop)
    (hF : rpkF K) : CallsH Tryd.prog 31 #[] g [] (fun g' H' v => ∃ (r0 : List (List UInt8)), ∃ (ar0_0 : Option Addr) (cr0_0 : Nat), v = .slice ar0_0 r0.length cr0_0 ∧ Rep g' (.slice (.str)) [.slice ar0_0 r0.length cr0_0] r0 ∧ H' = [] ∧ K r0) := by
  refine CallsH.enter 2 [] Tryd.func31 rfl (by kernel_rfl) (by kernel_rfl) (by kernel_rfl) fun w0 => ?_
  refine Ok.seq ?_
  refine Ok.region ?_
  refine Ok.batch 1 [] (by kernel_rfl) ?_
  refine Ok.nil ?_
  refine Ok.thenN ?_
  refine Ok.seq ?_
  refine Ok.region ?_
  have hL1 : RepL g (.str) ([.string ⟨⟨([107] : List UInt8)⟩⟩, .string ⟨⟨([107] : List UInt8)⟩⟩, .string ⟨⟨([107] : List UInt8)⟩⟩, .string ⟨⟨([107] : List UInt8)⟩⟩, .string ⟨⟨([107] : List UInt8)⟩⟩, .string ⟨⟨([108, 112, 97, 48] : List UInt8)⟩⟩, .string ⟨⟨([108, 112, 97, 48] : List UInt8)⟩⟩, .string ⟨⟨([108, 112, 97, 48] : List UInt8)⟩⟩, .string ⟨⟨([108, 112, 97, 48] : List UInt8)⟩⟩, .string ⟨⟨([108, 112, 97, 48] : List UInt8)⟩⟩, .string ⟨⟨([108, 112, 97, 48] : List UInt8)⟩⟩, .string ⟨⟨([108, 112, 97] : List UInt8)⟩⟩, .string ⟨⟨([108, 112, 97] : List UInt8)⟩⟩, .string ⟨⟨([108, 112, 97] : List UInt8)⟩⟩, .string ⟨⟨([108, 112, 97] : List UInt8)⟩⟩, .string ⟨⟨([108, 112, 48] : List UInt8)⟩⟩, .string ⟨⟨([108, 112, 48] : List UInt8)⟩⟩, .string ⟨⟨([108, 112, 48] : List UInt8)⟩⟩, .string ⟨⟨([108, 112, 48] : List UInt8)⟩⟩, .string ⟨⟨([108, 48] : List UInt8)⟩⟩, .string ⟨⟨([108, 48] : List UInt8)⟩⟩, .string ⟨⟨([108, 48] : List UInt8)⟩⟩, .string ⟨⟨([108, 48] : List UInt8)⟩⟩, .string ⟨⟨([99] : List UInt8)⟩⟩, .string ⟨⟨([99] : List UInt8)⟩⟩, .string ⟨⟨([99] : List UInt8)⟩⟩, .string ⟨⟨([99] : List UInt8)⟩⟩, .string ⟨⟨([108, 112, 97] : List UInt8)⟩⟩, .string ⟨⟨([108, 112, 97] : List UInt8)⟩⟩, .string ⟨⟨([108, 112, 97] : List UInt8)⟩⟩, .string ⟨⟨([108, 112, 97] : List UInt8)⟩⟩, .string ⟨⟨([110, 97] : List UInt8)⟩⟩, .string ⟨⟨([107] : List UInt8)⟩⟩, .string ⟨⟨([107] : List UInt8)⟩⟩, .string ⟨⟨([110, 48] : List UInt8)⟩⟩, .string ⟨⟨([99] : List UInt8)⟩⟩, .string ⟨⟨([99] : List UInt8)⟩⟩, .string ⟨⟨([108, 48] : List UInt8)⟩⟩, .string ⟨⟨([108, 110, 97, 48] : List UInt8)⟩⟩, .string ⟨⟨([107] : List UInt8)⟩⟩, .string ⟨⟨([108, 112] : List UInt8)⟩⟩, .string ⟨⟨([107] : List UInt8)⟩⟩, .string ⟨⟨([107, 108] : List UInt8)⟩⟩, .string ⟨⟨([107] : List UInt8)⟩⟩, .string ⟨⟨([108, 97] : List UInt8)⟩⟩, .string ⟨⟨([107] : List UInt8)⟩⟩, .string ⟨⟨([107] : List UInt8)⟩⟩, .string ⟨⟨([107] : List UInt8)⟩⟩, .string ⟨⟨([107] : List UInt8)⟩⟩, .string ⟨⟨([107, 97] : List UInt8)⟩⟩, .string ⟨⟨([110, 48] : List UInt8)⟩⟩, .string ⟨⟨([110, 48] : List UInt8)⟩⟩, .string ⟨⟨([108, 112, 97, 48] : List UInt8)⟩⟩, .string ⟨⟨([110] : List UInt8)⟩⟩, .string ⟨⟨([108, 48] : List UInt8)⟩⟩, .string ⟨⟨([107] : List UInt8)⟩⟩, .string ⟨⟨([108, 48] : List UInt8)⟩⟩, .string ⟨⟨([107] : List UInt8)⟩⟩, .string ⟨⟨([107] : List UInt8)⟩⟩] : List Value) rpkT0 := (RepL.flat (by kernel_rfl) (by kernel_rfl))
  refine Ok.op rfl (OpOk.lit (E := 9) (.str) rpkT0 ([.string ⟨⟨([107] : List UInt8)⟩⟩, .string ⟨⟨([107] : List UInt8)⟩⟩, .string ⟨⟨([107] : List UInt8)⟩⟩, .string ⟨⟨([107] : List UInt8)⟩⟩, .string ⟨⟨([107] : List UInt8)⟩⟩, .string ⟨⟨([108, 112, 97, 48] : List UInt8)⟩⟩, .string ⟨⟨([108, 112, 97, 48] : List UInt8)⟩⟩, .string ⟨⟨([108, 112, 97, 48] : List UInt8)⟩⟩, .string ⟨⟨([108, 112, 97, 48] : List UInt8)⟩⟩, .string ⟨⟨([108, 112, 97, 48] : List UInt8)⟩⟩, .string ⟨⟨([108, 112, 97, 48] : List UInt8)⟩⟩, .string ⟨⟨([108, 112, 97] : List UInt8)⟩⟩, .string ⟨⟨([108, 112, 97] : List UInt8)⟩⟩, .string ⟨⟨([108, 112, 97] : List UInt8)⟩⟩, .string ⟨⟨([108, 112, 97] : List UInt8)⟩⟩, .string ⟨⟨([108, 112, 48] : List UInt8)⟩⟩, .string ⟨⟨([108, 112, 48] : List UInt8)⟩⟩, .string ⟨⟨([108, 112, 48] : List UInt8)⟩⟩, .string ⟨⟨([108, 112, 48] : List UInt8)⟩⟩, .string ⟨⟨([108, 48] : List UInt8)⟩⟩, .string ⟨⟨([108, 48] : List UInt8)⟩⟩, .string ⟨⟨([108, 48] : List UInt8)⟩⟩, .string ⟨⟨([108, 48] : List UInt8)⟩⟩, .string ⟨⟨([99] : List UInt8)⟩⟩, .string ⟨⟨([99] : List UInt8)⟩⟩, .string ⟨⟨([99] : List UInt8)⟩⟩, .string ⟨⟨([99] : List UInt8)⟩⟩, .string ⟨⟨([108, 112, 97] : List UInt8)⟩⟩, .string ⟨⟨([108, 112, 97] : List UInt8)⟩⟩, .string ⟨⟨([108, 112, 97] : List UInt8)⟩⟩, .string ⟨⟨([108, 112, 97] : List UInt8)⟩⟩, .string ⟨⟨([110, 97] : List UInt8)⟩⟩, .string ⟨⟨([107] : List UInt8)⟩⟩, .string ⟨⟨([107] : List UInt8)⟩⟩, .string ⟨⟨([110, 48] : List UInt8)⟩⟩, .string ⟨⟨([99] : List UInt8)⟩⟩, .string ⟨⟨([99] : List UInt8)⟩⟩, .string ⟨⟨([108, 48] : List UInt8)⟩⟩, .string ⟨⟨([108, 110, 97, 48] : List UInt8)⟩⟩, .string ⟨⟨([107] : List UInt8)⟩⟩, .string ⟨⟨([108, 112] : List UInt8)⟩⟩, .string ⟨⟨([107] : List UInt8)⟩⟩, .string ⟨⟨([107, 108] : List UInt8)⟩⟩, .string ⟨⟨([107] : List UInt8)⟩⟩, .string ⟨⟨([108, 97] : List UInt8)⟩⟩, .string ⟨⟨([107] : List UInt8)⟩⟩, .string ⟨⟨([107] : List UInt8)⟩⟩, .string ⟨⟨([107] : List UInt8)⟩⟩, .string ⟨⟨([107] : List UInt8)⟩⟩, .string ⟨⟨([107, 97] : List UInt8)⟩⟩, .string ⟨⟨([110, 48] : List UInt8)⟩⟩, .string ⟨⟨([110, 48] : List UInt8)⟩⟩, .string ⟨⟨([108, 112, 97, 48] : List UInt8)⟩⟩, .string ⟨⟨([110] : List UInt8)⟩⟩, .string ⟨⟨([108, 48] : List UInt8)⟩⟩, .string ⟨⟨([107] : List UInt8)⟩⟩, .string ⟨⟨([108, 48] : List UInt8)⟩⟩, .string ⟨⟨([107] : List UInt8)⟩⟩, .string ⟨⟨([107] : List UInt8)⟩⟩] : List Value) (by kernel_rfl) (by kernel_rfl) rfl (by kernel_rfl) hL1 rfl fun b1 => ?_)
  refine Ok.batch 1 [(0, .slice (some ⟨b1, 0, none⟩) rpkT0.length 59)] (by kernel_rfl) ?_
  refine Ok.nil ?_
  refine Ok.thenN ?_
  refine Ok.ret ?_
  refine Ok.freeze (H' := []) 0 rfl hL1 rfl fun g2 hx2 hRf2 => ?_
  exact Ok.resH (vs := [.slice (some ⟨b1, 0, none⟩) rpkT0.length 59]) (.inl rfl) rfl (.cons (.tmp rfl) .nil) hx2 ⟨rpkT0, (some ⟨b1, 0, none⟩), 59, rfl, hRf2, rfl, hF⟩
def rpkM : List (List UInt8) := rpkT0
set_option linter.unusedSimpArgs false in
set_option linter.unusedVariables false in
theorem rpkF_A (P : List (List UInt8) → Prop) (h : P (rpkM)) : rpkF (fun k0 => P k0) := by
  unfold rpkM at h
  unfold rpkF
  exact h
theorem rpk_F : rpkF (fun k0 => k0 = rpkM) :=
  rpkF_A (fun z => z = rpkM) rfl
set_option linter.unusedVariables false in
theorem rpk_c {g : Ghost}   : CallsH Tryd.prog 31 #[] g [] (fun g' H' v => ∃ (ar0_0 : Option Addr) (cr0_0 : Nat), v = .slice ar0_0 rpkM.length cr0_0 ∧ Rep g' (.slice (.str)) [.slice ar0_0 rpkM.length cr0_0] rpkM ∧ H' = []) :=
  (rpk_ok  _ (rpk_F )).mono (by rintro g' H' v _ ⟨r0, ar0_0, cr0_0, rfl, hRr0_0, rfl, hK⟩; subst hK; exact ⟨ar0_0, cr0_0, rfl, hRr0_0, rfl⟩)
end Go.Proofs.YteocjdpjpkjlaaaDoor.Pf
