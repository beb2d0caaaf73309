/- Properties: what fits (second part). -/
import Derived.Test.YtdiedaeabbcceaaGreatDoorPra
namespace Go.Proofs.YtdiedaeabbcceaaGreatDoor.Pf
open Go Go.Eng Go.RowKit Sp
set_option maxHeartbeats 4000000
set_option maxRecDepth 100000
set_option linter.unusedSimpArgs false
set_option linter.unusedVariables false
def pfitj32 (xv : Int × Int) (K : Bool → Prop) : Prop :=
 K ((decide (xv.2 ≥ 0)) && (decide (xv.2 < 4294967296)))
def pfitj71 (xp : Int) (xv : Int × Int) (K : Bool → Prop) : Prop :=
 K ((decide (xv.2 ≥ (if (xp == 37) = true then 64 else (if (patM xp).2.2.2.2 = true then 0 else -16777216)))) && (decide (xv.2 ≤ (if (xp == 37) = true then 16777216 else (if (xp == 34) = true then 1000 else 16777216)))))
def pfitj44 (xp : Int) (xv : Int × Int) (K : Bool → Prop) : Prop :=
 ((decide (xv.2 ≥ (if (xp == 37) = true then 64 else (if (patM xp).2.2.2.2 = true then 0 else -16777216)))) = true → pfitj71 xp xv K) ∧ ((decide (xv.2 ≥ (if (xp == 37) = true then 64 else (if (patM xp).2.2.2.2 = true then 0 else -16777216)))) = false → pfitj71 xp xv K)
def pfitj56 (xp : Int) (xv : Int × Int) (K : Bool → Prop) : Prop :=
 ((((xp == 31) || (xp == 53))) = true → ((((Int.tmod xv.2 1000) != 0)) = true → K false) ∧ ((((Int.tmod xv.2 1000) != 0)) = false → pfitj44 xp xv K)) ∧ ((((xp == 31) || (xp == 53))) = false → pfitj44 xp xv K)
def pfitj38 (xp : Int) (xv : Int × Int) (K : Bool → Prop) : Prop :=
 (((xp == 37)) = true → pfitj44 xp xv K) ∧ (((xp == 37)) = false → (((xp == 34)) = true → pfitj44 xp xv K) ∧ (((xp == 34)) = false → (((xp == 31)) = true → pfitj56 xp xv K) ∧ (((xp == 31)) = false → pfitj56 xp xv K)))
def pfitj4 (xp : Int) (xv : Int × Int) (K : Bool → Prop) : Prop :=
 ((((!(pinM xp)) || (!(scontS (patM xp).2.1 (pletM xv.1))))) = true → K false) ∧ ((((!(pinM xp)) || (!(scontS (patM xp).2.1 (pletM xv.1))))) = false → p59 xp ∧ (((xv.1 == 1)) = true → pkeyP ((patM xp).1, (patM xp).2.1, (patM xp).2.2.1, (patM xp).2.2.2.1, (patM xp).2.2.2.2) xv.2 ∧ K (!((pkeyM ((patM xp).1, (patM xp).2.1, (patM xp).2.2.1, (patM xp).2.2.2.1, (patM xp).2.2.2.2) xv.2) == ([] : Bs)))) ∧ (((xv.1 == 1)) = false → (((xv.1 == 6)) = true → K (xv.2 == 0)) ∧ (((xv.1 == 6)) = false → (((xv.1 == 5)) = true → ((decide (xv.2 ≥ 0)) = true → pfitj32 xv K) ∧ ((decide (xv.2 ≥ 0)) = false → pfitj32 xv K)) ∧ (((xv.1 == 5)) = false → ((patM xp).2.2.2.2 = true → pfitj38 xp xv K) ∧ ((patM xp).2.2.2.2 = false → pfitj38 xp xv K)))))
def pfitF (xp : Int) (xv : Int × Int) (K : Bool → Prop) : Prop :=
 ((!(pinM xp)) = true → pfitj4 xp xv K) ∧ ((!(pinM xp)) = false → p59 xp ∧ scontP (patM xp).2.1 (pletM xv.1) ∧ pfitj4 xp xv K)
theorem pfit_ok {g : Ghost} (xp : Int) (xv : Int × Int) (hG2 : SomeInt g 2) (K : Bool → Prop)
  (hF : pfitF xp xv K) : CallsH Tryz.prog 36 #[.int .i64 xp, .agg #[.int .i64 xv.1, .int .i64 xv.2]] g [] (fun g' H' v => ∃ (r0 : Bool), v = .bool r0 ∧ H' = [] ∧ K r0) := by
 refine CallsH.enter 71 [(0, .int .i64 xp), (1, .agg #[.int .i64 xv.1, .int .i64 xv.2])] Tryz.func36 rfl (by kernel_rfl) (by kernel_rfl) (by kernel_rfl) fun w0 => ?_
 refine Ok.seq (Ok.region (Ok.op rfl (OpOk.box (v := .agg #[.int .i64 xv.1, .int .i64 xv.2]) (cs := #[.int .i64 xv.1, .int .i64 xv.2]) rfl (by kernel_rfl) rfl fun b1 => ?_)))
 refine Ok.batch 1 [(0, .int .i64 xp), (3, pv b1 0)] (by kernel_rfl) (Ok.nil (Ok.thenN (Ok.seq (Ok.cut (fun a W => StA 71 [(0, .int .i64 xp), (3, pv b1 0), (20, .bool ((!(pinM xp)) || (!(scontS (patM xp).2.1 (pletM xv.1)))))] a ∧ StW w0 [.blk b1 (.cells #[.int .i64 xv.1, .int .i64 xv.2] 44)] g W ∧ pfitj4 xp xv K) ?_ ?_))))
 ·
  refine Ok.quiet' (by kernel_rfl) (by kernel_rfl) (OkQ.bat 1 [0, 3] [(8, .int .i64 xp)] ?_)
  refine OkQ.op rfl (OpQ.callG (v := .bool (pinM xp)) enr (fun W hW => pin_c xp) rfl ?_)
  refine OkQ.bat 2 [0, 3] [(11, .bool (!(pinM xp)))] ?_
  refine OkQ.boolAt 11 (!(pinM xp)) rfl (fun hc17 => ?_) (fun hc17 => ?_)
  ·replace hF := hF.1 hc17
   refine OkQ.bat 9 [0, 3] [(20, .bool true)] ?_
   refine OkQ.nil (Ok.thenN (Ok.reval 20 rfl (show (.bool true : Value) = .bool ((!(pinM xp)) || (!(scontS (patM xp).2.1 (pletM xv.1)))) from congrArg (Value.bool) (mor_t hc17)) ?_))
   exact fun a W hA hW => ⟨hA.sub (by kernel_rfl), hW, hF⟩
  ·replace hF := hF.2 hc17
   refine OkQ.bat 1 [0, 3] [(11, .bool false), (12, .int .i64 xp)] ?_
   obtain ⟨hp18, hF⟩ := hF
   refine OkQ.opYes (j := 3) (d := 11) (want := false) (b := false) rfl (by kernel_rfl) (by kernel_rfl) rfl (OpQ.callG (v := .agg #[sv ((patM xp).1), sv ((patM xp).2.1), sv ((patM xp).2.2.1), sv ((patM xp).2.2.2.1), .bool (patM xp).2.2.2.2]) enr (fun W hW => pat_c xp hp18) rfl ?_)
   refine OkQ.bat 2 [0, 3, 11] [(14, sv ((patM xp).2.1)), (15, pv b1 0)] ?_
   refine OkQ.opYes (j := 3) (d := 11) (want := false) (b := false) rfl (by kernel_rfl) (by kernel_rfl) rfl (OpQ.step (v := .int .i64 xv.1) (Yields.load 0 rfl rfl Tryz.underlying3 rfl (by kernel_rfl)) rfl rfl (OkQ.opYes (j := 3) (d := 11) (want := false) (b := false) rfl (by kernel_rfl) (by kernel_rfl) rfl (OpQ.callG (v := sv (pletM xv.1)) enr (fun W hW => plet_c xv.1) rfl ?_)))
   obtain ⟨hp19, hF⟩ := hF
   refine OkQ.opYes (j := 3) (d := 11) (want := false) (b := false) rfl (by kernel_rfl) (by kernel_rfl) rfl (OpQ.callG (v := .bool (scontS (patM xp).2.1 (pletM xv.1))) enr (fun W hW => scont_c (patM xp).2.1 (pletM xv.1) (hG2.mono hW.sees) hp19) rfl ?_)
   refine OkQ.bat 2 [0, 3] [(20, .bool (!(scontS (patM xp).2.1 (pletM xv.1))))] ?_
   refine OkQ.nil (Ok.thenN (Ok.reval 20 rfl (show (.bool (!(scontS (patM xp).2.1 (pletM xv.1))) : Value) = .bool ((!(pinM xp)) || (!(scontS (patM xp).2.1 (pletM xv.1)))) from congrArg (Value.bool) (mor_f hc17)) ?_))
   exact fun a W hA hW => ⟨hA.sub (by kernel_rfl), hW, hF⟩
 ·
  clear hF
  rintro a W ⟨hA, hW, hF⟩
  refine (?_ : Ok _ _ _ _ _ _) a W hA hW
  clear hA hW
  refine Ok.cond (b := ((!(pinM xp)) || (!(scontS (patM xp).2.1 (pletM xv.1))))) rfl (fun hc2 => ?_) (fun hc2 => ?_)
  ·replace hF := hF.1 hc2
   refine Ok.seq (Ok.region (Ok.batch 1 [(4, .bool false)] (by kernel_rfl) (Ok.nil (Ok.thenN (Ok.ret (Ok.thenR ?_))))))
   exact Ok.resP (vs := [.bool false]) [] [] (by decide) rfl (.inl rfl) rfl (.cons (.tmp rfl) .nil) (Gext.refl w0 g) ⟨false, rfl, rfl, hF⟩
  ·replace hF := hF.2 hc2
   refine Ok.skip (Ok.thenN (Ok.seq (Ok.region (Ok.bat 1 [0, 3] [(21, .int .i64 xp)] ?_))))
   obtain ⟨hp3, hF⟩ := hF
   refine Ok.op rfl (OpOk.callG (v := .agg #[sv ((patM xp).1), sv ((patM xp).2.1), sv ((patM xp).2.2.1), sv ((patM xp).2.2.2.1), .bool (patM xp).2.2.2.2]) enr (fun W hW => pat_c xp hp3) rfl ?_)
   refine Ok.op rfl (OpOk.alloc (z := .agg #[sv ([] : Bs), sv ([] : Bs), sv ([] : Bs), sv ([] : Bs), .bool false]) (cs := #[sv ([] : Bs), sv ([] : Bs), sv ([] : Bs), sv ([] : Bs), .bool false]) (by kernel_rfl) (by kernel_rfl) rfl fun b4 => ?_)
   refine Ok.op rfl (OpOk.sto (k := 5) (v := .agg #[sv ((patM xp).1), sv ((patM xp).2.1), sv ((patM xp).2.2.1), sv ((patM xp).2.2.2.1), .bool (patM xp).2.2.2.2]) 0 #[sv ((patM xp).1), sv ((patM xp).2.1), sv ((patM xp).2.2.1), sv ((patM xp).2.2.2.1), .bool (patM xp).2.2.2.2] rfl rfl rfl ?_)
   refine Ok.nil (Ok.thenN (Ok.seq (Ok.seq (Ok.region (Ok.bat 1 [0, 3] [(5, pv b4 0), (23, pv b1 0)] ?_)))))
   refine Ok.op rfl (OpOk.step (v := .int .i64 xv.1) (Yields.load 1 rfl rfl Tryz.underlying3 rfl (by kernel_rfl)) rfl rfl (Ok.nil (Ok.thenN (Ok.block (Ok.seq (Ok.region (Ok.bat 2 [0, 3, 5] [(24, .int .i64 xv.1), (25, .bool (xv.1 == 1))] ?_)))))))
   refine Ok.nil (Ok.thenN (Ok.cond (b := (xv.1 == 1)) rfl (fun hc5 => ?_) (fun hc5 => ?_)))
   ·replace hF := hF.1 hc5
    refine Ok.seq (Ok.region (Ok.op rfl (OpOk.step (v := .agg #[sv ((patM xp).1), sv ((patM xp).2.1), sv ((patM xp).2.2.1), sv ((patM xp).2.2.2.1), .bool (patM xp).2.2.2.2]) (Yields.loadAgg 0 5 #[sv ((patM xp).1), sv ((patM xp).2.1), sv ((patM xp).2.2.1), sv ((patM xp).2.2.2.1), .bool (patM xp).2.2.2.2] rfl rfl Tryz.underlying127 rfl (by kernel_rfl) (by kernel_rfl) (by kernel_rfl)) rfl rfl (Ok.batch 1 [(27, .agg #[sv ((patM xp).1), sv ((patM xp).2.1), sv ((patM xp).2.2.1), sv ((patM xp).2.2.2.1), .bool (patM xp).2.2.2.2]), (28, pv b1 1)] (by kernel_rfl) (Ok.op rfl (OpOk.step (v := .int .i64 xv.2) (Yields.load 1 rfl rfl Tryz.underlying3 rfl (by kernel_rfl)) rfl rfl ?_))))))
    obtain ⟨hp6, hF⟩ := hF
    refine Ok.op rfl (OpOk.callG (v := sv (pkeyM ((patM xp).1, (patM xp).2.1, (patM xp).2.2.1, (patM xp).2.2.2.1, (patM xp).2.2.2.2) xv.2)) enr (fun W hW => pkey_c ((patM xp).1, (patM xp).2.1, (patM xp).2.2.1, (patM xp).2.2.2.1, (patM xp).2.2.2.2) xv.2 (hG2.mono hW.sees) hp6) rfl ?_)
    refine Ok.op rfl (OpOk.step (v := .bool (!((pkeyM ((patM xp).1, (patM xp).2.1, (patM xp).2.2.1, (patM xp).2.2.2.1, (patM xp).2.2.2.2) xv.2) == ([] : Bs)))) (Yields.strCmp (f := .neq) (a := (pkeyM ((patM xp).1, (patM xp).2.1, (patM xp).2.2.1, (patM xp).2.2.2.1, (patM xp).2.2.2.2) xv.2)) (b := ([] : Bs)) (by kernel_rfl) (by kernel_rfl) rfl) rfl rfl (Ok.batch 1 [(4, .bool (!((pkeyM ((patM xp).1, (patM xp).2.1, (patM xp).2.2.1, (patM xp).2.2.2.1, (patM xp).2.2.2.2) xv.2) == ([] : Bs))))] (by kernel_rfl) (Ok.nil (Ok.thenN (Ok.ret (Ok.blockR (Ok.thenR ?_)))))))
    exact Ok.resP (vs := [.bool (!((pkeyM ((patM xp).1, (patM xp).2.1, (patM xp).2.2.1, (patM xp).2.2.2.1, (patM xp).2.2.2.2) xv.2) == ([] : Bs)))]) [] [] (by decide) rfl (.inl rfl) rfl (.cons (.tmp rfl) .nil) (Gext.refl w0 g) ⟨(!((pkeyM ((patM xp).1, (patM xp).2.1, (patM xp).2.2.1, (patM xp).2.2.2.1, (patM xp).2.2.2.2) xv.2) == ([] : Bs))), rfl, rfl, hF⟩
   ·replace hF := hF.2 hc5
    refine Ok.seq (Ok.region (Ok.bat 2 [0, 3, 5, 24] [(32, .bool (xv.1 == 6))] ?_))
    refine Ok.nil (Ok.thenN (Ok.cond (b := (xv.1 == 6)) rfl (fun hc7 => ?_) (fun hc7 => ?_)))
    ·replace hF := hF.1 hc7
     refine Ok.seq (Ok.region (Ok.batch 1 [(34, pv b1 1)] (by kernel_rfl) (Ok.op rfl (OpOk.step (v := .int .i64 xv.2) (Yields.load 1 rfl rfl Tryz.underlying3 rfl (by kernel_rfl)) rfl rfl (Ok.batch 2 [(4, .bool (xv.2 == 0))] (by kernel_rfl) (Ok.nil (Ok.thenN (Ok.ret (Ok.blockR (Ok.thenR ?_))))))))))
     exact Ok.resP (vs := [.bool (xv.2 == 0)]) [] [] (by decide) rfl (.inl rfl) rfl (.cons (.tmp rfl) .nil) (Gext.refl w0 g) ⟨(xv.2 == 0), rfl, rfl, hF⟩
    ·replace hF := hF.2 hc7
     refine Ok.seq (Ok.region (Ok.bat 2 [0, 3, 5] [(37, .bool (xv.1 == 5))] ?_))
     refine Ok.nil (Ok.thenN (Ok.cond (b := (xv.1 == 5)) rfl (fun hc8 => ?_) (fun hc8 => ?_)))
     ·replace hF := hF.1 hc8
      refine Ok.cut (fun a W => StA 71 [(4, .bool ((decide (xv.2 ≥ 0)) && (decide (xv.2 < 4294967296))))] a ∧ StW w0 [] g W ∧ pfitj32 xv K) ?_ ?_
      ·
       refine Ok.region (Ok.bat 1 [3] [(39, pv b1 1)] ?_)
       refine Ok.op rfl (OpOk.step (v := .int .i64 xv.2) (Yields.load 1 rfl rfl Tryz.underlying3 rfl (by kernel_rfl)) rfl rfl (Ok.bat 2 [3] [(42, .bool (decide (xv.2 ≥ 0)))] ?_))
       refine Ok.boolAt 42 (decide (xv.2 ≥ 0)) rfl (fun hc9 => ?_) (fun hc9 => ?_)
       ·replace hF := hF.1 hc9
        refine Ok.batch 1 [(42, .bool true), (43, pv b1 1)] (by kernel_rfl) (Ok.opYes (j := 3) (d := 42) (want := true) (b := true) rfl (by kernel_rfl) (by kernel_rfl) rfl (OpOk.step (v := .int .i64 xv.2) (Yields.load 1 rfl rfl Tryz.underlying3 rfl (by kernel_rfl)) rfl rfl (Ok.batch 3 [(4, .bool (decide (xv.2 < 4294967296)))] (by kernel_rfl) (Ok.nil (Ok.thenN (Ok.reval 4 rfl (show (.bool (decide (xv.2 < 4294967296)) : Value) = .bool ((decide (xv.2 ≥ 0)) && (decide (xv.2 < 4294967296))) from congrArg (Value.bool) (mand_t hc9)) ?_))))))
        exact fun a W hA hW => ⟨hA.sub (by kernel_rfl), hW.sub (.cons _ (.cons _ .slnil)), hF⟩
       ·replace hF := hF.2 hc9
        refine Ok.batch 5 [(4, .bool false)] (by kernel_rfl) (Ok.nil (Ok.thenN (Ok.reval 4 rfl (show (.bool false : Value) = .bool ((decide (xv.2 ≥ 0)) && (decide (xv.2 < 4294967296))) from congrArg (Value.bool) (mand_f hc9)) ?_)))
        exact fun a W hA hW => ⟨hA.sub (by kernel_rfl), hW.sub (.cons _ (.cons _ .slnil)), hF⟩
      ·
       clear hF
       rintro a W ⟨hA, hW, hF⟩
       refine (?_ : Ok _ _ _ _ _ _) a W hA hW
       clear hA hW
       refine Ok.ret (Ok.blockR (Ok.thenR ?_))
       exact Ok.resH (vs := [.bool ((decide (xv.2 ≥ 0)) && (decide (xv.2 < 4294967296)))]) (.inl rfl) rfl (.cons (.tmp rfl) .nil) (Gext.refl w0 g) ⟨((decide (xv.2 ≥ 0)) && (decide (xv.2 < 4294967296))), rfl, rfl, hF⟩
     ·replace hF := hF.2 hc8
      refine Ok.skip (Ok.blockN (Ok.thenN (Ok.seq (Ok.region (Ok.bat 2 [0, 3, 5] [(6, .int .i64 (-16777216)), (7, .int .i64 16777216)] ?_)))))
      refine Ok.nil (Ok.thenN (Ok.cut (fun a W => StA 71 [(0, .int .i64 xp), (3, pv b1 0), (6, .int .i64 (if (patM xp).2.2.2.2 = true then 0 else -16777216)), (7, .int .i64 16777216)] a ∧ StW w0 [.blk b1 (.cells #[.int .i64 xv.1, .int .i64 xv.2] 44)] g W ∧ pfitj38 xp xv K) ?_ ?_))
      ·
       refine Ok.seq (Ok.region (Ok.bat 1 [0, 3, 6, 7] [(47, pv b4 4)] ?_))
       refine Ok.op rfl (OpOk.step (v := .bool (patM xp).2.2.2.2) (Yields.load 0 rfl rfl Tryz.underlying4 rfl (by kernel_rfl)) rfl rfl (Ok.nil (Ok.thenN (Ok.cond (b := (patM xp).2.2.2.2) rfl (fun hc16 => ?_) (fun hc16 => ?_)))))
       ·replace hF := hF.1 hc16
        refine Ok.region (Ok.bat 1 [0, 3, 7] [(6, .int .i64 0)] ?_)
        refine Ok.nil (Ok.thenN (Ok.reval 6 rfl (show (.int .i64 0 : Value) = .int .i64 (if (patM xp).2.2.2.2 = true then 0 else -16777216) from congrArg (Value.int .i64) ((if_t hc16).symm)) ?_))
        exact fun a W hA hW => ⟨hA.sub (by kernel_rfl), hW.sub (.cons _ (.cons_cons _ .slnil)), hF⟩
       ·replace hF := hF.2 hc16
        refine Ok.skip (Ok.thenN (Ok.reval 6 rfl (show (.int .i64 (-16777216) : Value) = .int .i64 (if (patM xp).2.2.2.2 = true then 0 else -16777216) from congrArg (Value.int .i64) ((if_f hc16).symm)) ?_))
        exact fun a W hA hW => ⟨hA.sub (by kernel_rfl), hW.sub (.cons _ (.cons_cons _ .slnil)), hF⟩
      ·
       clear hF
       rintro a W ⟨hA, hW, hF⟩
       refine (?_ : Ok _ _ _ _ _ _) a W hA hW
       clear hA hW
       refine Ok.cut (fun a W => StA 71 [(3, pv b1 0), (6, .int .i64 (if (xp == 37) = true then 64 else (if (patM xp).2.2.2.2 = true then 0 else -16777216))), (7, .int .i64 (if (xp == 37) = true then 16777216 else (if (xp == 34) = true then 1000 else 16777216)))] a ∧ StW w0 [.blk b1 (.cells #[.int .i64 xv.1, .int .i64 xv.2] 44)] g W ∧ pfitj44 xp xv K) ?_ ?_
       ·
        refine Ok.seq (Ok.region (Ok.bat 1 [3, 6, 7] [(49, .int .i64 xp)] ?_))
        refine Ok.nil (Ok.thenN (Ok.block (Ok.seq (Ok.region (Ok.bat 2 [3, 6, 7, 49] [(50, .bool (xp == 37))] ?_)))))
        refine Ok.nil (Ok.thenN (Ok.cond (b := (xp == 37)) rfl (fun hc11 => ?_) (fun hc11 => ?_)))
        ·replace hF := hF.1 hc11
         refine Ok.region (Ok.bat 1 [3, 7] [(6, .int .i64 64)] ?_)
         refine Ok.nil (Ok.blockN (Ok.thenN (Ok.reval 6 rfl (show (.int .i64 64 : Value) = .int .i64 (if (xp == 37) = true then 64 else (if (patM xp).2.2.2.2 = true then 0 else -16777216)) from congrArg (Value.int .i64) ((if_t hc11).symm)) (Ok.reval 7 rfl (show (.int .i64 16777216 : Value) = .int .i64 (if (xp == 37) = true then 16777216 else (if (xp == 34) = true then 1000 else 16777216)) from congrArg (Value.int .i64) ((if_t hc11).symm)) ?_))))
         exact fun a W hA hW => ⟨hA.sub (by kernel_rfl), hW, hF⟩
        ·replace hF := hF.2 hc11
         refine Ok.seq (Ok.region (Ok.bat 2 [3, 6, 7, 49] [(52, .bool (xp == 34))] ?_))
         refine Ok.nil (Ok.thenN (Ok.cond (b := (xp == 34)) rfl (fun hc12 => ?_) (fun hc12 => ?_)))
         ·replace hF := hF.1 hc12
          refine Ok.region (Ok.bat 1 [3, 6] [(7, .int .i64 1000)] ?_)
          refine Ok.nil (Ok.blockN (Ok.thenN (Ok.reval 6 rfl (show (.int .i64 (if (patM xp).2.2.2.2 = true then 0 else -16777216) : Value) = .int .i64 (if (xp == 37) = true then 64 else (if (patM xp).2.2.2.2 = true then 0 else -16777216)) from congrArg (Value.int .i64) ((if_f hc11).symm)) (Ok.reval 7 rfl (show (.int .i64 1000 : Value) = .int .i64 (if (xp == 37) = true then 16777216 else (if (xp == 34) = true then 1000 else 16777216)) from congrArg (Value.int .i64) ((Eq.trans ((if_t hc12).symm) ((if_f hc11).symm)))) ?_))))
          exact fun a W hA hW => ⟨hA.sub (by kernel_rfl), hW, hF⟩
         ·replace hF := hF.2 hc12
          refine Ok.cut (fun a W => StA 71 [(3, pv b1 0), (6, .int .i64 (if (patM xp).2.2.2.2 = true then 0 else -16777216)), (7, .int .i64 16777216), (54, .bool ((xp == 31) || (xp == 53)))] a ∧ StW w0 [.blk b1 (.cells #[.int .i64 xv.1, .int .i64 xv.2] 44)] g W ∧ pfitj56 xp xv K) ?_ ?_
          ·
           refine Ok.seq (Ok.region (Ok.bat 2 [3, 6, 7, 49] [(54, .bool (xp == 31))] ?_))
           refine Ok.nil (Ok.thenN (Ok.cond (b := (xp == 31)) rfl (fun hc15 => ?_) (fun hc15 => ?_)))
           ·replace hF := hF.1 hc15
            refine Ok.skip (Ok.thenN (Ok.reval 54 rfl (show (.bool (xp == 31) : Value) = .bool ((xp == 31) || (xp == 53)) from congrArg (Value.bool) ((Eq.trans (hc15) (mor_t hc15)))) ?_))
            exact fun a W hA hW => ⟨hA.sub (by kernel_rfl), hW, hF⟩
           ·replace hF := hF.2 hc15
            refine Ok.region (Ok.bat 2 [3, 6, 7] [(54, .bool (xp == 53))] ?_)
            refine Ok.nil (Ok.thenN (Ok.reval 54 rfl (show (.bool (xp == 53) : Value) = .bool ((xp == 31) || (xp == 53)) from congrArg (Value.bool) (mor_f hc15)) ?_))
            exact fun a W hA hW => ⟨hA.sub (by kernel_rfl), hW, hF⟩
          ·
           clear hF
           rintro a W ⟨hA, hW, hF⟩
           refine (?_ : Ok _ _ _ _ _ _) a W hA hW
           clear hA hW
           refine Ok.cond (b := ((xp == 31) || (xp == 53))) rfl (fun hc13 => ?_) (fun hc13 => ?_)
           ·replace hF := hF.1 hc13
            refine Ok.seq (Ok.region (Ok.bat 1 [3, 6, 7] [(57, pv b1 1)] ?_))
            refine Ok.op rfl (OpOk.step (v := .int .i64 xv.2) (Yields.load 0 rfl rfl Tryz.underlying3 rfl (by kernel_rfl)) rfl rfl (Ok.bat 2 [3, 6, 7] [(60, .bool ((Int.tmod xv.2 1000) != 0))] ?_))
            refine Ok.nil (Ok.thenN (Ok.cond (b := ((Int.tmod xv.2 1000) != 0)) rfl (fun hc14 => ?_) (fun hc14 => ?_)))
            ·replace hF := hF.1 hc14
             refine Ok.seq (Ok.region (Ok.batch 1 [(4, .bool false)] (by kernel_rfl) (Ok.nil (Ok.thenN (Ok.ret (Ok.blockR (Ok.thenR ?_)))))))
             exact Ok.resP (vs := [.bool false]) [] [] (by decide) rfl (.inl rfl) rfl (.cons (.tmp rfl) .nil) (Gext.refl w0 g) ⟨false, rfl, rfl, hF⟩
            ·replace hF := hF.2 hc14
             refine Ok.skip (Ok.blockN (Ok.thenN (Ok.reval 6 rfl (show (.int .i64 (if (patM xp).2.2.2.2 = true then 0 else -16777216) : Value) = .int .i64 (if (xp == 37) = true then 64 else (if (patM xp).2.2.2.2 = true then 0 else -16777216)) from congrArg (Value.int .i64) ((if_f hc11).symm)) (Ok.reval 7 rfl (show (.int .i64 16777216 : Value) = .int .i64 (if (xp == 37) = true then 16777216 else (if (xp == 34) = true then 1000 else 16777216)) from congrArg (Value.int .i64) ((Eq.trans ((if_f hc12).symm) ((if_f hc11).symm)))) ?_))))
             exact fun a W hA hW => ⟨hA.sub (by kernel_rfl), hW, hF⟩
           ·replace hF := hF.2 hc13
            refine Ok.skip (Ok.blockN (Ok.thenN (Ok.reval 6 rfl (show (.int .i64 (if (patM xp).2.2.2.2 = true then 0 else -16777216) : Value) = .int .i64 (if (xp == 37) = true then 64 else (if (patM xp).2.2.2.2 = true then 0 else -16777216)) from congrArg (Value.int .i64) ((if_f hc11).symm)) (Ok.reval 7 rfl (show (.int .i64 16777216 : Value) = .int .i64 (if (xp == 37) = true then 16777216 else (if (xp == 34) = true then 1000 else 16777216)) from congrArg (Value.int .i64) ((Eq.trans ((if_f hc12).symm) ((if_f hc11).symm)))) ?_))))
            exact fun a W hA hW => ⟨hA.sub (by kernel_rfl), hW, hF⟩
       ·
        clear hF
        rintro a W ⟨hA, hW, hF⟩
        refine (?_ : Ok _ _ _ _ _ _) a W hA hW
        clear hA hW
        refine Ok.cut (fun a W => StA 71 [(4, .bool ((decide (xv.2 ≥ (if (xp == 37) = true then 64 else (if (patM xp).2.2.2.2 = true then 0 else -16777216)))) && (decide (xv.2 ≤ (if (xp == 37) = true then 16777216 else (if (xp == 34) = true then 1000 else 16777216))))))] a ∧ StW w0 [] g W ∧ pfitj71 xp xv K) ?_ ?_
        ·
         refine Ok.region (Ok.bat 1 [3, 6, 7] [(61, pv b1 1)] ?_)
         refine Ok.op rfl (OpOk.step (v := .int .i64 xv.2) (Yields.load 0 rfl rfl Tryz.underlying3 rfl (by kernel_rfl)) rfl rfl (Ok.bat 3 [3, 7] [(65, .bool (decide (xv.2 ≥ (if (xp == 37) = true then 64 else (if (patM xp).2.2.2.2 = true then 0 else -16777216)))))] ?_))
         refine Ok.boolAt 65 (decide (xv.2 ≥ (if (xp == 37) = true then 64 else (if (patM xp).2.2.2.2 = true then 0 else -16777216)))) rfl (fun hc10 => ?_) (fun hc10 => ?_)
         ·replace hF := hF.1 hc10
          refine Ok.bat 1 [7] [(65, .bool true), (66, pv b1 1)] ?_
          refine Ok.opYes (j := 4) (d := 65) (want := true) (b := true) rfl (by kernel_rfl) (by kernel_rfl) rfl (OpOk.step (v := .int .i64 xv.2) (Yields.load 0 rfl rfl Tryz.underlying3 rfl (by kernel_rfl)) rfl rfl (Ok.batch 4 [(4, .bool (decide (xv.2 ≤ (if (xp == 37) = true then 16777216 else (if (xp == 34) = true then 1000 else 16777216)))))] (by kernel_rfl) (Ok.nil (Ok.thenN (Ok.reval 4 rfl (show (.bool (decide (xv.2 ≤ (if (xp == 37) = true then 16777216 else (if (xp == 34) = true then 1000 else 16777216)))) : Value) = .bool ((decide (xv.2 ≥ (if (xp == 37) = true then 64 else (if (patM xp).2.2.2.2 = true then 0 else -16777216)))) && (decide (xv.2 ≤ (if (xp == 37) = true then 16777216 else (if (xp == 34) = true then 1000 else 16777216))))) from congrArg (Value.bool) (mand_t hc10)) ?_)))))
          exact fun a W hA hW => ⟨hA.sub (by kernel_rfl), hW.sub (.cons _ .slnil), hF⟩
         ·replace hF := hF.2 hc10
          refine Ok.batch 6 [(4, .bool false)] (by kernel_rfl) (Ok.nil (Ok.thenN (Ok.reval 4 rfl (show (.bool false : Value) = .bool ((decide (xv.2 ≥ (if (xp == 37) = true then 64 else (if (patM xp).2.2.2.2 = true then 0 else -16777216)))) && (decide (xv.2 ≤ (if (xp == 37) = true then 16777216 else (if (xp == 34) = true then 1000 else 16777216))))) from congrArg (Value.bool) (mand_f hc10)) ?_)))
          exact fun a W hA hW => ⟨hA.sub (by kernel_rfl), hW.sub (.cons _ .slnil), hF⟩
        ·
         clear hF
         rintro a W ⟨hA, hW, hF⟩
         refine (?_ : Ok _ _ _ _ _ _) a W hA hW
         clear hA hW
         refine Ok.ret ?_
         exact Ok.resH (vs := [.bool ((decide (xv.2 ≥ (if (xp == 37) = true then 64 else (if (patM xp).2.2.2.2 = true then 0 else -16777216)))) && (decide (xv.2 ≤ (if (xp == 37) = true then 16777216 else (if (xp == 34) = true then 1000 else 16777216)))))]) (.inl rfl) rfl (.cons (.tmp rfl) .nil) (Gext.refl w0 g) ⟨((decide (xv.2 ≥ (if (xp == 37) = true then 64 else (if (patM xp).2.2.2.2 = true then 0 else -16777216)))) && (decide (xv.2 ≤ (if (xp == 37) = true then 16777216 else (if (xp == 34) = true then 1000 else 16777216))))), rfl, rfl, hF⟩
def pfitj32M (xv : Int × Int) : Bool := ((decide (xv.2 ≥ 0)) && (decide (xv.2 < 4294967296)))
theorem pfitj32_A (xv : Int × Int) (P : Bool → Prop) (h : P (pfitj32M xv)) : pfitj32 xv (fun k0 => P k0) := by
 unfold pfitj32M at h
 unfold pfitj32
 exact h
def pfitj71M (xp : Int) (xv : Int × Int) : Bool := ((decide (xv.2 ≥ (if (xp == 37) = true then 64 else (if (patM xp).2.2.2.2 = true then 0 else -16777216)))) && (decide (xv.2 ≤ (if (xp == 37) = true then 16777216 else (if (xp == 34) = true then 1000 else 16777216)))))
theorem pfitj71_A (xp : Int) (xv : Int × Int) (P : Bool → Prop) (h : P (pfitj71M xp xv)) : pfitj71 xp xv (fun k0 => P k0) := by
 unfold pfitj71M at h
 unfold pfitj71
 exact h
def pfitj44M (xp : Int) (xv : Int × Int) : Bool := (pfitj71M xp xv)
theorem pfitj44_A (xp : Int) (xv : Int × Int) (P : Bool → Prop) (h : P (pfitj44M xp xv)) : pfitj44 xp xv (fun k0 => P k0) := by
 unfold pfitj44M at h
 unfold pfitj44
 refine ⟨fun hc0 => ?_, fun hc0 => ?_⟩
 ·skip
  have hd0 := hc0; try simp only [Bool.and_eq_true, Bool.or_eq_true, Bool.and_eq_false_iff, Bool.or_eq_false_iff, Bool.not_eq_true', Bool.not_eq_false', decide_eq_true_eq, decide_eq_false_iff_not, beq_iff_eq, beq_eq_false_iff_ne, ne_eq] at hd0
  exact pfitj71_A xp xv _ h
 ·skip
  have hd0 := hc0; try simp only [Bool.and_eq_true, Bool.or_eq_true, Bool.and_eq_false_iff, Bool.or_eq_false_iff, Bool.not_eq_true', Bool.not_eq_false', decide_eq_true_eq, decide_eq_false_iff_not, beq_iff_eq, beq_eq_false_iff_ne, ne_eq] at hd0
  exact pfitj71_A xp xv _ h
def pfitj56M (xp : Int) (xv : Int × Int) : Bool := (if ((xp == 31) || (xp == 53)) = true then (if ((Int.tmod xv.2 1000) != 0) = true then false else (pfitj44M xp xv)) else (pfitj44M xp xv))
theorem pfitj56_A (xp : Int) (xv : Int × Int) (P : Bool → Prop) (h : P (pfitj56M xp xv)) : pfitj56 xp xv (fun k0 => P k0) := by
 unfold pfitj56M at h
 unfold pfitj56
 refine ⟨fun hc0 => ?_, fun hc0 => ?_⟩
 ·rw [if_t hc0] at h
  have hd0 := hc0; try simp only [Bool.and_eq_true, Bool.or_eq_true, Bool.and_eq_false_iff, Bool.or_eq_false_iff, Bool.not_eq_true', Bool.not_eq_false', decide_eq_true_eq, decide_eq_false_iff_not, beq_iff_eq, beq_eq_false_iff_ne, ne_eq] at hd0
  refine ⟨fun hc1 => ?_, fun hc1 => ?_⟩
  ·rw [if_t hc1] at h
   exact h
  ·rw [if_f hc1] at h
   exact pfitj44_A xp xv _ h
 ·rw [if_f hc0] at h
  have hd0 := hc0; try simp only [Bool.and_eq_true, Bool.or_eq_true, Bool.and_eq_false_iff, Bool.or_eq_false_iff, Bool.not_eq_true', Bool.not_eq_false', decide_eq_true_eq, decide_eq_false_iff_not, beq_iff_eq, beq_eq_false_iff_ne, ne_eq] at hd0
  exact pfitj44_A xp xv _ h
def pfitj38M (xp : Int) (xv : Int × Int) : Bool := (if (xp == 37) = true then (pfitj44M xp xv) else (if (xp == 34) = true then (pfitj44M xp xv) else (pfitj56M xp xv)))
theorem pfitj38_A (xp : Int) (xv : Int × Int) (P : Bool → Prop) (h : P (pfitj38M xp xv)) : pfitj38 xp xv (fun k0 => P k0) := by
 unfold pfitj38M at h
 unfold pfitj38
 refine ⟨fun hc0 => ?_, fun hc0 => ?_⟩
 ·rw [if_t hc0] at h
  have hd0 := hc0; try simp only [Bool.and_eq_true, Bool.or_eq_true, Bool.and_eq_false_iff, Bool.or_eq_false_iff, Bool.not_eq_true', Bool.not_eq_false', decide_eq_true_eq, decide_eq_false_iff_not, beq_iff_eq, beq_eq_false_iff_ne, ne_eq] at hd0
  exact pfitj44_A xp xv _ h
 ·rw [if_f hc0] at h
  have hd0 := hc0; try simp only [Bool.and_eq_true, Bool.or_eq_true, Bool.and_eq_false_iff, Bool.or_eq_false_iff, Bool.not_eq_true', Bool.not_eq_false', decide_eq_true_eq, decide_eq_false_iff_not, beq_iff_eq, beq_eq_false_iff_ne, ne_eq] at hd0
  refine ⟨fun hc1 => ?_, fun hc1 => ?_⟩
  ·rw [if_t hc1] at h
   have hd1 := hc1; try simp only [Bool.and_eq_true, Bool.or_eq_true, Bool.and_eq_false_iff, Bool.or_eq_false_iff, Bool.not_eq_true', Bool.not_eq_false', decide_eq_true_eq, decide_eq_false_iff_not, beq_iff_eq, beq_eq_false_iff_ne, ne_eq] at hd1
   exact pfitj44_A xp xv _ h
  ·rw [if_f hc1] at h
   have hd1 := hc1; try simp only [Bool.and_eq_true, Bool.or_eq_true, Bool.and_eq_false_iff, Bool.or_eq_false_iff, Bool.not_eq_true', Bool.not_eq_false', decide_eq_true_eq, decide_eq_false_iff_not, beq_iff_eq, beq_eq_false_iff_ne, ne_eq] at hd1
   refine ⟨fun hc2 => ?_, fun hc2 => ?_⟩
   ·skip
    have hd2 := hc2; try simp only [Bool.and_eq_true, Bool.or_eq_true, Bool.and_eq_false_iff, Bool.or_eq_false_iff, Bool.not_eq_true', Bool.not_eq_false', decide_eq_true_eq, decide_eq_false_iff_not, beq_iff_eq, beq_eq_false_iff_ne, ne_eq] at hd2
    exact pfitj56_A xp xv _ h
   ·skip
    have hd2 := hc2; try simp only [Bool.and_eq_true, Bool.or_eq_true, Bool.and_eq_false_iff, Bool.or_eq_false_iff, Bool.not_eq_true', Bool.not_eq_false', decide_eq_true_eq, decide_eq_false_iff_not, beq_iff_eq, beq_eq_false_iff_ne, ne_eq] at hd2
    exact pfitj56_A xp xv _ h
def pfitj4M (xp : Int) (xv : Int × Int) : Bool := (if ((!(pinM xp)) || (!(scontS (patM xp).2.1 (pletM xv.1)))) = true then false else (if (xv.1 == 1) = true then (!((pkeyM ((patM xp).1, (patM xp).2.1, (patM xp).2.2.1, (patM xp).2.2.2.1, (patM xp).2.2.2.2) xv.2) == ([] : Bs))) else (if (xv.1 == 6) = true then (xv.2 == 0) else (if (xv.1 == 5) = true then (pfitj32M xv) else (pfitj38M xp xv)))))
theorem pfitj4_A (xp : Int) (xv : Int × Int) (P : Bool → Prop) (h : P (pfitj4M xp xv)) : pfitj4 xp xv (fun k0 => P k0) := by
 unfold pfitj4M at h
 unfold pfitj4
 refine ⟨fun hc0 => ?_, fun hc0 => ?_⟩
 ·rw [if_t hc0] at h
  have hd0 := hc0; try simp only [Bool.and_eq_true, Bool.or_eq_true, Bool.and_eq_false_iff, Bool.or_eq_false_iff, Bool.not_eq_true', Bool.not_eq_false', decide_eq_true_eq, decide_eq_false_iff_not, beq_iff_eq, beq_eq_false_iff_ne, ne_eq] at hd0
  exact h
 ·rw [if_f hc0] at h
  have hd0 := hc0; try simp only [Bool.and_eq_true, Bool.or_eq_true, Bool.and_eq_false_iff, Bool.or_eq_false_iff, Bool.not_eq_true', Bool.not_eq_false', decide_eq_true_eq, decide_eq_false_iff_not, beq_iff_eq, beq_eq_false_iff_ne, ne_eq] at hd0
  refine ⟨?_, ?_⟩
  ·first | exact kinds_ok (pin_p (by assumption)) _ | exact keys_ok (pin_p2 (by assumption)) _ | exact pin_p2 (by assumption) | exact pin_p (by assumption) | omega | assumption | exact trivial | (have h0 := List.length_pos_iff.mpr (by assumption); omega) | (simp; omega) | (simp at *; omega)
  refine ⟨fun hc1 => ?_, fun hc1 => ?_⟩
  ·rw [if_t hc1] at h
   have hd1 := hc1; try simp only [Bool.and_eq_true, Bool.or_eq_true, Bool.and_eq_false_iff, Bool.or_eq_false_iff, Bool.not_eq_true', Bool.not_eq_false', decide_eq_true_eq, decide_eq_false_iff_not, beq_iff_eq, beq_eq_false_iff_ne, ne_eq] at hd1
   refine ⟨?_, ?_⟩
   ·first | exact kinds_ok (pin_p (by assumption)) _ | exact keys_ok (pin_p2 (by assumption)) _ | exact pin_p2 (by assumption) | exact pin_p (by assumption) | omega | assumption | exact trivial | (have h0 := List.length_pos_iff.mpr (by assumption); omega) | (simp; omega) | (simp at *; omega)
   exact h
  ·rw [if_f hc1] at h
   have hd1 := hc1; try simp only [Bool.and_eq_true, Bool.or_eq_true, Bool.and_eq_false_iff, Bool.or_eq_false_iff, Bool.not_eq_true', Bool.not_eq_false', decide_eq_true_eq, decide_eq_false_iff_not, beq_iff_eq, beq_eq_false_iff_ne, ne_eq] at hd1
   refine ⟨fun hc2 => ?_, fun hc2 => ?_⟩
   ·rw [if_t hc2] at h
    have hd2 := hc2; try simp only [Bool.and_eq_true, Bool.or_eq_true, Bool.and_eq_false_iff, Bool.or_eq_false_iff, Bool.not_eq_true', Bool.not_eq_false', decide_eq_true_eq, decide_eq_false_iff_not, beq_iff_eq, beq_eq_false_iff_ne, ne_eq] at hd2
    exact h
   ·rw [if_f hc2] at h
    have hd2 := hc2; try simp only [Bool.and_eq_true, Bool.or_eq_true, Bool.and_eq_false_iff, Bool.or_eq_false_iff, Bool.not_eq_true', Bool.not_eq_false', decide_eq_true_eq, decide_eq_false_iff_not, beq_iff_eq, beq_eq_false_iff_ne, ne_eq] at hd2
    refine ⟨fun hc3 => ?_, fun hc3 => ?_⟩
    ·rw [if_t hc3] at h
     have hd3 := hc3; try simp only [Bool.and_eq_true, Bool.or_eq_true, Bool.and_eq_false_iff, Bool.or_eq_false_iff, Bool.not_eq_true', Bool.not_eq_false', decide_eq_true_eq, decide_eq_false_iff_not, beq_iff_eq, beq_eq_false_iff_ne, ne_eq] at hd3
     refine ⟨fun hc4 => ?_, fun hc4 => ?_⟩
     ·skip
      have hd4 := of_decide_eq_true hc4
      exact pfitj32_A xv _ h
     ·skip
      have hd4 := of_decide_eq_false hc4
      exact pfitj32_A xv _ h
    ·rw [if_f hc3] at h
     have hd3 := hc3; try simp only [Bool.and_eq_true, Bool.or_eq_true, Bool.and_eq_false_iff, Bool.or_eq_false_iff, Bool.not_eq_true', Bool.not_eq_false', decide_eq_true_eq, decide_eq_false_iff_not, beq_iff_eq, beq_eq_false_iff_ne, ne_eq] at hd3
     refine ⟨fun hc4 => ?_, fun hc4 => ?_⟩
     ·skip
      exact pfitj38_A xp xv _ h
     ·skip
      exact pfitj38_A xp xv _ h
def pfitM (xp : Int) (xv : Int × Int) : Bool := (pfitj4M xp xv)
theorem pfitF_A (xp : Int) (xv : Int × Int) (P : Bool → Prop) (h : P (pfitM xp xv)) : pfitF xp xv (fun k0 => P k0) := by
 unfold pfitM at h
 unfold pfitF
 refine ⟨fun hc0 => ?_, fun hc0 => ?_⟩
 ·skip
  exact pfitj4_A xp xv _ h
 ·skip
  refine ⟨?_, ?_⟩
  ·first | exact kinds_ok (pin_p (by assumption)) _ | exact keys_ok (pin_p2 (by assumption)) _ | exact pin_p2 (by assumption) | exact pin_p (by assumption) | omega | assumption | exact trivial | (have h0 := List.length_pos_iff.mpr (by assumption); omega) | (simp; omega) | (simp at *; omega)
  refine ⟨?_, ?_⟩
  ·first | exact kinds_ok (pin_p (by assumption)) _ | exact keys_ok (pin_p2 (by assumption)) _ | exact pin_p2 (by assumption) | exact pin_p (by assumption) | omega | assumption | exact trivial | (have h0 := List.length_pos_iff.mpr (by assumption); omega) | (simp; omega) | (simp at *; omega)
  exact pfitj4_A xp xv _ h
theorem pfit_F (xp : Int) (xv : Int × Int) : pfitF xp xv (fun k0 => k0 = pfitM xp xv) :=
 pfitF_A xp xv (fun z => z = pfitM xp xv) rfl
theorem pfit_c {g : Ghost} (xp : Int) (xv : Int × Int) (hG2 : SomeInt g 2)  : CallsG Tryz.prog 36 #[.int .i64 xp, .agg #[.int .i64 xv.1, .int .i64 xv.2]] g (.bool (pfitM xp xv)) :=
 (pfit_ok xp xv hG2 _ (pfit_F xp xv)).gives (by rintro g' H' v _ ⟨r0, rfl, rfl, hK⟩; subst hK; rfl)
end Go.Proofs.YtdiedaeabbcceaaGreatDoor.Pf
