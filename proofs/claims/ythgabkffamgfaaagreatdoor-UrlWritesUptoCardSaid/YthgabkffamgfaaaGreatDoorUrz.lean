/- Addresses: UrlParses. -/
import Derived.Test.YthgabkffamgfaaaGreatDoorUrw
namespace Go.Proofs.YthgabkffamgfaaaGreatDoor.Ub
open Go Go.Eng Go.RowKit Go.Shelf Go.Proofs Bld Sp Ti Uc Ua Ui
set_option linter.unusedVariables false
noncomputable section
def lparV0 (xs : List UInt8) : Bool :=
  (samS (((parS xs).1).1, (((parS xs).1).2).1, ((((parS xs).1).2).2).1, (((((parS xs).1).2).2).2).1, ((((((parS xs).1).2).2).2).2).1, (((((((parS xs).1).2).2).2).2).2).1, ((((((((parS xs).1).2).2).2).2).2).2).1, ((((((((parS xs).1).2).2).2).2).2).2).2) (((parS xs).1).1, (((parS xs).1).2).1, ((((parS xs).1).2).2).1, (((((parS xs).1).2).2).2).1, ((((((parS xs).1).2).2).2).2).1, (((((((parS xs).1).2).2).2).2).2).1, ((((((((parS xs).1).2).2).2).2).2).2).1, ((((((((parS xs).1).2).2).2).2).2).2).2))
def lparV1 (xs : List UInt8) : Bool :=
  (if (((parS xs).2) != 0) = true then ((((OriS xs).1) == ([] : List UInt8)) || ((((parS xs).2) == 0) && (((OriS xs).1) == (oriS (((parS xs).1).1, (((parS xs).1).2).1, ((((parS xs).1).2).2).1, (((((parS xs).1).2).2).2).1, ((((((parS xs).1).2).2).2).2).1, (((((((parS xs).1).2).2).2).2).2).1, ((((((((parS xs).1).2).2).2).2).2).2).1, ((((((((parS xs).1).2).2).2).2).2).2).2))))) else ((((parS xs).2) == 0) && (((OriS xs).1) == (oriS (((parS xs).1).1, (((parS xs).1).2).1, ((((parS xs).1).2).2).1, (((((parS xs).1).2).2).2).1, ((((((parS xs).1).2).2).2).2).1, (((((((parS xs).1).2).2).2).2).2).1, ((((((((parS xs).1).2).2).2).2).2).2).1, ((((((((parS xs).1).2).2).2).2).2).2).2)))))
def lparV2 (xs : List UInt8) : List UInt8 :=
  (oriS (((parS xs).1).1, (((parS xs).1).2).1, ((((parS xs).1).2).2).1, (((((parS xs).1).2).2).2).1, ((((((parS xs).1).2).2).2).2).1, (((((((parS xs).1).2).2).2).2).2).1, ((((((((parS xs).1).2).2).2).2).2).2).1, ((((((((parS xs).1).2).2).2).2).2).2).2))
def lparj17 (xs : List UInt8) (K : Bool → Prop) : Prop :=
  K (lparV1 xs)
def lparF (xs : List UInt8) (K : Bool → Prop) : Prop :=
  samP (((parS xs).1).1, (((parS xs).1).2).1, ((((parS xs).1).2).2).1, (((((parS xs).1).2).2).2).1, ((((((parS xs).1).2).2).2).2).1, (((((((parS xs).1).2).2).2).2).2).1, ((((((((parS xs).1).2).2).2).2).2).2).1, ((((((((parS xs).1).2).2).2).2).2).2).2) (((parS xs).1).1, (((parS xs).1).2).1, ((((parS xs).1).2).2).1, (((((parS xs).1).2).2).2).1, ((((((parS xs).1).2).2).2).2).1, (((((((parS xs).1).2).2).2).2).2).1, ((((((((parS xs).1).2).2).2).2).2).2).1, ((((((((parS xs).1).2).2).2).2).2).2).2) ∧ (((((!(lparV0 xs)) || (((parS xs).2) != ((parS xs).2))) || (((OriS xs).2) != ((parS xs).2)))) = true → K false) ∧ (((((!(lparV0 xs)) || (((parS xs).2) != ((parS xs).2))) || (((OriS xs).2) != ((parS xs).2)))) = false → (((((parS xs).2) != 0)) = true → (((((OriS xs).1) == ([] : List UInt8))) = true → lparj17 xs K) ∧ (((((OriS xs).1) == ([] : List UInt8))) = false → (((((parS xs).2) == 0)) = true → oriP (((parS xs).1).1, (((parS xs).1).2).1, ((((parS xs).1).2).2).1, (((((parS xs).1).2).2).2).1, ((((((parS xs).1).2).2).2).2).1, (((((((parS xs).1).2).2).2).2).2).1, ((((((((parS xs).1).2).2).2).2).2).2).1, ((((((((parS xs).1).2).2).2).2).2).2).2) ∧ lparj17 xs K) ∧ (((((parS xs).2) == 0)) = false → lparj17 xs K))) ∧ (((((parS xs).2) != 0)) = false → (((((parS xs).2) == 0)) = true → oriP (((parS xs).1).1, (((parS xs).1).2).1, ((((parS xs).1).2).2).1, (((((parS xs).1).2).2).2).1, ((((((parS xs).1).2).2).2).2).1, (((((((parS xs).1).2).2).2).2).2).1, ((((((((parS xs).1).2).2).2).2).2).2).1, ((((((((parS xs).1).2).2).2).2).2).2).2) ∧ lparj17 xs K) ∧ (((((parS xs).2) == 0)) = false → lparj17 xs K)))
set_option maxHeartbeats 4000000 in
set_option maxRecDepth 100000 in
set_option linter.unusedVariables false in
theorem lpar_ok {g : Ghost} (xs : List UInt8) (hG0 : SomeInt g 0) (hG1 : SomeIf g 1) (hG2 : SomeIf g 2) (hG3 : GlobL g 3 (.int .u64) DPow) (hG4 : GlobL g 4 (.int .u8) DFirst) (hG5 : GlobL g 5 (.pair (.int .u8) (.int .u8)) DAcc) (K : Bool → Prop)
    (hF : lparF xs K) : CallsH Tryz.prog 3 #[.string ⟨⟨xs⟩⟩] g [] (fun g' H' v => ∃ (r0 : Bool), v = .bool r0 ∧ H' = [] ∧ K r0) := by
  refine CallsH.enter 54 [(0, .string ⟨⟨xs⟩⟩)] Tryz.func3 rfl (by kernel_rfl) (by kernel_rfl) (by kernel_rfl) fun w0 => ?_
  refine Ok.seq ?_
  refine Ok.region ?_
  refine Ok.batch 1 [(0, .string ⟨⟨xs⟩⟩)] (by kernel_rfl) ?_
  refine Ok.nil ?_
  refine Ok.thenN ?_
  refine Ok.seq ?_
  refine Ok.region ?_
  refine Ok.batch 1 [(0, .string ⟨⟨xs⟩⟩), (10, .string ⟨⟨xs⟩⟩)] (by kernel_rfl) ?_
  refine Ok.op rfl (OpOk.callH [] [] (enters (by kernel_rfl) (fun _ => by kernel_rfl)) rfl (upar_c xs hG0 hG1 hG2 hG4 hG5) rfl fun g1 _ _ hx1 hV1 => ?_)
  obtain ⟨a1_0, c1_0, rfl, hR1_0, rfl⟩ := hV1
  replace hG0 := hG0.mono hx1.1
  replace hG1 := hG1.mono hx1.1
  replace hG2 := hG2.mono hx1.1
  replace hG3 := hG3.mono hx1.1
  replace hG4 := hG4.mono hx1.1
  replace hG5 := hG5.mono hx1.1
  refine Ok.batch 3 [(0, .string ⟨⟨xs⟩⟩), (12, .agg #[.string ⟨⟨((parS xs).1).1⟩⟩, .string ⟨⟨(((parS xs).1).2).1⟩⟩, .int .i64 (((((parS xs).1).2).2).1), .slice a1_0 ((((((parS xs).1).2).2).2).1).length c1_0, .string ⟨⟨((((((parS xs).1).2).2).2).2).1⟩⟩, .bool ((((((((parS xs).1).2).2).2).2).2).1), .string ⟨⟨((((((((parS xs).1).2).2).2).2).2).2).1⟩⟩, .bool (((((((((parS xs).1).2).2).2).2).2).2).2)]), (13, .int .i64 ((parS xs).2))] (by kernel_rfl) ?_
  refine Ok.op rfl (OpOk.alloc (z := .agg #[.string ⟨⟨([] : List UInt8)⟩⟩, .string ⟨⟨([] : List UInt8)⟩⟩, .int .i64 0, .slice none 0 0, .string ⟨⟨([] : List UInt8)⟩⟩, .bool false, .string ⟨⟨([] : List UInt8)⟩⟩, .bool false]) (cs := #[.string ⟨⟨([] : List UInt8)⟩⟩, .string ⟨⟨([] : List UInt8)⟩⟩, .int .i64 0, .slice none 0 0, .string ⟨⟨([] : List UInt8)⟩⟩, .bool false, .string ⟨⟨([] : List UInt8)⟩⟩, .bool false]) (by kernel_rfl) (by kernel_rfl) rfl fun b2 => ?_)
  refine Ok.op rfl (OpOk.store (k := 8) (v := .agg #[.string ⟨⟨((parS xs).1).1⟩⟩, .string ⟨⟨(((parS xs).1).2).1⟩⟩, .int .i64 (((((parS xs).1).2).2).1), .slice a1_0 ((((((parS xs).1).2).2).2).1).length c1_0, .string ⟨⟨((((((parS xs).1).2).2).2).2).1⟩⟩, .bool ((((((((parS xs).1).2).2).2).2).2).1), .string ⟨⟨((((((((parS xs).1).2).2).2).2).2).2).1⟩⟩, .bool (((((((((parS xs).1).2).2).2).2).2).2).2)]) (H' := [.blk b2 (.cells #[.string ⟨⟨((parS xs).1).1⟩⟩, .string ⟨⟨(((parS xs).1).2).1⟩⟩, .int .i64 (((((parS xs).1).2).2).1), .slice a1_0 ((((((parS xs).1).2).2).2).1).length c1_0, .string ⟨⟨((((((parS xs).1).2).2).2).2).1⟩⟩, .bool ((((((((parS xs).1).2).2).2).2).2).1), .string ⟨⟨((((((((parS xs).1).2).2).2).2).2).2).1⟩⟩, .bool (((((((((parS xs).1).2).2).2).2).2).2).2)] 24)]) 0 rfl rfl rfl (by kernel_rfl) (by kernel_rfl) (by kernel_rfl) (by kernel_rfl) (by kernel_rfl) ?_)
  refine Ok.batch 1 [(0, .string ⟨⟨xs⟩⟩), (3, .pointer (some ⟨b2, 0, none⟩)), (4, .int .i64 ((parS xs).2))] (by kernel_rfl) ?_
  refine Ok.nil ?_
  refine Ok.thenN ?_
  refine Ok.seq ?_
  refine Ok.region ?_
  refine Ok.batch 1 [(0, .string ⟨⟨xs⟩⟩), (3, .pointer (some ⟨b2, 0, none⟩)), (4, .int .i64 ((parS xs).2)), (15, .string ⟨⟨xs⟩⟩)] (by kernel_rfl) ?_
  refine Ok.op rfl (OpOk.callG (v := .tuple #[.string ⟨⟨(OriS xs).1⟩⟩, .int .i64 ((OriS xs).2)]) (enters (by kernel_rfl) (fun _ => by kernel_rfl)) (fun W hW => uOri_c xs (hG0.mono hW.sees) (hG1.mono hW.sees) (hG2.mono hW.sees) (hG3.mono hW.sees) (hG4.mono hW.sees) (hG5.mono hW.sees)) rfl ?_)
  refine Ok.batch 5 [(0, .string ⟨⟨xs⟩⟩), (3, .pointer (some ⟨b2, 0, none⟩)), (4, .int .i64 ((parS xs).2)), (5, .string ⟨⟨(OriS xs).1⟩⟩), (6, .int .i64 ((OriS xs).2))] (by kernel_rfl) ?_
  refine Ok.nil ?_
  refine Ok.thenN ?_
  refine Ok.seq ?_
  refine Ok.region ?_
  refine Ok.batch 1 [(3, .pointer (some ⟨b2, 0, none⟩)), (4, .int .i64 ((parS xs).2)), (5, .string ⟨⟨(OriS xs).1⟩⟩), (6, .int .i64 ((OriS xs).2)), (20, .string ⟨⟨xs⟩⟩)] (by kernel_rfl) ?_
  refine Ok.op rfl (OpOk.callH [] [.blk b2 (.cells #[.string ⟨⟨((parS xs).1).1⟩⟩, .string ⟨⟨(((parS xs).1).2).1⟩⟩, .int .i64 (((((parS xs).1).2).2).1), .slice a1_0 ((((((parS xs).1).2).2).2).1).length c1_0, .string ⟨⟨((((((parS xs).1).2).2).2).2).1⟩⟩, .bool ((((((((parS xs).1).2).2).2).2).2).1), .string ⟨⟨((((((((parS xs).1).2).2).2).2).2).2).1⟩⟩, .bool (((((((((parS xs).1).2).2).2).2).2).2).2)] 24)] (enters (by kernel_rfl) (fun _ => by kernel_rfl)) rfl (radr_c xs hG0) rfl fun g3 _ _ hx3 hV3 => ?_)
  obtain ⟨a3_0, c3_0, rfl, hR3_0, rfl⟩ := hV3
  replace hR1_0 := hR1_0.mono hx3.1
  replace hG0 := hG0.mono hx3.1
  replace hG1 := hG1.mono hx3.1
  replace hG2 := hG2.mono hx3.1
  replace hG3 := hG3.mono hx3.1
  replace hG4 := hG4.mono hx3.1
  replace hG5 := hG5.mono hx3.1
  refine Ok.batch 3 [(3, .pointer (some ⟨b2, 0, none⟩)), (4, .int .i64 ((parS xs).2)), (5, .string ⟨⟨(OriS xs).1⟩⟩), (6, .int .i64 ((OriS xs).2)), (22, .agg #[.string ⟨⟨((parS xs).1).1⟩⟩, .string ⟨⟨(((parS xs).1).2).1⟩⟩, .int .i64 (((((parS xs).1).2).2).1), .slice a3_0 ((((((parS xs).1).2).2).2).1).length c3_0, .string ⟨⟨((((((parS xs).1).2).2).2).2).1⟩⟩, .bool ((((((((parS xs).1).2).2).2).2).2).1), .string ⟨⟨((((((((parS xs).1).2).2).2).2).2).2).1⟩⟩, .bool (((((((((parS xs).1).2).2).2).2).2).2).2)]), (23, .int .i64 ((parS xs).2))] (by kernel_rfl) ?_
  refine Ok.op rfl (OpOk.alloc (z := .agg #[.string ⟨⟨([] : List UInt8)⟩⟩, .string ⟨⟨([] : List UInt8)⟩⟩, .int .i64 0, .slice none 0 0, .string ⟨⟨([] : List UInt8)⟩⟩, .bool false, .string ⟨⟨([] : List UInt8)⟩⟩, .bool false]) (cs := #[.string ⟨⟨([] : List UInt8)⟩⟩, .string ⟨⟨([] : List UInt8)⟩⟩, .int .i64 0, .slice none 0 0, .string ⟨⟨([] : List UInt8)⟩⟩, .bool false, .string ⟨⟨([] : List UInt8)⟩⟩, .bool false]) (by kernel_rfl) (by kernel_rfl) rfl fun b4 => ?_)
  refine Ok.op rfl (OpOk.store (k := 8) (v := .agg #[.string ⟨⟨((parS xs).1).1⟩⟩, .string ⟨⟨(((parS xs).1).2).1⟩⟩, .int .i64 (((((parS xs).1).2).2).1), .slice a3_0 ((((((parS xs).1).2).2).2).1).length c3_0, .string ⟨⟨((((((parS xs).1).2).2).2).2).1⟩⟩, .bool ((((((((parS xs).1).2).2).2).2).2).1), .string ⟨⟨((((((((parS xs).1).2).2).2).2).2).2).1⟩⟩, .bool (((((((((parS xs).1).2).2).2).2).2).2).2)]) (H' := [.blk b4 (.cells #[.string ⟨⟨((parS xs).1).1⟩⟩, .string ⟨⟨(((parS xs).1).2).1⟩⟩, .int .i64 (((((parS xs).1).2).2).1), .slice a3_0 ((((((parS xs).1).2).2).2).1).length c3_0, .string ⟨⟨((((((parS xs).1).2).2).2).2).1⟩⟩, .bool ((((((((parS xs).1).2).2).2).2).2).1), .string ⟨⟨((((((((parS xs).1).2).2).2).2).2).2).1⟩⟩, .bool (((((((((parS xs).1).2).2).2).2).2).2).2)] 24), .blk b2 (.cells #[.string ⟨⟨((parS xs).1).1⟩⟩, .string ⟨⟨(((parS xs).1).2).1⟩⟩, .int .i64 (((((parS xs).1).2).2).1), .slice a1_0 ((((((parS xs).1).2).2).2).1).length c1_0, .string ⟨⟨((((((parS xs).1).2).2).2).2).1⟩⟩, .bool ((((((((parS xs).1).2).2).2).2).2).1), .string ⟨⟨((((((((parS xs).1).2).2).2).2).2).2).1⟩⟩, .bool (((((((((parS xs).1).2).2).2).2).2).2).2)] 24)]) 0 rfl rfl rfl (by kernel_rfl) (by kernel_rfl) (by kernel_rfl) (by kernel_rfl) (by kernel_rfl) ?_)
  refine Ok.batch 1 [(3, .pointer (some ⟨b2, 0, none⟩)), (4, .int .i64 ((parS xs).2)), (5, .string ⟨⟨(OriS xs).1⟩⟩), (6, .int .i64 ((OriS xs).2)), (7, .pointer (some ⟨b4, 0, none⟩)), (8, .int .i64 ((parS xs).2))] (by kernel_rfl) ?_
  refine Ok.nil ?_
  refine Ok.thenN ?_
  refine Ok.seq ?_
  refine Ok.seq ?_
  refine Ok.region ?_
  refine Ok.op rfl (OpOk.step (v := .agg #[.string ⟨⟨((parS xs).1).1⟩⟩, .string ⟨⟨(((parS xs).1).2).1⟩⟩, .int .i64 (((((parS xs).1).2).2).1), .slice a1_0 ((((((parS xs).1).2).2).2).1).length c1_0, .string ⟨⟨((((((parS xs).1).2).2).2).2).1⟩⟩, .bool ((((((((parS xs).1).2).2).2).2).2).1), .string ⟨⟨((((((((parS xs).1).2).2).2).2).2).2).1⟩⟩, .bool (((((((((parS xs).1).2).2).2).2).2).2).2)]) (Yields.loadAgg 1 8 #[.string ⟨⟨((parS xs).1).1⟩⟩, .string ⟨⟨(((parS xs).1).2).1⟩⟩, .int .i64 (((((parS xs).1).2).2).1), .slice a1_0 ((((((parS xs).1).2).2).2).1).length c1_0, .string ⟨⟨((((((parS xs).1).2).2).2).2).1⟩⟩, .bool ((((((((parS xs).1).2).2).2).2).2).1), .string ⟨⟨((((((((parS xs).1).2).2).2).2).2).2).1⟩⟩, .bool (((((((((parS xs).1).2).2).2).2).2).2).2)] rfl rfl Tryz.underlying24 rfl (by kernel_rfl) (by kernel_rfl) (by kernel_rfl)) rfl rfl ?_)
  refine Ok.op rfl (OpOk.step (v := .agg #[.string ⟨⟨((parS xs).1).1⟩⟩, .string ⟨⟨(((parS xs).1).2).1⟩⟩, .int .i64 (((((parS xs).1).2).2).1), .slice a3_0 ((((((parS xs).1).2).2).2).1).length c3_0, .string ⟨⟨((((((parS xs).1).2).2).2).2).1⟩⟩, .bool ((((((((parS xs).1).2).2).2).2).2).1), .string ⟨⟨((((((((parS xs).1).2).2).2).2).2).2).1⟩⟩, .bool (((((((((parS xs).1).2).2).2).2).2).2).2)]) (Yields.loadAgg 0 8 #[.string ⟨⟨((parS xs).1).1⟩⟩, .string ⟨⟨(((parS xs).1).2).1⟩⟩, .int .i64 (((((parS xs).1).2).2).1), .slice a3_0 ((((((parS xs).1).2).2).2).1).length c3_0, .string ⟨⟨((((((parS xs).1).2).2).2).2).1⟩⟩, .bool ((((((((parS xs).1).2).2).2).2).2).1), .string ⟨⟨((((((((parS xs).1).2).2).2).2).2).2).1⟩⟩, .bool (((((((((parS xs).1).2).2).2).2).2).2).2)] rfl rfl Tryz.underlying24 rfl (by kernel_rfl) (by kernel_rfl) (by kernel_rfl)) rfl rfl ?_)
  obtain ⟨hp5, hF⟩ := hF
  refine Ok.op rfl (OpOk.callG (v := .bool (lparV0 xs)) (enters (by kernel_rfl) (fun _ => by kernel_rfl)) (fun W hW => rsam_c (((parS xs).1).1, (((parS xs).1).2).1, ((((parS xs).1).2).2).1, (((((parS xs).1).2).2).2).1, ((((((parS xs).1).2).2).2).2).1, (((((((parS xs).1).2).2).2).2).2).1, ((((((((parS xs).1).2).2).2).2).2).2).1, ((((((((parS xs).1).2).2).2).2).2).2).2) (((parS xs).1).1, (((parS xs).1).2).1, ((((parS xs).1).2).2).1, (((((parS xs).1).2).2).2).1, ((((((parS xs).1).2).2).2).2).1, (((((((parS xs).1).2).2).2).2).2).1, ((((((((parS xs).1).2).2).2).2).2).2).1, ((((((((parS xs).1).2).2).2).2).2).2).2) (hR1_0.mono hW.sees) (hR3_0.mono hW.sees) hp5) rfl ?_)
  refine Ok.batch 2 [(4, .int .i64 ((parS xs).2)), (5, .string ⟨⟨(OriS xs).1⟩⟩), (6, .int .i64 ((OriS xs).2)), (7, .pointer (some ⟨b4, 0, none⟩)), (8, .int .i64 ((parS xs).2)), (28, .bool (!(lparV0 xs)))] (by kernel_rfl) ?_
  refine Ok.midway 4 [(5, .string ⟨⟨(OriS xs).1⟩⟩), (6, .int .i64 ((OriS xs).2)), (7, .pointer (some ⟨b4, 0, none⟩)), (8, .int .i64 ((parS xs).2)), (32, .bool ((!(lparV0 xs)) || (((parS xs).2) != ((parS xs).2))))] (fun hR6 => ?_) ?_
  · refine Ok.boolAt 28 (!(lparV0 xs)) rfl (fun hc7 => ?_) (fun hc7 => ?_)
    · skip
      refine Ok.batch 4 [(5, .string ⟨⟨(OriS xs).1⟩⟩), (6, .int .i64 ((OriS xs).2)), (7, .pointer (some ⟨b4, 0, none⟩)), (8, .int .i64 ((parS xs).2)), (32, .bool true)] (by kernel_rfl) ?_
      refine Ok.reval 32 rfl (show (.bool true : Value) = .bool ((!(lparV0 xs)) || (((parS xs).2) != ((parS xs).2))) from congrArg Value.bool (mor_t hc7)) ?_
      refine Ok.batch 0 [(5, .string ⟨⟨(OriS xs).1⟩⟩), (6, .int .i64 ((OriS xs).2)), (7, .pointer (some ⟨b4, 0, none⟩)), (8, .int .i64 ((parS xs).2)), (32, .bool ((!(lparV0 xs)) || (((parS xs).2) != ((parS xs).2))))] (by kernel_rfl) ?_
      exact hR6
    · skip
      refine Ok.batch 4 [(5, .string ⟨⟨(OriS xs).1⟩⟩), (6, .int .i64 ((OriS xs).2)), (7, .pointer (some ⟨b4, 0, none⟩)), (8, .int .i64 ((parS xs).2)), (32, .bool (((parS xs).2) != ((parS xs).2)))] (by kernel_rfl) ?_
      refine Ok.reval 32 rfl (show (.bool (((parS xs).2) != ((parS xs).2)) : Value) = .bool ((!(lparV0 xs)) || (((parS xs).2) != ((parS xs).2))) from congrArg Value.bool (mor_f hc7)) ?_
      refine Ok.batch 0 [(5, .string ⟨⟨(OriS xs).1⟩⟩), (6, .int .i64 ((OriS xs).2)), (7, .pointer (some ⟨b4, 0, none⟩)), (8, .int .i64 ((parS xs).2)), (32, .bool ((!(lparV0 xs)) || (((parS xs).2) != ((parS xs).2))))] (by kernel_rfl) ?_
      exact hR6
  refine Ok.batch 1 [(5, .string ⟨⟨(OriS xs).1⟩⟩), (6, .int .i64 ((OriS xs).2)), (7, .pointer (some ⟨b4, 0, none⟩)), (8, .int .i64 ((parS xs).2)), (33, .bool ((!(lparV0 xs)) || (((parS xs).2) != ((parS xs).2))))] (by kernel_rfl) ?_
  refine Ok.midway 4 [(5, .string ⟨⟨(OriS xs).1⟩⟩), (7, .pointer (some ⟨b4, 0, none⟩)), (8, .int .i64 ((parS xs).2)), (37, .bool (((!(lparV0 xs)) || (((parS xs).2) != ((parS xs).2))) || (((OriS xs).2) != ((parS xs).2))))] (fun hR8 => ?_) ?_
  · refine Ok.boolAt 33 (((!(lparV0 xs)) || (((parS xs).2) != ((parS xs).2)))) rfl (fun hc9 => ?_) (fun hc9 => ?_)
    · skip
      refine Ok.batch 4 [(5, .string ⟨⟨(OriS xs).1⟩⟩), (7, .pointer (some ⟨b4, 0, none⟩)), (8, .int .i64 ((parS xs).2)), (37, .bool true)] (by kernel_rfl) ?_
      refine Ok.reval 37 rfl (show (.bool true : Value) = .bool (((!(lparV0 xs)) || (((parS xs).2) != ((parS xs).2))) || (((OriS xs).2) != ((parS xs).2))) from congrArg Value.bool (mor_t hc9)) ?_
      refine Ok.batch 0 [(5, .string ⟨⟨(OriS xs).1⟩⟩), (7, .pointer (some ⟨b4, 0, none⟩)), (8, .int .i64 ((parS xs).2)), (37, .bool (((!(lparV0 xs)) || (((parS xs).2) != ((parS xs).2))) || (((OriS xs).2) != ((parS xs).2))))] (by kernel_rfl) ?_
      exact hR8
    · skip
      refine Ok.batch 4 [(5, .string ⟨⟨(OriS xs).1⟩⟩), (7, .pointer (some ⟨b4, 0, none⟩)), (8, .int .i64 ((parS xs).2)), (37, .bool (((OriS xs).2) != ((parS xs).2)))] (by kernel_rfl) ?_
      refine Ok.reval 37 rfl (show (.bool (((OriS xs).2) != ((parS xs).2)) : Value) = .bool (((!(lparV0 xs)) || (((parS xs).2) != ((parS xs).2))) || (((OriS xs).2) != ((parS xs).2))) from congrArg Value.bool (mor_f hc9)) ?_
      refine Ok.batch 0 [(5, .string ⟨⟨(OriS xs).1⟩⟩), (7, .pointer (some ⟨b4, 0, none⟩)), (8, .int .i64 ((parS xs).2)), (37, .bool (((!(lparV0 xs)) || (((parS xs).2) != ((parS xs).2))) || (((OriS xs).2) != ((parS xs).2))))] (by kernel_rfl) ?_
      exact hR8
  refine Ok.nil ?_
  refine Ok.thenN ?_
  refine Ok.cond (b := (((!(lparV0 xs)) || (((parS xs).2) != ((parS xs).2))) || (((OriS xs).2) != ((parS xs).2)))) rfl (fun hc10 => ?_) (fun hc10 => ?_)
  · replace hF := hF.1 hc10
    refine Ok.seq ?_
    refine Ok.region ?_
    refine Ok.batch 1 [(2, .bool false)] (by kernel_rfl) ?_
    refine Ok.nil ?_
    refine Ok.thenN ?_
    refine Ok.ret ?_
    refine Ok.thenR ?_
    exact Ok.resP (vs := [.bool false]) [] [] (by decide) rfl (.inl rfl) rfl (.cons (.tmp rfl) .nil) (hx1.trans hx3) ⟨false, rfl, rfl, hF⟩
  · replace hF := hF.2 hc10
    refine Ok.skip ?_
    refine Ok.thenN ?_
    refine Ok.cut (fun a W => ∃ gj17 : Ghost, Gext w0 g3 gj17 ∧ StA 54 [(2, .bool (lparV1 xs))] a ∧ StW w0 [] gj17 W ∧ lparj17 xs K) ?_ ?_
    ·
      refine Ok.region ?_
      refine Ok.batch 3 [(5, .string ⟨⟨(OriS xs).1⟩⟩), (7, .pointer (some ⟨b4, 0, none⟩)), (8, .int .i64 ((parS xs).2)), (40, .bool (((parS xs).2) != 0))] (by kernel_rfl) ?_
      refine Ok.boolAt 40 ((((parS xs).2) != 0)) rfl (fun hc11 => ?_) (fun hc11 => ?_)
      · replace hF := hF.1 hc11
        refine Ok.batch 1 [(5, .string ⟨⟨(OriS xs).1⟩⟩), (7, .pointer (some ⟨b4, 0, none⟩)), (8, .int .i64 ((parS xs).2)), (40, .bool true), (41, .string ⟨⟨(OriS xs).1⟩⟩)] (by kernel_rfl) ?_
        refine Ok.opYes (j := 2) (d := 40) (want := true) (b := true) rfl (by kernel_rfl) (by kernel_rfl) rfl (OpOk.step (v := .bool (((OriS xs).1) == ([] : List UInt8))) (Yields.strCmp (f := .eql) (a := ((OriS xs).1)) (b := ([] : List UInt8)) (by kernel_rfl) (by kernel_rfl) rfl) rfl rfl ?_)
        refine Ok.batch 2 [(5, .string ⟨⟨(OriS xs).1⟩⟩), (7, .pointer (some ⟨b4, 0, none⟩)), (8, .int .i64 ((parS xs).2)), (44, .bool (((OriS xs).1) == ([] : List UInt8)))] (by kernel_rfl) ?_
        refine Ok.boolAt 44 ((((OriS xs).1) == ([] : List UInt8))) rfl (fun hc12 => ?_) (fun hc12 => ?_)
        · replace hF := hF.1 hc12
          refine Ok.batch 10 [(2, .bool true)] (by kernel_rfl) ?_
          refine Ok.nil ?_
          refine Ok.thenN ?_
          refine Ok.reval 2 rfl (show (.bool true : Value) = .bool (lparV1 xs) from congrArg (Value.bool) ((Eq.trans (mor_t hc12) ((if_t hc11).symm)))) ?_
          exact fun a W hA hW => ⟨g3, (Gext.refl w0 g3), hA.sub (by kernel_rfl), hW.sub (.cons _ (.cons _ .slnil)), hF⟩
        · replace hF := hF.2 hc12
          refine Ok.batch 3 [(5, .string ⟨⟨(OriS xs).1⟩⟩), (7, .pointer (some ⟨b4, 0, none⟩)), (44, .bool false), (47, .bool (((parS xs).2) == 0))] (by kernel_rfl) ?_
          refine Ok.boolAt 47 ((((parS xs).2) == 0)) rfl (fun hc13 => ?_) (fun hc13 => ?_)
          · replace hF := hF.1 hc13
            refine Ok.batch 1 [(7, .pointer (some ⟨b4, 0, none⟩)), (44, .bool false), (47, .bool true), (48, .string ⟨⟨(OriS xs).1⟩⟩)] (by kernel_rfl) ?_
            refine Ok.opYes (j := 9) (d := 47) (want := true) (b := true) rfl (by kernel_rfl) (by kernel_rfl) rfl (OpOk.step (v := .agg #[.string ⟨⟨((parS xs).1).1⟩⟩, .string ⟨⟨(((parS xs).1).2).1⟩⟩, .int .i64 (((((parS xs).1).2).2).1), .slice a3_0 ((((((parS xs).1).2).2).2).1).length c3_0, .string ⟨⟨((((((parS xs).1).2).2).2).2).1⟩⟩, .bool ((((((((parS xs).1).2).2).2).2).2).1), .string ⟨⟨((((((((parS xs).1).2).2).2).2).2).2).1⟩⟩, .bool (((((((((parS xs).1).2).2).2).2).2).2).2)]) (Yields.loadAgg 0 8 #[.string ⟨⟨((parS xs).1).1⟩⟩, .string ⟨⟨(((parS xs).1).2).1⟩⟩, .int .i64 (((((parS xs).1).2).2).1), .slice a3_0 ((((((parS xs).1).2).2).2).1).length c3_0, .string ⟨⟨((((((parS xs).1).2).2).2).2).1⟩⟩, .bool ((((((((parS xs).1).2).2).2).2).2).1), .string ⟨⟨((((((((parS xs).1).2).2).2).2).2).2).1⟩⟩, .bool (((((((((parS xs).1).2).2).2).2).2).2).2)] rfl rfl Tryz.underlying24 rfl (by kernel_rfl) (by kernel_rfl) (by kernel_rfl)) rfl rfl ?_)
            obtain ⟨hp14, hF⟩ := hF
            refine Ok.opYes (j := 9) (d := 47) (want := true) (b := true) rfl (by kernel_rfl) (by kernel_rfl) rfl (OpOk.callG (v := .string ⟨⟨(lparV2 xs)⟩⟩) (enters (by kernel_rfl) (fun _ => by kernel_rfl)) (fun W hW => rori_c (((parS xs).1).1, (((parS xs).1).2).1, ((((parS xs).1).2).2).1, (((((parS xs).1).2).2).2).1, ((((((parS xs).1).2).2).2).2).1, (((((((parS xs).1).2).2).2).2).2).1, ((((((((parS xs).1).2).2).2).2).2).2).1, ((((((((parS xs).1).2).2).2).2).2).2).2) (hR3_0.mono hW.sees) (hG3.mono hW.sees) hp14) rfl ?_)
            refine Ok.opYes (j := 9) (d := 47) (want := true) (b := true) rfl (by kernel_rfl) (by kernel_rfl) rfl (OpOk.step (v := .bool (((OriS xs).1) == (lparV2 xs))) (Yields.strCmp (f := .eql) (a := ((OriS xs).1)) (b := (lparV2 xs)) (by kernel_rfl) (by kernel_rfl) rfl) rfl rfl ?_)
            refine Ok.batch 3 [(2, .bool (((OriS xs).1) == (lparV2 xs)))] (by kernel_rfl) ?_
            refine Ok.nil ?_
            refine Ok.thenN ?_
            refine Ok.reval 2 rfl (show (.bool (((OriS xs).1) == (lparV2 xs)) : Value) = .bool (lparV1 xs) from congrArg (Value.bool) ((Eq.trans ((Eq.trans (mand_t hc13) (mor_f hc12))) ((if_t hc11).symm)))) ?_
            exact fun a W hA hW => ⟨g3, (Gext.refl w0 g3), hA.sub (by kernel_rfl), hW.sub (.cons _ (.cons _ .slnil)), hF⟩
          · replace hF := hF.2 hc13
            refine Ok.batch 7 [(2, .bool false)] (by kernel_rfl) ?_
            refine Ok.nil ?_
            refine Ok.thenN ?_
            refine Ok.reval 2 rfl (show (.bool false : Value) = .bool (lparV1 xs) from congrArg (Value.bool) ((Eq.trans ((Eq.trans (mand_f hc13) (mor_f hc12))) ((if_t hc11).symm)))) ?_
            exact fun a W hA hW => ⟨g3, (Gext.refl w0 g3), hA.sub (by kernel_rfl), hW.sub (.cons _ (.cons _ .slnil)), hF⟩
      · replace hF := hF.2 hc11
        refine Ok.batch 7 [(5, .string ⟨⟨(OriS xs).1⟩⟩), (7, .pointer (some ⟨b4, 0, none⟩)), (44, .bool false), (47, .bool (((parS xs).2) == 0))] (by kernel_rfl) ?_
        refine Ok.boolAt 47 ((((parS xs).2) == 0)) rfl (fun hc15 => ?_) (fun hc15 => ?_)
        · replace hF := hF.1 hc15
          refine Ok.batch 1 [(7, .pointer (some ⟨b4, 0, none⟩)), (44, .bool false), (47, .bool true), (48, .string ⟨⟨(OriS xs).1⟩⟩)] (by kernel_rfl) ?_
          refine Ok.opYes (j := 9) (d := 47) (want := true) (b := true) rfl (by kernel_rfl) (by kernel_rfl) rfl (OpOk.step (v := .agg #[.string ⟨⟨((parS xs).1).1⟩⟩, .string ⟨⟨(((parS xs).1).2).1⟩⟩, .int .i64 (((((parS xs).1).2).2).1), .slice a3_0 ((((((parS xs).1).2).2).2).1).length c3_0, .string ⟨⟨((((((parS xs).1).2).2).2).2).1⟩⟩, .bool ((((((((parS xs).1).2).2).2).2).2).1), .string ⟨⟨((((((((parS xs).1).2).2).2).2).2).2).1⟩⟩, .bool (((((((((parS xs).1).2).2).2).2).2).2).2)]) (Yields.loadAgg 0 8 #[.string ⟨⟨((parS xs).1).1⟩⟩, .string ⟨⟨(((parS xs).1).2).1⟩⟩, .int .i64 (((((parS xs).1).2).2).1), .slice a3_0 ((((((parS xs).1).2).2).2).1).length c3_0, .string ⟨⟨((((((parS xs).1).2).2).2).2).1⟩⟩, .bool ((((((((parS xs).1).2).2).2).2).2).1), .string ⟨⟨((((((((parS xs).1).2).2).2).2).2).2).1⟩⟩, .bool (((((((((parS xs).1).2).2).2).2).2).2).2)] rfl rfl Tryz.underlying24 rfl (by kernel_rfl) (by kernel_rfl) (by kernel_rfl)) rfl rfl ?_)
          obtain ⟨hp16, hF⟩ := hF
          refine Ok.opYes (j := 9) (d := 47) (want := true) (b := true) rfl (by kernel_rfl) (by kernel_rfl) rfl (OpOk.callG (v := .string ⟨⟨(lparV2 xs)⟩⟩) (enters (by kernel_rfl) (fun _ => by kernel_rfl)) (fun W hW => rori_c (((parS xs).1).1, (((parS xs).1).2).1, ((((parS xs).1).2).2).1, (((((parS xs).1).2).2).2).1, ((((((parS xs).1).2).2).2).2).1, (((((((parS xs).1).2).2).2).2).2).1, ((((((((parS xs).1).2).2).2).2).2).2).1, ((((((((parS xs).1).2).2).2).2).2).2).2) (hR3_0.mono hW.sees) (hG3.mono hW.sees) hp16) rfl ?_)
          refine Ok.opYes (j := 9) (d := 47) (want := true) (b := true) rfl (by kernel_rfl) (by kernel_rfl) rfl (OpOk.step (v := .bool (((OriS xs).1) == (lparV2 xs))) (Yields.strCmp (f := .eql) (a := ((OriS xs).1)) (b := (lparV2 xs)) (by kernel_rfl) (by kernel_rfl) rfl) rfl rfl ?_)
          refine Ok.batch 3 [(2, .bool (((OriS xs).1) == (lparV2 xs)))] (by kernel_rfl) ?_
          refine Ok.nil ?_
          refine Ok.thenN ?_
          refine Ok.reval 2 rfl (show (.bool (((OriS xs).1) == (lparV2 xs)) : Value) = .bool (lparV1 xs) from congrArg (Value.bool) ((Eq.trans (mand_t hc15) ((if_f hc11).symm)))) ?_
          exact fun a W hA hW => ⟨g3, (Gext.refl w0 g3), hA.sub (by kernel_rfl), hW.sub (.cons _ (.cons _ .slnil)), hF⟩
        · replace hF := hF.2 hc15
          refine Ok.batch 7 [(2, .bool false)] (by kernel_rfl) ?_
          refine Ok.nil ?_
          refine Ok.thenN ?_
          refine Ok.reval 2 rfl (show (.bool false : Value) = .bool (lparV1 xs) from congrArg (Value.bool) ((Eq.trans (mand_f hc15) ((if_f hc11).symm)))) ?_
          exact fun a W hA hW => ⟨g3, (Gext.refl w0 g3), hA.sub (by kernel_rfl), hW.sub (.cons _ (.cons _ .slnil)), hF⟩
    ·
      clear hF
      rintro a W ⟨gj17, hxj17, hA, hW, hF⟩
      refine (?_ : Ok _ _ _ _ _ _) a W hA hW
      clear hA hW
      replace hG0 := hG0.mono hxj17.1
      replace hG1 := hG1.mono hxj17.1
      replace hG2 := hG2.mono hxj17.1
      replace hG3 := hG3.mono hxj17.1
      replace hG4 := hG4.mono hxj17.1
      replace hG5 := hG5.mono hxj17.1
      refine Ok.ret ?_
      exact Ok.resH (vs := [.bool (lparV1 xs)]) (.inl rfl) rfl (.cons (.tmp rfl) .nil) ((hx1.trans hx3).trans hxj17) ⟨(lparV1 xs), rfl, rfl, hF⟩
theorem tidy_len (l : List (List UInt8)) : (tidyS l).length ≤ l.length + 1 := by
  have h : ∀ (l o : List (List UInt8)), (l.foldl tdF o).length ≤ o.length + l.length := by
    intro l
    induction l with
    | nil => intro o; exact Nat.le_refl _
    | cons a r ih =>
      intro o
      have h1 := ih (tdF o a)
      have h2 := td_len o a
      rw [List.foldl_cons, List.length_cons]; omega
  have h1 := h l []
  rw [tidyS_eq]
  unfold tidyS0
  simp only [List.length_nil] at h1
  split
  · rw [List.length_append, List.length_singleton]; omega
  · omega
theorem par_path (s : List UInt8) : (parS s).1.2.2.2.1.length ≤ 1000 := by
  rw [parS_eq]
  unfold parS0
  split
  · exact Nat.zero_le _
  · rename_i h
    have h5 : s.length ≤ 500 := by
      have h : decide ((s.length : Int) > 500) = false := by simpa using h
      have := of_decide_eq_false h; omega
    split
    · exact Nat.zero_le _
    · split
      · exact Nat.zero_le _
      · split
        · exact Nat.zero_le _
        · have hr := rest_len s
          have hl := prt_len (restS s).1 MK
          have htl : (parT s).1.length ≤ (prtS (restS s).1 MK).2.length := tail_len _ _
          have htp := tpf_len (parT s).1 [47]
          have hsg := seg_len (tpfM (parT s).1 [47])
          have ht := tidy_len (parG s).1
          show (tidyS (parG s).1).length ≤ 1000
          have : (parG s).1.length ≤ _ := hsg
          omega
theorem sam_refl (u : JU) : samS u u = true := by unfold samS samR; simp
theorem lpar_F (s : List UInt8) : lparF s (fun r => r = true) := by
  have hsam : samP (parS s).1 (parS s).1 := ⟨Nat.le_trans (par_path s) (by decide), Nat.le_trans (par_path s) (by decide)⟩
  have hori := par_ori s
  have hO : OriS s = if ((parS s).2 != 0) = true then ([], (parS s).2) else (oriS (parS s).1, 0) := by rw [OriS_eq]; rfl
  have hv0 : lparV0 s = true := sam_refl (parS s).1
  have h2 : (OriS s).2 = (parS s).2 := by
    rw [hO]
    by_cases h : ((parS s).2 != 0) = true
    · rw [if_t h]
    · rw [if_neg h]
      have : (parS s).2 = 0 := by simpa using h
      rw [this]
  have hv1 : lparV1 s = true := by
    unfold lparV1
    by_cases h : ((parS s).2 != 0) = true
    · rw [if_t h, hO, if_t h]; rfl
    · have h' : (parS s).2 = 0 := by simpa using h
      rw [if_neg h, hO, if_neg h, h']
      show (true && (oriS (parS s).1 == oriS (parS s).1)) = true
      simp
  have hc : ((!(lparV0 s) || ((parS s).2 != (parS s).2)) || ((OriS s).2 != (parS s).2)) = false := by
    rw [hv0, h2]; simp
  have j17 : lparj17 s (fun r => r = true) := hv1
  refine ⟨hsam, (fun h => by rw [hc] at h; cases h), fun _ => ⟨fun _ => ⟨fun _ => j17, fun _ => ⟨fun _ => ⟨hori, j17⟩, fun _ => j17⟩⟩, fun _ => ⟨fun _ => ⟨hori, j17⟩, fun _ => j17⟩⟩⟩
set_option linter.unusedVariables false in
theorem lpar_c {g : Ghost} (xs : List UInt8) (hG0 : SomeInt g 0) (hG1 : SomeIf g 1) (hG2 : SomeIf g 2) (hG3 : GlobL g 3 (.int .u64) DPow) (hG4 : GlobL g 4 (.int .u8) DFirst) (hG5 : GlobL g 5 (.pair (.int .u8) (.int .u8)) DAcc)  : CallsG Tryz.prog 3 #[.string ⟨⟨xs⟩⟩] g (.bool ((fun _ => true) xs)) :=
  (lpar_ok xs hG0 hG1 hG2 hG3 hG4 hG5 _ (lpar_F xs)).gives (by rintro g' H' v _ ⟨r0, rfl, rfl, hK⟩; subst hK; rfl)
end
end Go.Proofs.YthgabkffamgfaaaGreatDoor.Ub
