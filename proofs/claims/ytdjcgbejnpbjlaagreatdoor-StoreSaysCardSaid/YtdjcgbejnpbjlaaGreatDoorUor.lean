/- Addresses: Origin. -/
import Derived.Test.YtdjcgbejnpbjlaaGreatDoorUrp
namespace Go.Proofs.YtdjcgbejnpbjlaaGreatDoor.Ub
open Go Go.Eng Go.RowKit Go.Shelf Go.Proofs Bld Sp Ti Uc Ua Ui
set_option linter.unusedVariables false
noncomputable section
def OriS0 (s : List UInt8) : List UInt8 × Int := if ((parS s).2 != 0) = true then ([], (parS s).2) else (oriS (parS s).1, 0)
noncomputable def OriS : List UInt8 → List UInt8 × Int := Classical.choose (rigid OriS0)
theorem OriS_eq : OriS = OriS0 := Classical.choose_spec (rigid OriS0)
def uOriF (xs : List UInt8) (K : (List UInt8) → Int → Prop) : Prop :=
 ((((parS xs).2 != 0)) = true → K ([] : List UInt8) (parS xs).2) ∧ ((((parS xs).2 != 0)) = false → oriP (parS xs).1 ∧ K (oriS (parS xs).1) 0)
set_option maxHeartbeats 4000000 in
set_option maxRecDepth 100000 in
set_option linter.unusedVariables false in
theorem uOri_ok {g : Ghost} (xs : List UInt8) (hG0 : SomeInt g 0) (hG1 : GlobL g 1 (.int .u64) DPow) (hG2 : SomeIf g 2) (hG3 : SomeIf g 3) (hG4 : GlobL g 4 (.int .u8) DFirst) (hG5 : GlobL g 5 (.pair (.int .u8) (.int .u8)) DAcc) (K : (List UInt8) → Int → Prop)
  (hF : uOriF xs K) : CallsH Tryz.prog 8 #[.string ⟨⟨xs⟩⟩] g [] (fun g' H' v => ∃ (r0 : List UInt8), ∃ (r1 : Int), v = .tuple #[.string ⟨⟨r0⟩⟩, .int .i64 r1] ∧ H' = [] ∧ K r0 r1) := by
 refine CallsH.enter 16 [(0, .string ⟨⟨xs⟩⟩)] Tryz.func8 rfl (by kernel_rfl) (by kernel_rfl) (by kernel_rfl) fun w0 => ?_
 refine Ok.seq ?_
 refine Ok.region ?_
 refine Ok.batch 2 [(0, .string ⟨⟨xs⟩⟩)] (by kernel_rfl) ?_
 refine Ok.nil ?_
 refine Ok.thenN ?_
 refine Ok.seq ?_
 refine Ok.region ?_
 refine Ok.batch 1 [(7, .string ⟨⟨xs⟩⟩)] (by kernel_rfl) ?_
 refine Ok.op rfl (OpOk.callH [] [] (enters (by kernel_rfl) (fun _ => by kernel_rfl)) rfl (upar_c xs hG0 hG2 hG3 hG4 hG5) rfl fun g1 _ _ hx1 hV1 => ?_)
 obtain ⟨a1_0, c1_0, rfl, hR1_0, rfl⟩ := hV1
 replace hG0 := hG0.mono hx1.1
 replace hG1 := hG1.mono hx1.1
 replace hG2 := hG2.mono hx1.1
 replace hG3 := hG3.mono hx1.1
 replace hG4 := hG4.mono hx1.1
 replace hG5 := hG5.mono hx1.1
 refine Ok.batch 3 [(9, .agg #[.string ⟨⟨(parS xs).1.1⟩⟩, .string ⟨⟨(parS xs).1.2.1⟩⟩, .int .i64 (parS xs).1.2.2.1, .slice a1_0 (parS xs).1.2.2.2.1.length c1_0, .string ⟨⟨(parS xs).1.2.2.2.2.1⟩⟩, .bool (parS xs).1.2.2.2.2.2.1, .string ⟨⟨(parS xs).1.2.2.2.2.2.2.1⟩⟩, .bool (parS xs).1.2.2.2.2.2.2.2]), (10, .int .i64 (parS xs).2)] (by kernel_rfl) ?_
 refine Ok.op rfl (OpOk.alloc (z := .agg #[.string ⟨⟨([] : List UInt8)⟩⟩, .string ⟨⟨([] : List UInt8)⟩⟩, .int .i64 0, .slice none 0 0, .string ⟨⟨([] : List UInt8)⟩⟩, .bool false, .string ⟨⟨([] : List UInt8)⟩⟩, .bool false]) (cs := #[.string ⟨⟨([] : List UInt8)⟩⟩, .string ⟨⟨([] : List UInt8)⟩⟩, .int .i64 0, .slice none 0 0, .string ⟨⟨([] : List UInt8)⟩⟩, .bool false, .string ⟨⟨([] : List UInt8)⟩⟩, .bool false]) (by kernel_rfl) (by kernel_rfl) rfl fun bs4 => ?_)
 refine Ok.op rfl (OpOk.store (k := 8) (v := .agg #[.string ⟨⟨(parS xs).1.1⟩⟩, .string ⟨⟨(parS xs).1.2.1⟩⟩, .int .i64 (parS xs).1.2.2.1, .slice a1_0 (parS xs).1.2.2.2.1.length c1_0, .string ⟨⟨(parS xs).1.2.2.2.2.1⟩⟩, .bool (parS xs).1.2.2.2.2.2.1, .string ⟨⟨(parS xs).1.2.2.2.2.2.2.1⟩⟩, .bool (parS xs).1.2.2.2.2.2.2.2]) (H' := [.blk bs4 (.cells #[.string ⟨⟨(parS xs).1.1⟩⟩, .string ⟨⟨(parS xs).1.2.1⟩⟩, .int .i64 (parS xs).1.2.2.1, .slice a1_0 (parS xs).1.2.2.2.1.length c1_0, .string ⟨⟨(parS xs).1.2.2.2.2.1⟩⟩, .bool (parS xs).1.2.2.2.2.2.1, .string ⟨⟨(parS xs).1.2.2.2.2.2.2.1⟩⟩, .bool (parS xs).1.2.2.2.2.2.2.2] 46)]) 0 rfl rfl rfl (by kernel_rfl) (by kernel_rfl) (by kernel_rfl) (by kernel_rfl) (by kernel_rfl) ?_)
 refine Ok.batch 1 [(4, .pointer (some ⟨bs4, 0, none⟩)), (5, .int .i64 (parS xs).2)] (by kernel_rfl) ?_
 refine Ok.nil ?_
 refine Ok.thenN ?_
 refine Ok.seq ?_
 refine Ok.seq ?_
 refine Ok.region ?_
 refine Ok.batch 2 [(4, .pointer (some ⟨bs4, 0, none⟩)), (5, .int .i64 (parS xs).2), (12, .bool ((parS xs).2 != 0))] (by kernel_rfl) ?_
 refine Ok.nil ?_
 refine Ok.thenN ?_
 refine Ok.cond (b := ((parS xs).2 != 0)) rfl (fun hc3 => ?_) (fun hc3 => ?_)
 ·replace hF := hF.1 hc3
  refine Ok.seq ?_
  refine Ok.region ?_
  refine Ok.batch 3 [(2, .string ⟨⟨([] : List UInt8)⟩⟩), (3, .int .i64 (parS xs).2)] (by kernel_rfl) ?_
  refine Ok.nil ?_
  refine Ok.thenN ?_
  refine Ok.ret ?_
  refine Ok.thenR ?_
  exact Ok.resP (vs := [.string ⟨⟨([] : List UInt8)⟩⟩, .int .i64 (parS xs).2]) [] [] (by decide) rfl (.inl rfl) rfl (.cons (.tmp rfl) (.cons (.tmp rfl) .nil)) hx1 ⟨([] : List UInt8), (parS xs).2, rfl, rfl, hF⟩
 ·replace hF := hF.2 hc3
  refine Ok.skip ?_
  refine Ok.thenN ?_
  refine Ok.seq ?_
  refine Ok.region ?_
  refine Ok.op rfl (OpOk.step (v := .agg #[.string ⟨⟨(parS xs).1.1⟩⟩, .string ⟨⟨(parS xs).1.2.1⟩⟩, .int .i64 (parS xs).1.2.2.1, .slice a1_0 (parS xs).1.2.2.2.1.length c1_0, .string ⟨⟨(parS xs).1.2.2.2.2.1⟩⟩, .bool (parS xs).1.2.2.2.2.2.1, .string ⟨⟨(parS xs).1.2.2.2.2.2.2.1⟩⟩, .bool (parS xs).1.2.2.2.2.2.2.2]) (Yields.loadAgg 0 8 #[.string ⟨⟨(parS xs).1.1⟩⟩, .string ⟨⟨(parS xs).1.2.1⟩⟩, .int .i64 (parS xs).1.2.2.1, .slice a1_0 (parS xs).1.2.2.2.1.length c1_0, .string ⟨⟨(parS xs).1.2.2.2.2.1⟩⟩, .bool (parS xs).1.2.2.2.2.2.1, .string ⟨⟨(parS xs).1.2.2.2.2.2.2.1⟩⟩, .bool (parS xs).1.2.2.2.2.2.2.2] rfl rfl Tryz.underlying46 rfl (by kernel_rfl) (by kernel_rfl) (by kernel_rfl)) rfl rfl ?_)
  obtain ⟨hp4, hF⟩ := hF
  refine Ok.op rfl (OpOk.callG (v := .string ⟨⟨(oriS (parS xs).1)⟩⟩) (enters (by kernel_rfl) (fun _ => by kernel_rfl)) (fun W hW => uori_c (parS xs).1 (hR1_0.mono hW.sees) (hG1.mono hW.sees) hp4) rfl ?_)
  refine Ok.batch 2 [(2, .string ⟨⟨(oriS (parS xs).1)⟩⟩), (3, .int .i64 0)] (by kernel_rfl) ?_
  refine Ok.nil ?_
  refine Ok.thenN ?_
  refine Ok.ret ?_
  exact Ok.resP (vs := [.string ⟨⟨(oriS (parS xs).1)⟩⟩, .int .i64 0]) [] [] (by decide) rfl (.inl rfl) rfl (.cons (.tmp rfl) (.cons (.tmp rfl) .nil)) hx1 ⟨(oriS (parS xs).1), 0, rfl, rfl, hF⟩
theorem uOri_F (s : List UInt8) : uOriF s (fun a b => (a, b) = OriS s) := by
 rw [OriS_eq]
 unfold OriS0
 exact ⟨fun h => by rw [if_t h], fun h => by rw [if_f h]; exact ⟨par_ori s, rfl⟩⟩
set_option linter.unusedVariables false in
theorem uOri_c {g : Ghost} (xs : List UInt8) (hG0 : SomeInt g 0) (hG1 : GlobL g 1 (.int .u64) DPow) (hG2 : SomeIf g 2) (hG3 : SomeIf g 3) (hG4 : GlobL g 4 (.int .u8) DFirst) (hG5 : GlobL g 5 (.pair (.int .u8) (.int .u8)) DAcc)  : CallsG Tryz.prog 8 #[.string ⟨⟨xs⟩⟩] g (.tuple #[.string ⟨⟨(OriS xs).1⟩⟩, .int .i64 (OriS xs).2]) :=
 (uOri_ok xs hG0 hG1 hG2 hG3 hG4 hG5 _ (uOri_F xs)).gives (by rintro g' H' v _ ⟨r0, r1, rfl, rfl, hK⟩; obtain ⟨rfl, rfl⟩ : r0 = (OriS xs).1 ∧ r1 = (OriS xs).2 := ⟨congrArg (fun z => z.1) hK, congrArg (fun z => z.2) hK⟩; rfl)
end
end Go.Proofs.YtdjcgbejnpbjlaaGreatDoor.Ub
