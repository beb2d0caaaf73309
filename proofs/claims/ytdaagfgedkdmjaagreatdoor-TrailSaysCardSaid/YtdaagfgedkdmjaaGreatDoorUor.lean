/- Addresses: Origin. -/
import Derived.Test.YtdaagfgedkdmjaaGreatDoorUrp
namespace Go.Proofs.YtdaagfgedkdmjaaGreatDoor.Ub
open Go Go.Eng Go.RowKit Go.Shelf Go.Proofs Bld Sp Ti Uc Ua Ui
set_option maxHeartbeats 4000000
set_option maxRecDepth 100000
set_option linter.unusedSimpArgs false
set_option linter.unusedVariables false
noncomputable section
def OriS0 (s : Bs) : Bs × Int := if ((parS s).2 != 0) = true then ([], (parS s).2) else (oriS (parS s).1, 0)
noncomputable def OriS : Bs → Bs × Int := Classical.choose (rigid OriS0)
theorem OriS_eq : OriS = OriS0 := Classical.choose_spec (rigid OriS0)
def uOriF (xs : Bs) (K : Bs → Int → Prop) : Prop :=
 ((((parS xs).2 != 0)) = true → K ([] : Bs) (parS xs).2) ∧ ((((parS xs).2 != 0)) = false → oriP (parS xs).1 ∧ K (oriS (parS xs).1) 0)
theorem uOri_ok {g : Ghost} (xs : Bs) (hG0 : SomeInt g 0) (hG1 : GlobL g 1 (.int .u64) DPow) (hG2 : SomeIf g 2) (hG3 : SomeIf g 3) (hG4 : GlobL g 4 (.int .u8) DFirst) (hG5 : GlobL g 5 (.pair (.int .u8) (.int .u8)) DAcc) (K : Bs → Int → Prop)
  (hF : uOriF xs K) : CallsH Tryz.prog 73 #[sv xs] g [] (fun g' H' v => ∃ (r0 : Bs), ∃ (r1 : Int), v = .tuple #[sv r0, .int .i64 r1] ∧ H' = [] ∧ K r0 r1) := by
 refine CallsH.enter 16 [(0, sv xs)] Tryz.func73 rfl (by kernel_rfl) (by kernel_rfl) (by kernel_rfl) fun w0 => ?_
 refine Ok.seq (Ok.region (Ok.batch 2 [(0, sv xs)] (by kernel_rfl) (Ok.nil (Ok.thenN (Ok.seq (Ok.region (Ok.batch 1 [(7, sv xs)] (by kernel_rfl) (Ok.op rfl (OpOk.callH [] _ enr rfl (upar_c xs hG0 hG2 hG3 hG4 hG5) rfl fun g1 _ _ hx1 hV1 => ?_)))))))))
 obtain ⟨a1_0, c1_0, rfl, hR1_0, rfl⟩ := hV1
 replace hG0 := hG0.mono hx1.1
 replace hG1 := hG1.mono hx1.1
 replace hG2 := hG2.mono hx1.1
 replace hG3 := hG3.mono hx1.1
 replace hG4 := hG4.mono hx1.1
 replace hG5 := hG5.mono hx1.1
 refine Ok.batch 3 [(9, .agg ⟨vJ (parS xs).1 a1_0 c1_0⟩), (10, .int .i64 (parS xs).2)] (by kernel_rfl) (Ok.op rfl (OpOk.alloc (z := .agg ⟨zJ⟩) (cs := ⟨zJ⟩) (by kernel_rfl) (by kernel_rfl) rfl fun b2 => ?_))
 refine Ok.op rfl (OpOk.sto (k := 8) (v := .agg ⟨vJ (parS xs).1 a1_0 c1_0⟩) 0 ⟨vJ (parS xs).1 a1_0 c1_0⟩ rfl rfl rfl ?_)
 refine Ok.batch 1 [(4, pv b2 0), (5, .int .i64 (parS xs).2)] (by kernel_rfl) (Ok.nil (Ok.thenN (Ok.seq (Ok.seq (Ok.region (Ok.bat 2 [4, 5] [(12, .bool ((parS xs).2 != 0))] ?_))))))
 refine Ok.nil (Ok.thenN (Ok.cond (b := ((parS xs).2 != 0)) rfl (fun hc3 => ?_) (fun hc3 => ?_)))
 ·replace hF := hF.1 hc3
  refine Ok.seq (Ok.region (Ok.batch 3 [(2, sv ([] : Bs)), (3, .int .i64 (parS xs).2)] (by kernel_rfl) (Ok.nil (Ok.thenN (Ok.ret (Ok.thenR ?_))))))
  exact Ok.resP (vs := [sv ([] : Bs), .int .i64 (parS xs).2]) [] [] (by decide) rfl (.inl rfl) rfl (.cons (.tmp rfl) (.cons (.tmp rfl) .nil)) hx1 ⟨([] : Bs), (parS xs).2, rfl, rfl, hF⟩
 ·replace hF := hF.2 hc3
  refine Ok.skip (Ok.thenN (Ok.seq (Ok.region (Ok.op rfl (OpOk.step (v := .agg ⟨vJ (parS xs).1 a1_0 c1_0⟩) (Yields.loadAgg 0 8 ⟨vJ (parS xs).1 a1_0 c1_0⟩ rfl rfl Tryz.underlying53 rfl (by kernel_rfl) (by kernel_rfl) (by kernel_rfl)) rfl rfl ?_)))))
  obtain ⟨hp4, hF⟩ := hF
  refine Ok.op rfl (OpOk.callG (v := sv (oriS (parS xs).1)) enr (fun W hW => uori_c (parS xs).1 (hR1_0.mono hW.sees) (hG1.mono hW.sees) hp4) rfl ?_)
  refine Ok.batch 2 [(2, sv (oriS (parS xs).1)), (3, .int .i64 0)] (by kernel_rfl) (Ok.nil (Ok.thenN (Ok.ret ?_)))
  exact Ok.resP (vs := [sv (oriS (parS xs).1), .int .i64 0]) [] [] (by decide) rfl (.inl rfl) rfl (.cons (.tmp rfl) (.cons (.tmp rfl) .nil)) hx1 ⟨(oriS (parS xs).1), 0, rfl, rfl, hF⟩
theorem uOri_F (s : Bs) : uOriF s (fun a b => (a, b) = OriS s) := by
 rw [OriS_eq]
 unfold OriS0
 exact ⟨fun h => by rw [if_t h], fun h => by rw [if_f h]; exact ⟨par_ori s, rfl⟩⟩
theorem uOri_c {g : Ghost} (xs : Bs) (hG0 : SomeInt g 0) (hG1 : GlobL g 1 (.int .u64) DPow) (hG2 : SomeIf g 2) (hG3 : SomeIf g 3) (hG4 : GlobL g 4 (.int .u8) DFirst) (hG5 : GlobL g 5 (.pair (.int .u8) (.int .u8)) DAcc)  : CallsG Tryz.prog 73 #[sv xs] g (.tuple #[sv ((OriS xs).1), .int .i64 (OriS xs).2]) :=
 (uOri_ok xs hG0 hG1 hG2 hG3 hG4 hG5 _ (uOri_F xs)).gives (by rintro g' H' v _ ⟨r0, r1, rfl, rfl, hK⟩; obtain ⟨rfl, rfl⟩ : r0 = (OriS xs).1 ∧ r1 = (OriS xs).2 := ⟨congrArg (fun z => z.1) hK, congrArg (fun z => z.2) hK⟩; rfl)
end
end Go.Proofs.YtdaagfgedkdmjaaGreatDoor.Ub
