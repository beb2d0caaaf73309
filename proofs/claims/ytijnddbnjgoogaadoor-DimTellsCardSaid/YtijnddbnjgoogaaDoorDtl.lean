/- DimTells: the law. -/
import Derived.Test.YtijnddbnjgoogaaDoorDim
import Derived.Test.YtijnddbnjgoogaaDoorQdb
namespace Go.Proofs.YtijnddbnjgoogaaDoor.Dm
open Go Go.Eng Go.RowKit Go.Shelf Go.Proofs Ti Co Css Tk
set_option linter.unusedVariables false
def ldtj5 (xd : Int × List UInt8) (K : Bool → Prop) : Prop :=
  K (true && ((dmS xd) == (dmS xd)))
def ldtF (xd : Int × List UInt8) (K : Bool → Prop) : Prop :=
  ((true) = true → dmP xd ∧ dmP xd ∧ ldtj5 xd K) ∧ ((true) = false → ldtj5 xd K)
set_option maxHeartbeats 4000000 in
set_option maxRecDepth 100000 in
set_option linter.unusedVariables false in
theorem ldt_ok {g : Ghost} (xd : Int × List UInt8) (hG0 : Glob g 0 (.slice (.str)) DUnits) (hG1 : SomeInt g 1) (hG2 : GlobL g 2 (.int .u64) DPow) (K : Bool → Prop)
    (hF : ldtF xd K) : CallsH Tryd.prog 4 #[.agg #[.int .i64 xd.1, .string ⟨⟨xd.2⟩⟩]] g [] (fun g' H' v => ∃ (r0 : Bool), v = .bool r0 ∧ H' = [] ∧ K r0) := by
  refine CallsH.enter 13 [(0, .agg #[.int .i64 xd.1, .string ⟨⟨xd.2⟩⟩])] Tryd.func4 rfl (by kernel_rfl) (by kernel_rfl) (by kernel_rfl) fun w0 => ?_
  refine Ok.seq ?_
  refine Ok.region ?_
  refine Ok.op rfl (OpOk.box (v := .agg #[.int .i64 xd.1, .string ⟨⟨xd.2⟩⟩]) (cs := #[.int .i64 xd.1, .string ⟨⟨xd.2⟩⟩]) rfl (by kernel_rfl) rfl fun b1 => ?_)
  refine Ok.batch 1 [(1, .pointer (some ⟨b1, 0, none⟩))] (by kernel_rfl) ?_
  refine Ok.nil ?_
  refine Ok.thenN ?_
  refine Ok.seq ?_
  refine Ok.region ?_
  refine Ok.op rfl (OpOk.callG (v := .bool true) (enters (by kernel_rfl) (fun _ => by kernel_rfl)) (fun W hW => half_c  (hG0.mono hW.sees) (hG1.mono hW.sees)) rfl ?_)
  refine Ok.batch 1 [(1, .pointer (some ⟨b1, 0, none⟩)), (3, .bool true)] (by kernel_rfl) ?_
  refine Ok.nil ?_
  refine Ok.thenN ?_
  refine Ok.cut (fun a W => StA 13 [(2, .bool (true && ((dmS xd) == (dmS xd))))] a ∧ StW w0 [] g W ∧ ldtj5 xd K) ?_ ?_
  ·
    refine Ok.quiet' (by kernel_rfl) (by kernel_rfl) ?_
    refine OkQ.batch 2 [(1, .pointer (some ⟨b1, 0, none⟩)), (6, .bool true)] (by kernel_rfl) ?_
    refine OkQ.boolAt 6 (true) rfl (fun hc2 => ?_) (fun hc2 => ?_)
    · replace hF := hF.1 hc2
      refine OkQ.opYes (j := 1) (d := 6) (want := true) (b := true) rfl (by kernel_rfl) (by kernel_rfl) rfl (OpQ.step (v := .agg #[.int .i64 xd.1, .string ⟨⟨xd.2⟩⟩]) (Yields.loadAgg 0 2 #[.int .i64 xd.1, .string ⟨⟨xd.2⟩⟩] rfl rfl Tryd.underlying24 rfl (by kernel_rfl) (by kernel_rfl) (by kernel_rfl)) rfl rfl ?_)
      obtain ⟨hp3, hF⟩ := hF
      refine OkQ.opYes (j := 1) (d := 6) (want := true) (b := true) rfl (by kernel_rfl) (by kernel_rfl) rfl (OpQ.callG (v := .string ⟨⟨(dmS xd)⟩⟩) (enters (by kernel_rfl) (fun _ => by kernel_rfl)) (fun W hW => dmt_c xd (hG2.mono hW.sees) hp3) rfl ?_)
      refine OkQ.opYes (j := 1) (d := 6) (want := true) (b := true) rfl (by kernel_rfl) (by kernel_rfl) rfl (OpQ.step (v := .agg #[.int .i64 xd.1, .string ⟨⟨xd.2⟩⟩]) (Yields.loadAgg 0 2 #[.int .i64 xd.1, .string ⟨⟨xd.2⟩⟩] rfl rfl Tryd.underlying24 rfl (by kernel_rfl) (by kernel_rfl) (by kernel_rfl)) rfl rfl ?_)
      obtain ⟨hp4, hF⟩ := hF
      refine OkQ.opYes (j := 1) (d := 6) (want := true) (b := true) rfl (by kernel_rfl) (by kernel_rfl) rfl (OpQ.callG (v := .string ⟨⟨(dmS xd)⟩⟩) (enters (by kernel_rfl) (fun _ => by kernel_rfl)) (fun W hW => rdm_c xd hp4) rfl ?_)
      refine OkQ.opYes (j := 1) (d := 6) (want := true) (b := true) rfl (by kernel_rfl) (by kernel_rfl) rfl (OpQ.step (v := .bool ((dmS xd) == (dmS xd))) (Yields.strCmp (f := .eql) (a := (dmS xd)) (b := (dmS xd)) (by kernel_rfl) (by kernel_rfl) rfl) rfl rfl ?_)
      refine OkQ.batch 2 [(2, .bool ((dmS xd) == (dmS xd)))] (by kernel_rfl) ?_
      refine OkQ.nil ?_
      refine Ok.thenN ?_
      refine Ok.reval 2 rfl (show (.bool ((dmS xd) == (dmS xd)) : Value) = .bool (true && ((dmS xd) == (dmS xd))) from congrArg (Value.bool) (mand_t hc2)) ?_
      exact fun a W hA hW => ⟨hA.sub (by kernel_rfl), hW.sub (.cons _ .slnil), hF⟩
    · replace hF := hF.2 hc2
      refine OkQ.batch 7 [(2, .bool false)] (by kernel_rfl) ?_
      refine OkQ.nil ?_
      refine Ok.thenN ?_
      refine Ok.reval 2 rfl (show (.bool false : Value) = .bool (true && ((dmS xd) == (dmS xd))) from congrArg (Value.bool) (mand_f hc2)) ?_
      exact fun a W hA hW => ⟨hA.sub (by kernel_rfl), hW.sub (.cons _ .slnil), hF⟩
  ·
    clear hF
    rintro a W ⟨hA, hW, hF⟩
    refine (?_ : Ok _ _ _ _ _ _) a W hA hW
    clear hA hW
    refine Ok.ret ?_
    exact Ok.resH (vs := [.bool (true && ((dmS xd) == (dmS xd)))]) (.inl rfl) rfl (.cons (.tmp rfl) .nil) (Gext.refl w0 g) ⟨(true && ((dmS xd) == (dmS xd))), rfl, rfl, hF⟩
def ldtP (d : Int × List UInt8) : Prop := DomS (.pair (.int .i64) (.str)) d
theorem ldt_F (d : Int × List UInt8) (hp : ldtP d) : ldtF d (fun r => r = true) := by
  have hs : dmP d := by
    obtain ⟨_, _, h2⟩ := hp
    have h2 : d.2.length ≤ reachBytes := h2
    unfold reachBytes at h2
    unfold dmP; omega
  have key : ldtj5 d (fun r => r = true) := by
    unfold ldtj5
    simp
  exact ⟨fun _ => ⟨hs, hs, key⟩, fun h => (by cases h)⟩
set_option linter.unusedVariables false in
theorem ldt_c {g : Ghost} (xd : Int × List UInt8) (hG0 : Glob g 0 (.slice (.str)) DUnits) (hG1 : SomeInt g 1) (hG2 : GlobL g 2 (.int .u64) DPow)  (hp : ldtP xd) : CallsG Tryd.prog 4 #[.agg #[.int .i64 xd.1, .string ⟨⟨xd.2⟩⟩]] g (.bool ((fun _ => true) xd)) :=
  (ldt_ok xd hG0 hG1 hG2 _ (ldt_F xd hp)).gives (by rintro g' H' v _ ⟨r0, rfl, rfl, hK⟩; subst hK; rfl)
end Go.Proofs.YtijnddbnjgoogaaDoor.Dm
