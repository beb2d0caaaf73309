/-
  StyleInitials: any property's initial value, and if it inherits; no condition.
-/
import Derived.Test.YtejkloinamgpaaaDoorStI
import Derived.Test.YtejkloinamgpaaaDoorCards
import Derived.Test.YtejkloinamgpaaaDoorTie
import Derived.ProofKit
namespace Go.Proofs.YtejkloinamgpaaaDoor.styleInitials
open Go Go.Eng Go.RowKit Go.ChangeShapes Go.WideShapes Go.ChangeAt StI
theorem own : ownKnob Tryd.prog.godebug = none := by kernel_rfl
set_option maxRecDepth 100000 in
noncomputable def laidWorld (os : Os) : World :=
  let w0 := World.holding Tryd.prog os ⟨#[], #[], []⟩
  { w0 with heap := (w0.heap.modify 0 (lay #[.int .i64 1, .int .i64 1, .int .i64 1, .int .i64 0, .int .i64 1, .int .i64 0, .int .i64 1, .int .i64 0, .int .i64 1, .int .i64 0, .int .i64 6, .int .i64 0, .int .i64 6, .int .i64 0, .int .i64 6, .int .i64 0, .int .i64 6, .int .i64 0, .int .i64 6, .int .i64 0, .int .i64 6, .int .i64 0, .int .i64 2, .int .i64 0, .int .i64 2, .int .i64 0, .int .i64 2, .int .i64 0, .int .i64 2, .int .i64 0, .int .i64 2, .int .i64 0, .int .i64 2, .int .i64 0, .int .i64 2, .int .i64 0, .int .i64 2, .int .i64 0, .int .i64 2, .int .i64 0, .int .i64 2, .int .i64 0, .int .i64 2, .int .i64 0, .int .i64 2, .int .i64 0, .int .i64 5, .int .i64 255, .int .i64 5, .int .i64 255, .int .i64 5, .int .i64 255, .int .i64 5, .int .i64 255, .int .i64 6, .int .i64 0, .int .i64 6, .int .i64 0, .int .i64 6, .int .i64 0, .int .i64 6, .int .i64 0, .int .i64 6, .int .i64 0, .int .i64 1, .int .i64 0, .int .i64 1, .int .i64 0, .int .i64 4, .int .i64 1000, .int .i64 5, .int .i64 255, .int .i64 5, .int .i64 0, .int .i64 2, .int .i64 1024, .int .i64 6, .int .i64 0, .int .i64 1, .int .i64 0, .int .i64 2, .int .i64 0, .int .i64 1, .int .i64 0, .int .i64 1, .int .i64 0, .int .i64 1, .int .i64 0, .int .i64 6, .int .i64 0, .int .i64 1, .int .i64 0, .int .i64 1, .int .i64 0, .int .i64 1, .int .i64 0, .int .i64 1, .int .i64 6, .int .i64 6, .int .i64 0, .int .i64 4, .int .i64 0, .int .i64 4, .int .i64 1000, .int .i64 6, .int .i64 0, .int .i64 4, .int .i64 0, .int .i64 2, .int .i64 0, .int .i64 1, .int .i64 0, .int .i64 2, .int .i64 0, .int .i64 1, .int .i64 1, .int .i64 1, .int .i64 0])) }
set_option maxRecDepth 100000 in
theorem laid_met (os : Os) (args : Array Value) : laidMet Tryd.prog Rows.styleInitialsRow.laid ((laidWorld os).forCall (fun _ _ => 0) ⟨#[], args, []⟩).memory :=
  laidMet_of_run' 12 (by kernel_rfl) (by kernel_rfl)
set_option maxRecDepth 100000 in
set_option linter.unusedVariables false in
theorem lifted (os : Os) (started : os.Started) (H : Type) (enc : TypeId × Value → H) :
    ReturnsInHanded {} Tryd.checked os 3 .any (fun w args => (Rows.styleInitialsSpec.pre enc Tryd.prog Tryd.f3 Rows.styleInitialsRow.domain false w args ∧ laidMet Tryd.prog Rows.styleInitialsRow.laid w) ∧ sizedMet enc Tryd.prog Tryd.f3 (OpenSpec.ofChange Rows.styleInitialsSpec) false w args) (Rows.styleInitialsSpec.post enc Tryd.prog Tryd.f3 false true false false) := by
  refine law_lift_laid (C := Tryd.checked) (tb := 4) own started (by kernel_rfl) Tryd.func3 (ChangeSpec.witness_at (enc := enc) (C := Tryd.checked) (os := os) (X := fun w _ => laidMet Tryd.prog Rows.styleInitialsRow.laid w) false (laidWorld os) #[.int .i64 0] 12 rfl (by kernel_rfl) (by kernel_rfl) (by kernel_rfl) (by kernel_rfl) (by kernel_rfl) (laid_met os _)) rfl (fun ds hd => ?_) rfl Tryd.underlying4 (by kernel_rfl) (by kernel_rfl) ?_
  · have hd : ds.length = 1 := hd
    match ds, hd with
    | [_], _ => rfl
  intro W base args ds p hL hval hA
  rw [Tryd.params3] at hA hval
  obtain ⟨v0, vs0, d0, ds0, p0, q0, hargs, rfl, rfl, h0, r0⟩ := trodAll_cons hA
  obtain ⟨rfl, rfl, rfl⟩ := trodAll_nil r0
  obtain rfl : args = #[v0] := by cases args; simp_all
  obtain ⟨x0, rfl, rfl, rfl, w0⟩ := open_int Tryd.underlying3 (hval 0 3 v0 rfl rfl) h0
  have hG0 : GlobL (ghostOf W) 0 (.pair (.int .i64) (.int .i64)) DInit := laid_repL 40 hL (List.Mem.head _) (by kernel_rfl) (by kernel_rfl) Tryd.underlying35 (by kernel_rfl) (by kernel_rfl) (by kernel_rfl) (by kernel_rfl)
  exact StI.law_c x0  hG0 W (gh_ghostOf W)
theorem over : Rows.styleInitialsRow.holds Tryd.pinned (OpenSpec.ofChange Rows.styleInitialsSpec) :=
  OpenClaim.holds_of_wide 3 Tryd.f3 rfl rfl rfl rfl rfl rfl rfl ⟨rfl, rfl, rfl, rfl, rfl⟩ rfl rfl rfl rfl rfl (by kernel_rfl) Tryd.func3 (by kernel_rfl)
    (of_decide_eq_true (by kernel_rfl)) (by unfold Func.isWrapper; first | (rw [if_pos (by decide +kernel)]; kernel_rfl) | (rw [if_neg (by decide +kernel)]; exact ⟨rfl, rfl⟩))
    (fun os started H enc _ => lifted os started H enc)
theorem proved : Rows.StyleInitialsCardSaid :=
  Claim7.holds_tied_plain_at .later [] [.data] true (true, "8803c00e7138e1aef51d7f41192725135745406750c57e70bdded4c70479a1da") false
    over (fun _ h => by cases h) (by kernel_rfl) (fun _ h => by cases h) styleInitials_row_tie rfl ⟨rfl, rfl⟩ (by kernel_rfl) rfl
    (fun f fn hf hfn => by
      obtain rfl : f = 3 := Option.some.inj ((show Tryd.prog.funcNamed "clerestory/clerestorylaw2.StyleInitials" = some 3 by kernel_rfl).symm.trans hf) |>.symm
      obtain rfl : fn = Tryd.f3 := (Option.some.inj (Tryd.func3.symm.trans hfn)).symm
      refine ⟨by kernel_rfl, fun j t ht => ?_⟩
      have key : (Tryd.f3.params.toList.all fun t => !Tryd.prog.wantsStandIn t) = true := by kernel_rfl
      have := List.all_eq_true.1 key t (by rw [Array.mem_toList_iff]; exact Array.mem_of_getElem? ht)
      exact (show Tryd.prog.wantsStandIn t = false by simpa using this))
    (by kernel_rfl)
#print axioms proved
end Go.Proofs.YtejkloinamgpaaaDoor.styleInitials
