/-
 LoopPlays: Play answers what the document says; no condition.
-/
import Derived.Test.YtbifbljdmndjbaaLps
import Derived.Test.YtbifbljdmndjbaaRows
import Derived.ProofKit
namespace Go.Proofs.Ytbifbljdmndjbaa.loopPlays
open Go Go.Eng Go.RowKit Go.ChangeShapes Go.WideShapes Go.ChangeAt Lo
theorem own : ownKnob Try.prog.godebug = none := by kernel_rfl
set_option maxRecDepth 100000 in
set_option linter.unusedVariables false in
theorem lifted (os : Os) (started : os.Started) (H : Type) (enc : TypeId × Value → H) :
  ReturnsInHanded {} Try.checked os 5 .any (Rows.loopPlaysSpec.pre6 enc Try.prog Try.f5 Rows.loopPlaysRow.domain false) (Rows.loopPlaysSpec.post enc Try.prog Try.f5 false true false false) := by
 refine law_lift (C := Try.checked) (tb := 4) own started (by kernel_rfl) Try.func5 (ChangeSpec.witness6 (enc := enc) (C := Try.checked) false ⟨#[], #[.slice none 0 0], []⟩ 12 (by kernel_rfl) (by kernel_rfl) (by kernel_rfl) (by kernel_rfl)) rfl (fun ds hd => ?_) rfl Try.underlying4 (by kernel_rfl) (by kernel_rfl) ?_
 ·have hd : ds.length = 1 := hd
  match ds, hd with
  | [_], _ => rfl
 intro W base args ds p hsh hval hA hsz
 rw [Try.params5] at hA hval hsz
 obtain ⟨v0, vs0, d0, ds0, p0, q0, hargs, rfl, rfl, h0, r0⟩ := trodAll_cons hA
 obtain ⟨rfl, rfl, rfl⟩ := trodAll_nil r0
 obtain rfl : args = #[v0] := by cases args; simp_all
 obtain ⟨x0, hx0, dom0⟩ := rep_of_TrodS 40 (.slice (.pair (.int .i64) (.pair (.int .i64) (.pair (.int .i64) (.pair (.str) (.pair (.int .i64) (.pair (.int .i64) (.str)))))))) (by kernel_rfl) (by kernel_rfl) h0 (weight_at hsz 0 rfl rfl)
 obtain ⟨a0, l0, c0, rfl⟩ := okWide_slice Try.underlying52 (hval 0 52 v0 rfl rfl)
 obtain ⟨_, _, hcs, hr0⟩ := hx0
 simp only [Value.cells, List.cons.injEq, Value.slice.injEq, and_true] at hcs
 obtain ⟨rfl, rfl, rfl⟩ := hcs
 have hR0 : Rep (ghostOf W) (.slice (.pair (.int .i64) (.pair (.int .i64) (.pair (.int .i64) (.pair (.str) (.pair (.int .i64) (.pair (.int .i64) (.str)))))))) [.slice a0 x0.length c0] x0 := ⟨_, _, rfl, hr0⟩
 exact Lo.llp_c x0 hR0 dom0 W (gh_ghostOf W)
theorem named : Try.prog.funcNamed Rows.loopPlaysRow.func = some 5 := by kernel_rfl
set_option maxHeartbeats 4000000 in
set_option maxRecDepth 100000 in
theorem closed : joinedFacts Try.prog 5 Try.f5 Rows.loopPlaysSpec Rows.loopPlaysRow = true := by
 unfold joinedFacts
 repeat' (with_reducible refine (Bool.and_eq_true _ _).mpr ⟨?_, ?_⟩)
 all_goals as_aux_lemma => kernel_rfl
theorem over : Rows.loopPlaysRow.holds Try.pinned (OpenSpec.ofChange Rows.loopPlaysSpec) :=
 OpenClaim.holds_of_wide 5 Try.f5 rfl rfl rfl rfl rfl rfl rfl ⟨rfl, rfl, rfl, rfl, rfl⟩ rfl rfl rfl rfl rfl named Try.func5 closed
  (of_decide_eq_true (by kernel_rfl)) (by unfold Func.isWrapper; first | (rw [if_pos (by decide +kernel)]; kernel_rfl) | (rw [if_neg (by decide +kernel)]; exact ⟨rfl, rfl⟩))
  (fun os started H enc _ => lifted os started H enc)
theorem proved : Rows.LoopPlaysSaid :=
 over
#print axioms proved
end Go.Proofs.Ytbifbljdmndjbaa.loopPlays
