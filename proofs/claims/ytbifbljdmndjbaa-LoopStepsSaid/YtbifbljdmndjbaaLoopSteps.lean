/-
 LoopSteps: Check, Ask and Next answer what the document says; no condition.
-/
import Derived.Test.YtbifbljdmndjbaaLog
import Derived.Test.YtbifbljdmndjbaaRows
import Derived.ProofKit
namespace Go.Proofs.Ytbifbljdmndjbaa.loopSteps
open Go Go.Eng Go.RowKit Go.ChangeShapes Go.WideShapes Go.ChangeAt Lo
theorem own : ownKnob Try.prog.godebug = none := by kernel_rfl
set_option maxRecDepth 100000 in
set_option linter.unusedVariables false in
theorem lifted (os : Os) (started : os.Started) (H : Type) (enc : TypeId × Value → H) :
  ReturnsInHanded {} Try.checked os 4 .any (Rows.loopStepsSpec.pre6 enc Try.prog Try.f4 Rows.loopStepsRow.domain false) (Rows.loopStepsSpec.post enc Try.prog Try.f4 false true false false) := by
 refine law_lift (C := Try.checked) (tb := 4) own started (by kernel_rfl) Try.func4 (ChangeSpec.witness6 (enc := enc) (C := Try.checked) false ⟨#[], #[.agg #[.int .i64 0, .int .i64 0, .slice none 0 0, .slice none 0 0, .slice none 0 0], .agg #[.int .i64 0, .int .i64 0, .int .i64 0, .string ⟨⟨([] : List UInt8)⟩⟩, .int .i64 0, .int .i64 0, .string ⟨⟨([] : List UInt8)⟩⟩], .int .i64 0], []⟩ 12 (by kernel_rfl) (by kernel_rfl) (by kernel_rfl) (by kernel_rfl)) rfl (fun ds hd => ?_) rfl Try.underlying4 (by kernel_rfl) (by kernel_rfl) ?_
 ·have hd : ds.length = 3 := hd
  match ds, hd with
  | [_, _, _], _ => rfl
 intro W base args ds p hsh hval hA hsz
 rw [Try.params4] at hA hval hsz
 obtain ⟨v0, vs0, d0, ds0, p0, q0, hargs, rfl, rfl, h0, r0⟩ := trodAll_cons hA
 obtain ⟨v1, vs1, d1, ds1, p1, q1, rfl, rfl, rfl, h1, r1⟩ := trodAll_cons r0
 obtain ⟨v2, vs2, d2, ds2, p2, q2, rfl, rfl, rfl, h2, r2⟩ := trodAll_cons r1
 obtain ⟨rfl, rfl, rfl⟩ := trodAll_nil r2
 obtain rfl : args = #[v0, v1, v2] := by cases args; simp_all
 obtain ⟨x0, hx0, dom0⟩ := rep_of_TrodS 40 (.pair (.int .i64) (.pair (.int .i64) (.pair (.slice (.pair (.int .i64) (.pair (.int .i64) (.pair (.bool) (.pair (.str) (.pair (.int .i64) (.pair (.int .i64) (.str)))))))) (.pair (.slice (.pair (.int .i64) (.pair (.int .i64) (.pair (.bool) (.pair (.str) (.pair (.int .i64) (.pair (.int .i64) (.str)))))))) (.slice (.pair (.int .i64) (.pair (.int .i64) (.pair (.int .i64) (.pair (.int .i64) (.str)))))))))) (by kernel_rfl) (by kernel_rfl) h0 (weight_at hsz 0 rfl rfl)
 obtain ⟨cs0, rfl, -⟩ := okWide_struct Try.underlying37 (hval 0 37 v0 rfl rfl)
 obtain ⟨l0, rfl⟩ : ∃ l : List Value, cs0 = l.toArray := ⟨cs0.toList, by simp⟩
 have hx0 : Rep (ghostOf W) (.pair (.int .i64) (.pair (.int .i64) (.pair (.slice (.pair (.int .i64) (.pair (.int .i64) (.pair (.bool) (.pair (.str) (.pair (.int .i64) (.pair (.int .i64) (.str)))))))) (.pair (.slice (.pair (.int .i64) (.pair (.int .i64) (.pair (.bool) (.pair (.str) (.pair (.int .i64) (.pair (.int .i64) (.str)))))))) (.slice (.pair (.int .i64) (.pair (.int .i64) (.pair (.int .i64) (.pair (.int .i64) (.str)))))))))) l0 x0 := hx0
 obtain ⟨_, _, rfl, rfl, ⟨_, _, rfl, rfl, ⟨_, _, rfl, ⟨a0, c0, rfl, hm0, hr0⟩, ⟨_, _, rfl, ⟨a1, c1, rfl, hm1, hr1⟩, ⟨a2, c2, rfl, hm2, hr2⟩⟩⟩⟩⟩ := hx0
 have hR0 : Rep (ghostOf W) (.slice (.pair (.int .i64) (.pair (.int .i64) (.pair (.bool) (.pair (.str) (.pair (.int .i64) (.pair (.int .i64) (.str)))))))) [.slice a0 (x0.2.2.1).length c0] (x0.2.2.1) := ⟨a0, c0, rfl, hm0, hr0⟩
 have hR1 : Rep (ghostOf W) (.slice (.pair (.int .i64) (.pair (.int .i64) (.pair (.bool) (.pair (.str) (.pair (.int .i64) (.pair (.int .i64) (.str)))))))) [.slice a1 (x0.2.2.2.1).length c1] (x0.2.2.2.1) := ⟨a1, c1, rfl, hm1, hr1⟩
 have hR2 : Rep (ghostOf W) (.slice (.pair (.int .i64) (.pair (.int .i64) (.pair (.int .i64) (.pair (.int .i64) (.str)))))) [.slice a2 (x0.2.2.2.2).length c2] (x0.2.2.2.2) := ⟨a2, c2, rfl, hm2, hr2⟩
 obtain ⟨x1, hx1, dom1⟩ := rep_of_TrodS 40 (.pair (.int .i64) (.pair (.int .i64) (.pair (.int .i64) (.pair (.str) (.pair (.int .i64) (.pair (.int .i64) (.str))))))) (by kernel_rfl) (by kernel_rfl) h1 (weight_at hsz 1 rfl rfl)
 obtain ⟨cs1, rfl, -⟩ := okWide_struct Try.underlying39 (hval 1 39 v1 rfl rfl)
 obtain ⟨l1, rfl⟩ : ∃ l : List Value, cs1 = l.toArray := ⟨cs1.toList, by simp⟩
 have hx1 : Rep (ghostOf W) (.pair (.int .i64) (.pair (.int .i64) (.pair (.int .i64) (.pair (.str) (.pair (.int .i64) (.pair (.int .i64) (.str))))))) l1 x1 := hx1
 obtain ⟨_, _, rfl, rfl, ⟨_, _, rfl, rfl, ⟨_, _, rfl, rfl, ⟨_, _, rfl, rfl, ⟨_, _, rfl, rfl, ⟨_, _, rfl, rfl, rfl⟩⟩⟩⟩⟩⟩ := hx1
 obtain ⟨x2, rfl, rfl, rfl, w2⟩ := open_int Try.underlying3 (hval 2 3 v2 rfl rfl) h2
 exact Lo.lls_c x0 x1 x2 hR0 hR1 hR2 ⟨dom0, dom1, w2⟩ W (gh_ghostOf W)
theorem named : Try.prog.funcNamed Rows.loopStepsRow.func = some 4 := by kernel_rfl
set_option maxHeartbeats 4000000 in
set_option maxRecDepth 100000 in
theorem closed : joinedFacts Try.prog 4 Try.f4 Rows.loopStepsSpec Rows.loopStepsRow = true := by
 unfold joinedFacts
 repeat' (with_reducible refine (Bool.and_eq_true _ _).mpr ⟨?_, ?_⟩)
 all_goals as_aux_lemma => kernel_rfl
theorem over : Rows.loopStepsRow.holds Try.pinned (OpenSpec.ofChange Rows.loopStepsSpec) :=
 OpenClaim.holds_of_wide 4 Try.f4 rfl rfl rfl rfl rfl rfl rfl ⟨rfl, rfl, rfl, rfl, rfl⟩ rfl rfl rfl rfl rfl named Try.func4 closed
  (of_decide_eq_true (by kernel_rfl)) (by unfold Func.isWrapper; first | (rw [if_pos (by decide +kernel)]; kernel_rfl) | (rw [if_neg (by decide +kernel)]; exact ⟨rfl, rfl⟩))
  (fun os started H enc _ => lifted os started H enc)
theorem proved : Rows.LoopStepsSaid :=
 over
#print axioms proved
end Go.Proofs.Ytbifbljdmndjbaa.loopSteps
