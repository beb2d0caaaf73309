/-
  CascadeOrders: any that are given, in their order; no condition.
-/
import Derived.Test.YtjkimpnppldekaaCao
import Derived.Test.YtjkimpnppldekaaLift
import Derived.Test.YtjkimpnppldekaaRows
import Derived.ProofKit
namespace Go.Proofs.Ytjkimpnppldekaa.cascadeOrders
open Go Go.Eng Go.RowKit Go.ChangeShapes Go.WideShapes Go.ChangeAt Ca
theorem own : ownKnob Try.prog.godebug = none := by kernel_rfl
set_option maxRecDepth 100000 in
set_option linter.unusedVariables false in
theorem lifted (os : Os) (started : os.Started) (H : Type) (enc : TypeId × Value → H) :
    ReturnsInHanded {} Try.checked os 3 .any (Rows.cascadeOrdersSpec.pre6 enc Try.prog Try.f3 Rows.cascadeOrdersRow.domain false) (Rows.cascadeOrdersSpec.post enc Try.prog Try.f3 false true false false) := by
  refine law_lift (C := Try.checked) (tb := 4) own started (by kernel_rfl) Try.func3 (ChangeSpec.witness6 (enc := enc) (C := Try.checked) false ⟨#[], #[.slice none 0 0], []⟩ 12 (by kernel_rfl) (by kernel_rfl) (by kernel_rfl) (by kernel_rfl)) rfl (fun ds hd => ?_) rfl Try.underlying4 (by kernel_rfl) (by kernel_rfl) ?_
  · have hd : ds.length = 1 := hd
    match ds, hd with
    | [_], _ => rfl
  intro W base args ds p hsh hval hA hsz
  rw [Try.params3] at hA hval hsz
  obtain ⟨v0, vs0, d0, ds0, p0, q0, hargs, rfl, rfl, h0, r0⟩ := trodAll_cons hA
  obtain ⟨rfl, rfl, rfl⟩ := trodAll_nil r0
  obtain rfl : args = #[v0] := by cases args; simp_all
  obtain ⟨x0, hx0, dom0⟩ := rep_of_TrodS 40 (.slice (.pair (.str) (.pair (.str) (.pair (.int .i64) (.pair (.bool) (.pair (.int .i64) (.int .i64))))))) (by kernel_rfl) (by kernel_rfl) h0 (weight_at hsz 0 rfl rfl)
  obtain ⟨a0, l0, c0, rfl⟩ := okWide_slice Try.underlying22 (hval 0 22 v0 rfl rfl)
  obtain ⟨_, _, hcs, hr0⟩ := hx0
  simp only [Value.cells, List.cons.injEq, Value.slice.injEq, and_true] at hcs
  obtain ⟨rfl, rfl, rfl⟩ := hcs
  have hR0 : Rep (ghostOf W) (.slice (.pair (.str) (.pair (.str) (.pair (.int .i64) (.pair (.bool) (.pair (.int .i64) (.int .i64))))))) [.slice a0 x0.length c0] x0 := ⟨_, _, rfl, hr0⟩
  exact Ca.ords_c x0 hR0 W (gh_ghostOf W)
theorem named : Try.prog.funcNamed Rows.cascadeOrdersRow.func = some 3 := by kernel_rfl
set_option maxHeartbeats 4000000 in
set_option maxRecDepth 100000 in
theorem closed : joinedFacts Try.prog 3 Try.f3 Rows.cascadeOrdersSpec Rows.cascadeOrdersRow = true := by
  unfold joinedFacts
  repeat' (with_reducible refine (Bool.and_eq_true _ _).mpr ⟨?_, ?_⟩)
  all_goals as_aux_lemma => kernel_rfl
theorem over : Rows.cascadeOrdersRow.holds Try.pinned (OpenSpec.ofChange Rows.cascadeOrdersSpec) :=
  OpenClaim.holds_of_wide 3 Try.f3 rfl rfl rfl rfl rfl rfl rfl ⟨rfl, rfl, rfl, rfl, rfl⟩ rfl rfl rfl rfl rfl named Try.func3 closed
    (of_decide_eq_true (by kernel_rfl)) (by unfold Func.isWrapper; first | (rw [if_pos (by decide +kernel)]; kernel_rfl) | (rw [if_neg (by decide +kernel)]; exact ⟨rfl, rfl⟩))
    (fun os started H enc _ => lifted os started H enc)
theorem proved : Rows.CascadeOrdersSaid :=
  over
#print axioms proved
end Go.Proofs.Ytjkimpnppldekaa.cascadeOrders
