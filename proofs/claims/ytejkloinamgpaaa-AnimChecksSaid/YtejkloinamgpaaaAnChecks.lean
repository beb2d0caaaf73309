/-
  AnimChecks: of every change anim.Check tells what the reference tells; no condition.
-/
import Derived.Test.YtejkloinamgpaaaAnC
import Derived.Test.YtejkloinamgpaaaLift
import Derived.ProofKit
namespace Go.Proofs.Ytejkloinamgpaaa.animChecks
open Go.Eng Go.RowKit Go.ChangeShapes Go.WideShapes Go.ChangeAt
theorem own : ownKnob Try.prog.godebug = none := by kernel_rfl
set_option maxRecDepth 100000 in
set_option linter.unusedVariables false in
theorem lifted (os : Os) (started : os.Started) (H : Type) (enc : TypeId × Value → H) :
    ReturnsInHanded {} Try.checked os 6 .any (Rows.animChecksSpec.pre6 enc Try.prog Try.f6 Rows.animChecksRow.domain false) (Rows.animChecksSpec.post enc Try.prog Try.f6 false true false false) := by
  refine law_lift (C := Try.checked) (tb := 4) own started (by kernel_rfl) Try.func6 (ChangeSpec.witness6 (enc := enc) (C := Try.checked) false ⟨#[], #[.agg #[.int .i64 0, .int .i64 0, .int .i64 0, .bool false, .bool false, .int .i64 0, .int .i64 0, .int .i64 0, .int .i64 0, .int .i64 0, .int .i64 0, .slice none 0 0]], []⟩ 12 (by kernel_rfl) (by kernel_rfl) (by kernel_rfl) (by kernel_rfl)) rfl (fun ds hd => ?_) rfl Try.underlying4 (by kernel_rfl) (by kernel_rfl) ?_
  · have hd : ds.length = 1 := hd
    match ds, hd with
    | [_], _ => rfl
  intro W base args ds p hval hA
  rw [Try.params6] at hA hval
  obtain ⟨v0, vs0, d0, ds0, p0, q0, hargs, rfl, rfl, h0, r0⟩ := trodAll_cons hA
  obtain ⟨rfl, rfl, rfl⟩ := trodAll_nil r0
  obtain rfl : args = #[v0] := by cases args; simp_all
  obtain ⟨x0, hx0⟩ := rep_of_Trod 40 (.pair (.int .i64) (.pair (.int .i64) (.pair (.int .i64) (.pair (.bool) (.pair (.bool) (.pair (.pair (.int .i64) (.pair (.pair (.int .i64) (.pair (.int .i64) (.pair (.int .i64) (.int .i64)))) (.int .i64))) (.slice (.pair (.int .i64) (.pair (.int .i64) (.int .i64)))))))))) (by kernel_rfl) h0
  have dom0 := Rep.dom _ _ _ hx0
  obtain ⟨cs0, rfl, -⟩ := okWide_struct Try.underlying40 (hval 0 40 v0 rfl rfl)
  obtain ⟨l0, rfl⟩ : ∃ l : List Value, cs0 = l.toArray := ⟨cs0.toList, by simp⟩
  have hx0 : Rep (ghostOf W) (.pair (.int .i64) (.pair (.int .i64) (.pair (.int .i64) (.pair (.bool) (.pair (.bool) (.pair (.pair (.int .i64) (.pair (.pair (.int .i64) (.pair (.int .i64) (.pair (.int .i64) (.int .i64)))) (.int .i64))) (.slice (.pair (.int .i64) (.pair (.int .i64) (.int .i64)))))))))) l0 x0 := hx0
  obtain ⟨_, _, rfl, ⟨rfl, _⟩, ⟨_, _, rfl, ⟨rfl, _⟩, ⟨_, _, rfl, ⟨rfl, _⟩, ⟨_, _, rfl, rfl, ⟨_, _, rfl, rfl, ⟨_, _, rfl, ⟨_, _, rfl, ⟨rfl, _⟩, ⟨_, _, rfl, ⟨_, _, rfl, ⟨rfl, _⟩, ⟨_, _, rfl, ⟨rfl, _⟩, ⟨_, _, rfl, ⟨rfl, _⟩, ⟨rfl, _⟩⟩⟩⟩, ⟨rfl, _⟩⟩⟩, ⟨a0, c0, rfl, hm0, hr0⟩⟩⟩⟩⟩⟩⟩ := hx0
  have hR0 : Rep (ghostOf W) (.slice (.pair (.int .i64) (.pair (.int .i64) (.int .i64)))) [.slice a0 (x0.2.2.2.2.2.2).length c0] (x0.2.2.2.2.2.2) := ⟨a0, c0, rfl, hm0, hr0⟩
  exact An.checks_c x0 hR0 W (gh_ghostOf W)
theorem over : Rows.animChecksRow.holds Try.pinned (OpenSpec.ofChange Rows.animChecksSpec) :=
  OpenClaim.holds_of_wide 6 Try.f6 rfl rfl rfl rfl rfl rfl rfl ⟨rfl, rfl, rfl, rfl, rfl⟩ rfl rfl rfl rfl rfl (by kernel_rfl) Try.func6 (by kernel_rfl)
    (of_decide_eq_true (by kernel_rfl)) (by unfold Func.isWrapper; first | (rw [if_pos (by decide +kernel)]; kernel_rfl) | (rw [if_neg (by decide +kernel)]; exact ⟨rfl, rfl⟩))
    (fun os started H enc _ => lifted os started H enc)
theorem proved : Rows.AnimChecksSaid :=
  over
#print axioms proved
end Go.Proofs.Ytejkloinamgpaaa.animChecks
