/-
  AnimMixes: of every change anim.Check tells what the reference tells; no condition.
-/
import Derived.Test.YtejkloinamgpaaaAnD
import Derived.Test.YtejkloinamgpaaaLift
import Derived.ProofKit
namespace Go.Proofs.Ytejkloinamgpaaa.animMixes
open Go.Eng Go.RowKit Go.ChangeShapes Go.WideShapes Go.ChangeAt
theorem own : ownKnob Try.prog.godebug = none := by kernel_rfl
set_option maxRecDepth 100000 in
set_option linter.unusedVariables false in
theorem lifted (os : Os) (started : os.Started) (H : Type) (enc : TypeId × Value → H) :
    ReturnsInHanded {} Try.checked os 7 .any (Rows.animMixesSpec.pre6 enc Try.prog Try.f7 Rows.animMixesRow.domain false) (Rows.animMixesSpec.post enc Try.prog Try.f7 false true false false) := by
  refine law_lift (C := Try.checked) (tb := 4) own started (by kernel_rfl) Try.func7 (ChangeSpec.witness6 (enc := enc) (C := Try.checked) false ⟨#[], #[.agg #[.int .i64 0, .int .i64 0], .agg #[.int .i64 0, .int .i64 0], .int .i64 0], []⟩ 12 (by kernel_rfl) (by kernel_rfl) (by kernel_rfl) (by kernel_rfl)) rfl (fun ds hd => ?_) rfl Try.underlying4 (by kernel_rfl) (by kernel_rfl) ?_
  · have hd : ds.length = 3 := hd
    match ds, hd with
    | [_, _, _], _ => rfl
  intro W base args ds p hval hA
  rw [Try.params7] at hA hval
  obtain ⟨v0, vs0, d0, ds0, p0, q0, hargs, rfl, rfl, h0, r0⟩ := trodAll_cons hA
  obtain ⟨v1, vs1, d1, ds1, p1, q1, rfl, rfl, rfl, h1, r1⟩ := trodAll_cons r0
  obtain ⟨v2, vs2, d2, ds2, p2, q2, rfl, rfl, rfl, h2, r2⟩ := trodAll_cons r1
  obtain ⟨rfl, rfl, rfl⟩ := trodAll_nil r2
  obtain rfl : args = #[v0, v1, v2] := by cases args; simp_all
  obtain ⟨x0, hx0⟩ := rep_of_Trod 40 (.pair (.int .i64) (.int .i64)) (by kernel_rfl) h0
  have dom0 := Rep.dom _ _ _ hx0
  obtain ⟨cs0, rfl, -⟩ := okWide_struct Try.underlying44 (hval 0 44 v0 rfl rfl)
  obtain ⟨l0, rfl⟩ : ∃ l : List Value, cs0 = l.toArray := ⟨cs0.toList, by simp⟩
  have hx0 : Rep (ghostOf W) (.pair (.int .i64) (.int .i64)) l0 x0 := hx0
  obtain ⟨_, _, rfl, ⟨rfl, _⟩, ⟨rfl, _⟩⟩ := hx0
  obtain ⟨x1, hx1⟩ := rep_of_Trod 40 (.pair (.int .i64) (.int .i64)) (by kernel_rfl) h1
  have dom1 := Rep.dom _ _ _ hx1
  obtain ⟨cs1, rfl, -⟩ := okWide_struct Try.underlying44 (hval 1 44 v1 rfl rfl)
  obtain ⟨l1, rfl⟩ : ∃ l : List Value, cs1 = l.toArray := ⟨cs1.toList, by simp⟩
  have hx1 : Rep (ghostOf W) (.pair (.int .i64) (.int .i64)) l1 x1 := hx1
  obtain ⟨_, _, rfl, ⟨rfl, _⟩, ⟨rfl, _⟩⟩ := hx1
  obtain ⟨x2, rfl, rfl, rfl, w2⟩ := open_int Try.underlying3 (hval 2 3 v2 rfl rfl) h2
  exact An.mixes_c x0 x1 x2  W (gh_ghostOf W)
theorem over : Rows.animMixesRow.holds Try.pinned (OpenSpec.ofChange Rows.animMixesSpec) :=
  OpenClaim.holds_of_wide 7 Try.f7 rfl rfl rfl rfl rfl rfl rfl ⟨rfl, rfl, rfl, rfl, rfl⟩ rfl rfl rfl rfl rfl (by kernel_rfl) Try.func7 (by kernel_rfl)
    (of_decide_eq_true (by kernel_rfl)) (by unfold Func.isWrapper; first | (rw [if_pos (by decide +kernel)]; kernel_rfl) | (rw [if_neg (by decide +kernel)]; exact ⟨rfl, rfl⟩))
    (fun os started H enc _ => lifted os started H enc)
theorem proved : Rows.AnimMixesSaid :=
  over
#print axioms proved
end Go.Proofs.Ytejkloinamgpaaa.animMixes
