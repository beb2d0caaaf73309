/-
  AnimTells: anim.At tells what the reference tells; no condition.
-/
import Derived.Test.YtejkloinamgpaaaAnE
import Derived.Test.YtejkloinamgpaaaLift
import Derived.ProofKit
namespace Go.Proofs.Ytejkloinamgpaaa.animTells
open Go.Eng Go.RowKit Go.ChangeShapes Go.WideShapes Go.ChangeAt
theorem own : ownKnob Try.prog.godebug = none := by kernel_rfl
set_option maxRecDepth 100000 in
set_option linter.unusedVariables false in
theorem lifted (os : Os) (started : os.Started) (H : Type) (enc : TypeId × Value → H) :
    ReturnsInHanded {} Try.checked os 9 .any (Rows.animTellsSpec.pre6 enc Try.prog Try.f9 Rows.animTellsRow.domain false) (Rows.animTellsSpec.post enc Try.prog Try.f9 false true false false) := by
  refine law_lift (C := Try.checked) (tb := 4) own started (by kernel_rfl) Try.func9 (ChangeSpec.witness6 (enc := enc) (C := Try.checked) false ⟨#[], #[.slice none 0 0, .agg #[.int .i64 0, .int .i64 0], .int .i64 0], []⟩ 12 (by kernel_rfl) (by kernel_rfl) (by kernel_rfl) (by kernel_rfl)) rfl (fun ds hd => ?_) rfl Try.underlying4 (by kernel_rfl) (by kernel_rfl) ?_
  · have hd : ds.length = 3 := hd
    match ds, hd with
    | [_, _, _], _ => rfl
  intro W base args ds p hval hA
  rw [Try.params9] at hA hval
  obtain ⟨v0, vs0, d0, ds0, p0, q0, hargs, rfl, rfl, h0, r0⟩ := trodAll_cons hA
  obtain ⟨v1, vs1, d1, ds1, p1, q1, rfl, rfl, rfl, h1, r1⟩ := trodAll_cons r0
  obtain ⟨v2, vs2, d2, ds2, p2, q2, rfl, rfl, rfl, h2, r2⟩ := trodAll_cons r1
  obtain ⟨rfl, rfl, rfl⟩ := trodAll_nil r2
  obtain rfl : args = #[v0, v1, v2] := by cases args; simp_all
  obtain ⟨x0, hx0⟩ := rep_of_Trod 40 (.slice (.pair (.int .i64) (.pair (.int .i64) (.pair (.int .i64) (.pair (.bool) (.pair (.bool) (.pair (.pair (.int .i64) (.pair (.pair (.int .i64) (.pair (.int .i64) (.pair (.int .i64) (.int .i64)))) (.int .i64))) (.slice (.pair (.int .i64) (.pair (.int .i64) (.int .i64))))))))))) (by kernel_rfl) h0
  have dom0 := Rep.dom _ _ _ hx0
  obtain ⟨a0, l0, c0, rfl⟩ := okWide_slice Try.underlying54 (hval 0 54 v0 rfl rfl)
  obtain ⟨_, _, hcs, hr0⟩ := hx0
  simp only [Value.cells, List.cons.injEq, Value.slice.injEq, and_true] at hcs
  obtain ⟨rfl, rfl, rfl⟩ := hcs
  have hR0 : Rep (ghostOf W) (.slice (.pair (.int .i64) (.pair (.int .i64) (.pair (.int .i64) (.pair (.bool) (.pair (.bool) (.pair (.pair (.int .i64) (.pair (.pair (.int .i64) (.pair (.int .i64) (.pair (.int .i64) (.int .i64)))) (.int .i64))) (.slice (.pair (.int .i64) (.pair (.int .i64) (.int .i64))))))))))) [.slice a0 x0.length c0] x0 := ⟨_, _, rfl, hr0⟩
  obtain ⟨x1, hx1⟩ := rep_of_Trod 40 (.pair (.int .i64) (.int .i64)) (by kernel_rfl) h1
  have dom1 := Rep.dom _ _ _ hx1
  obtain ⟨cs1, rfl, -⟩ := okWide_struct Try.underlying44 (hval 1 44 v1 rfl rfl)
  obtain ⟨l1, rfl⟩ : ∃ l : List Value, cs1 = l.toArray := ⟨cs1.toList, by simp⟩
  have hx1 : Rep (ghostOf W) (.pair (.int .i64) (.int .i64)) l1 x1 := hx1
  obtain ⟨_, _, rfl, ⟨rfl, _⟩, ⟨rfl, _⟩⟩ := hx1
  obtain ⟨x2, rfl, rfl, rfl, w2⟩ := open_int Try.underlying3 (hval 2 3 v2 rfl rfl) h2
  exact An.atells_c x0 x1 x2 hR0 W (gh_ghostOf W)
theorem over : Rows.animTellsRow.holds Try.pinned (OpenSpec.ofChange Rows.animTellsSpec) :=
  OpenClaim.holds_of_wide 9 Try.f9 rfl rfl rfl rfl rfl rfl rfl ⟨rfl, rfl, rfl, rfl, rfl⟩ rfl rfl rfl rfl rfl (by kernel_rfl) Try.func9 (by kernel_rfl)
    (of_decide_eq_true (by kernel_rfl)) (by unfold Func.isWrapper; first | (rw [if_pos (by decide +kernel)]; kernel_rfl) | (rw [if_neg (by decide +kernel)]; exact ⟨rfl, rfl⟩))
    (fun os started H enc _ => lifted os started H enc)
theorem proved : Rows.AnimTellsSaid :=
  over
#print axioms proved
end Go.Proofs.Ytejkloinamgpaaa.animTells
