/-
  HeapAlike: two heaps are alike just where moved they are the same; no condition.
-/
import Derived.Test.YtbifbljdmndjbaaHec
import Derived.Test.YtbifbljdmndjbaaRows
import Derived.ProofKit
namespace Go.Proofs.Ytbifbljdmndjbaa.heapAlike
open Go Go.Eng Go.RowKit Go.ChangeShapes Go.WideShapes Go.ChangeAt Hp
theorem own : ownKnob Try.prog.godebug = none := by kernel_rfl
set_option maxRecDepth 100000 in
set_option linter.unusedVariables false in
theorem lifted (os : Os) (started : os.Started) (H : Type) (enc : TypeId × Value → H) :
    ReturnsInHanded {} Try.checked os 3 .any (Rows.heapAlikeSpec.pre6 enc Try.prog Try.f3 Rows.heapAlikeRow.domain false) (Rows.heapAlikeSpec.post enc Try.prog Try.f3 false true false false) := by
  refine law_lift (C := Try.checked) (tb := 4) own started (by kernel_rfl) Try.func3 (ChangeSpec.witness6 (enc := enc) (C := Try.checked) false ⟨#[], #[.slice none 0 0, .agg #[.int .i64 0, .int .i64 0, .string ⟨⟨([] : List UInt8)⟩⟩], .slice none 0 0, .agg #[.int .i64 0, .int .i64 0, .string ⟨⟨([] : List UInt8)⟩⟩]], []⟩ 12 (by kernel_rfl) (by kernel_rfl) (by kernel_rfl) (by kernel_rfl)) rfl (fun ds hd => ?_) rfl Try.underlying4 (by kernel_rfl) (by kernel_rfl) ?_
  · have hd : ds.length = 4 := hd
    match ds, hd with
    | [_, _, _, _], _ => rfl
  intro W base args ds p hsh hval hA hsz
  rw [Try.params3] at hA hval hsz
  obtain ⟨v0, vs0, d0, ds0, p0, q0, hargs, rfl, rfl, h0, r0⟩ := trodAll_cons hA
  obtain ⟨v1, vs1, d1, ds1, p1, q1, rfl, rfl, rfl, h1, r1⟩ := trodAll_cons r0
  obtain ⟨v2, vs2, d2, ds2, p2, q2, rfl, rfl, rfl, h2, r2⟩ := trodAll_cons r1
  obtain ⟨v3, vs3, d3, ds3, p3, q3, rfl, rfl, rfl, h3, r3⟩ := trodAll_cons r2
  obtain ⟨rfl, rfl, rfl⟩ := trodAll_nil r3
  obtain rfl : args = #[v0, v1, v2, v3] := by cases args; simp_all
  obtain ⟨x0, hx0, dom0⟩ := rep_of_TrodS 40 (.slice (.pair (.int .i64) (.pair (.slice (.str)) (.slice (.pair (.int .i64) (.pair (.int .i64) (.str))))))) (by kernel_rfl) (by kernel_rfl) h0 (weight_at hsz 0 rfl rfl)
  obtain ⟨a0, l0, c0, rfl⟩ := okWide_slice Try.underlying22 (hval 0 22 v0 rfl rfl)
  obtain ⟨_, _, hcs, hr0⟩ := hx0
  simp only [Value.cells, List.cons.injEq, Value.slice.injEq, and_true] at hcs
  obtain ⟨rfl, rfl, rfl⟩ := hcs
  have hR0 : Rep (ghostOf W) (.slice (.pair (.int .i64) (.pair (.slice (.str)) (.slice (.pair (.int .i64) (.pair (.int .i64) (.str))))))) [.slice a0 x0.length c0] x0 := ⟨_, _, rfl, hr0⟩
  obtain ⟨x1, hx1, dom1⟩ := rep_of_TrodS 40 (.pair (.int .i64) (.pair (.int .i64) (.str))) (by kernel_rfl) (by kernel_rfl) h1 (weight_at hsz 1 rfl rfl)
  obtain ⟨cs1, rfl, -⟩ := okWide_struct Try.underlying24 (hval 1 24 v1 rfl rfl)
  obtain ⟨l1, rfl⟩ : ∃ l : List Value, cs1 = l.toArray := ⟨cs1.toList, by simp⟩
  have hx1 : Rep (ghostOf W) (.pair (.int .i64) (.pair (.int .i64) (.str))) l1 x1 := hx1
  obtain ⟨_, _, rfl, rfl, ⟨_, _, rfl, rfl, rfl⟩⟩ := hx1
  obtain ⟨x2, hx2, dom2⟩ := rep_of_TrodS 40 (.slice (.pair (.int .i64) (.pair (.slice (.str)) (.slice (.pair (.int .i64) (.pair (.int .i64) (.str))))))) (by kernel_rfl) (by kernel_rfl) h2 (weight_at hsz 2 rfl rfl)
  obtain ⟨a1, l1, c1, rfl⟩ := okWide_slice Try.underlying22 (hval 2 22 v2 rfl rfl)
  obtain ⟨_, _, hcs, hr1⟩ := hx2
  simp only [Value.cells, List.cons.injEq, Value.slice.injEq, and_true] at hcs
  obtain ⟨rfl, rfl, rfl⟩ := hcs
  have hR1 : Rep (ghostOf W) (.slice (.pair (.int .i64) (.pair (.slice (.str)) (.slice (.pair (.int .i64) (.pair (.int .i64) (.str))))))) [.slice a1 x2.length c1] x2 := ⟨_, _, rfl, hr1⟩
  obtain ⟨x3, hx3, dom3⟩ := rep_of_TrodS 40 (.pair (.int .i64) (.pair (.int .i64) (.str))) (by kernel_rfl) (by kernel_rfl) h3 (weight_at hsz 3 rfl rfl)
  obtain ⟨cs3, rfl, -⟩ := okWide_struct Try.underlying24 (hval 3 24 v3 rfl rfl)
  obtain ⟨l3, rfl⟩ : ∃ l : List Value, cs3 = l.toArray := ⟨cs3.toList, by simp⟩
  have hx3 : Rep (ghostOf W) (.pair (.int .i64) (.pair (.int .i64) (.str))) l3 x3 := hx3
  obtain ⟨_, _, rfl, rfl, ⟨_, _, rfl, rfl, rfl⟩⟩ := hx3
  exact Hp.lha_c x0 x1 x2 x3 hR0 hR1 ⟨dom0, dom1, dom2, dom3⟩ W (gh_ghostOf W)
theorem named : Try.prog.funcNamed Rows.heapAlikeRow.func = some 3 := by kernel_rfl
set_option maxHeartbeats 4000000 in
set_option maxRecDepth 100000 in
theorem closed : joinedFacts Try.prog 3 Try.f3 Rows.heapAlikeSpec Rows.heapAlikeRow = true := by
  unfold joinedFacts
  repeat' (with_reducible refine (Bool.and_eq_true _ _).mpr ⟨?_, ?_⟩)
  all_goals as_aux_lemma => kernel_rfl
theorem over : Rows.heapAlikeRow.holds Try.pinned (OpenSpec.ofChange Rows.heapAlikeSpec) :=
  OpenClaim.holds_of_wide 3 Try.f3 rfl rfl rfl rfl rfl rfl rfl ⟨rfl, rfl, rfl, rfl, rfl⟩ rfl rfl rfl rfl rfl named Try.func3 closed
    (of_decide_eq_true (by kernel_rfl)) (by unfold Func.isWrapper; first | (rw [if_pos (by decide +kernel)]; kernel_rfl) | (rw [if_neg (by decide +kernel)]; exact ⟨rfl, rfl⟩))
    (fun os started H enc _ => lifted os started H enc)
theorem proved : Rows.HeapAlikeSaid :=
  over
#print axioms proved
end Go.Proofs.Ytbifbljdmndjbaa.heapAlike
