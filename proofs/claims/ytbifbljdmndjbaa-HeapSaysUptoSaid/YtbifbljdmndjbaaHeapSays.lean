/-
  HeapSays: Check, Reach, Sweep and Move answer what the document says; where what is handed in is of bulk at most 1048576.
-/
import Derived.Test.YtbifbljdmndjbaaHsb
import Derived.Test.YtbifbljdmndjbaaUp
import Derived.Test.YtbifbljdmndjbaaRows
import Derived.ProofKit
import Derived.Deep.DeepWitnessRowRef
import Derived.Great.CaseRows
import Derived.Lib.LaidIn
namespace Go.Proofs.Ytbifbljdmndjbaa.heapSays
open Go Go.Eng Go.Lib Go.Proofs Go.RowKit Go.ChangeShapes Go.WideShapes Go.ChangeAt Hp
theorem own : ownKnob Try.prog.godebug = none := by kernel_rfl
set_option maxRecDepth 100000 in
noncomputable def laidWorld (os : Os) : World :=
  let w0 := World.holding Try.prog os ⟨#[], #[], []⟩
  { w0 with heap := w0.heap }
set_option maxRecDepth 100000 in
theorem laid_met (os : Os) (args : Array Value) : laidMet Try.prog Rows.heapSaysUptoRow.laid ((laidWorld os).forCall (fun _ _ => 0) ⟨#[], args, []⟩).memory :=
  laidMet_of_run' 12 (by kernel_rfl) (by kernel_rfl)
theorem reads (os : Os) {H : Type} (enc : TypeId × Value → H) : DataW.whole enc Try.prog ((laidWorld os).forCall (fun _ _ => 0) ⟨#[], #[.slice none 0 0, .slice none 0 0], []⟩).memory Try.f6.params.toList Rows.heapSaysSpec.vars false #[.slice none 0 0, .slice none 0 0].toList 40 = some ([.nil, .nil], [], []) := by kernel_rfl
set_option maxRecDepth 100000 in
set_option linter.unusedVariables false in
theorem lifted (os : Os) (started : os.Started) (H : Type) (enc : TypeId × Value → H) (F : Stop.Interp) :
    ReturnsInHanded {} Try.checked os 6 .any ((Rows.OpenSpec.upto Rows.heapSaysSpec).preRow enc Try.prog Try.f6 Rows.heapSaysUptoRow.domain false Rows.heapSaysUptoRow.laid) (((Rows.OpenSpec.upto Rows.heapSaysSpec).at F).post enc Try.prog Try.f6 false true false false) := by
  refine law_lift_row (C := Try.checked) (s := Rows.OpenSpec.upto Rows.heapSaysSpec) (sp := Rows.heapSaysSpec) (tb := 4) own started (by kernel_rfl) Try.func6 (witness_row_at (enc := enc) (C := Try.checked) false (laidWorld os) #[.slice none 0 0, .slice none 0 0] rfl (by kernel_rfl) (by kernel_rfl) (by kernel_rfl) (OpenSpec.preRow_of_cond 40 (reads os enc) (by kernel_rfl) (fun k hk => by cases hk; kernel_rfl) (by kernel_rfl) (laid_met os _))) rfl rfl rfl rfl (fun ds hd => ?_) rfl Try.underlying4 (by kernel_rfl) (by kernel_rfl) (by kernel_rfl) ?_
  · have hd : ds.length = 2 := hd
    match ds, hd with
    | [_, _], _ => rfl
  intro W base args ds p hsh hL hval hA hsz hk
  have hu : Rows.uptoSmall H ds = true := hk _ rfl
  rw [Try.params6] at hA hval hsz
  obtain ⟨v0, vs0, d0, ds0, p0, q0, hargs, rfl, rfl, h0, r0⟩ := trodAll_cons hA
  obtain ⟨v1, vs1, d1, ds1, p1, q1, rfl, rfl, rfl, h1, r1⟩ := trodAll_cons r0
  obtain ⟨rfl, rfl, rfl⟩ := trodAll_nil r1
  obtain rfl : args = #[v0, v1] := by cases args; simp_all
  obtain ⟨x0, hx0, dom0⟩ := rep_of_TrodU 40 (.slice (.pair (.int .i64) (.pair (.slice (.str)) (.slice (.pair (.int .i64) (.pair (.int .i64) (.str))))))) (by kernel_rfl) (by kernel_rfl) h0 (weight_at hsz 0 rfl rfl) hu (by simp)
  obtain ⟨a0, l0, c0, rfl⟩ := okWide_slice Try.underlying22 (hval 0 22 v0 rfl rfl)
  obtain ⟨_, _, hcs, hr0⟩ := hx0
  simp only [Value.cells, List.cons.injEq, Value.slice.injEq, and_true] at hcs
  obtain ⟨rfl, rfl, rfl⟩ := hcs
  have hR0 : Rep (ghostOf W) (.slice (.pair (.int .i64) (.pair (.slice (.str)) (.slice (.pair (.int .i64) (.pair (.int .i64) (.str))))))) [.slice a0 x0.length c0] x0 := ⟨_, _, rfl, hr0⟩
  obtain ⟨x1, hx1, dom1⟩ := rep_of_TrodU 40 (.slice (.pair (.int .i64) (.pair (.int .i64) (.str)))) (by kernel_rfl) (by kernel_rfl) h1 (weight_at hsz 1 rfl rfl) hu (by simp)
  obtain ⟨a1, l1, c1, rfl⟩ := okWide_slice Try.underlying29 (hval 1 29 v1 rfl rfl)
  obtain ⟨_, _, hcs, hr1⟩ := hx1
  simp only [Value.cells, List.cons.injEq, Value.slice.injEq, and_true] at hcs
  obtain ⟨rfl, rfl, rfl⟩ := hcs
  have hR1 : Rep (ghostOf W) (.slice (.pair (.int .i64) (.pair (.int .i64) (.str)))) [.slice a1 x1.length c1] x1 := ⟨_, _, rfl, hr1⟩
  exact Hp.lhs_c x0 x1 hR0 hR1 ⟨dom0, dom1⟩ W (gh_ghostOf W)
theorem named : Try.prog.funcNamed Rows.heapSaysUptoRow.func = some 6 := by kernel_rfl
set_option maxHeartbeats 4000000 in
set_option maxRecDepth 100000 in
theorem closed : joinedFacts Try.prog 6 Try.f6 (Rows.OpenSpec.upto Rows.heapSaysSpec).bare Rows.heapSaysUptoRow = true := by
  unfold joinedFacts
  repeat' (with_reducible refine (Bool.and_eq_true _ _).mpr ⟨?_, ?_⟩)
  all_goals as_aux_lemma => kernel_rfl
theorem over : Rows.heapSaysUptoRow.holds Try.pinned (Rows.OpenSpec.upto Rows.heapSaysSpec) :=
  OpenClaim.holds_of_cond 6 Try.f6 rfl rfl rfl rfl rfl rfl rfl ⟨rfl, rfl, rfl, rfl, rfl⟩ rfl rfl rfl rfl rfl named Try.func6 closed
    (of_decide_eq_true (by kernel_rfl)) (by unfold Func.isWrapper; first | (rw [if_pos (by decide +kernel)]; kernel_rfl) | (rw [if_neg (by decide +kernel)]; exact ⟨rfl, rfl⟩))
    (fun os started H enc _ F => by rw [OpenClaim.pre_eq_preRow]; exact lifted os started H enc F)
theorem proved : Rows.HeapSaysUptoSaid :=
  over
#print axioms proved
end Go.Proofs.Ytbifbljdmndjbaa.heapSays
