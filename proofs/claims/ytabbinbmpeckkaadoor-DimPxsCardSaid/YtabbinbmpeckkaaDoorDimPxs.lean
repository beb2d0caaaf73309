/-
  DimPxs: any number with any unit in units, as the document says; no condition.
-/
import Derived.Test.YtabbinbmpeckkaaDoorDim
import Derived.Test.YtabbinbmpeckkaaDoorUp
import Derived.Test.YtabbinbmpeckkaaDoorCards
import Derived.Test.YtabbinbmpeckkaaDoorTie
import Derived.ProofKit
import Derived.Deep.DeepWitnessRowRef
namespace Go.Proofs.YtabbinbmpeckkaaDoor.dimPxs
open Go Go.Eng Go.RowKit Go.ChangeShapes Go.WideShapes Go.ChangeAt Css Tk
theorem own : ownKnob Tryd.prog.godebug = none := by kernel_rfl
set_option maxRecDepth 100000 in
noncomputable def laidWorld (os : Os) : World :=
  let N := (World.settled Tryd.prog os).heap.size
  let w0 := World.holding Tryd.prog os ⟨#[.cells #[.string ⟨⟨[]⟩⟩, .string ⟨⟨[112, 120]⟩⟩, .string ⟨⟨[101, 109]⟩⟩, .string ⟨⟨[114, 101, 109]⟩⟩, .string ⟨⟨[118, 119]⟩⟩, .string ⟨⟨[118, 104]⟩⟩, .string ⟨⟨[37]⟩⟩] 9], #[], []⟩
  { w0 with heap := (((w0.heap.modify 7 (lay #[.int .u8 128, .int .u8 191, .int .u8 160, .int .u8 191, .int .u8 128, .int .u8 159, .int .u8 144, .int .u8 191, .int .u8 128, .int .u8 143, .int .u8 0, .int .u8 0, .int .u8 0, .int .u8 0, .int .u8 0, .int .u8 0, .int .u8 0, .int .u8 0, .int .u8 0, .int .u8 0, .int .u8 0, .int .u8 0, .int .u8 0, .int .u8 0, .int .u8 0, .int .u8 0, .int .u8 0, .int .u8 0, .int .u8 0, .int .u8 0, .int .u8 0, .int .u8 0])).modify 0 (lay #[.slice (some ⟨N + 0, 0, none⟩) 7 7])).modify 6 (lay #[.int .u8 240, .int .u8 240, .int .u8 240, .int .u8 240, .int .u8 240, .int .u8 240, .int .u8 240, .int .u8 240, .int .u8 240, .int .u8 240, .int .u8 240, .int .u8 240, .int .u8 240, .int .u8 240, .int .u8 240, .int .u8 240, .int .u8 240, .int .u8 240, .int .u8 240, .int .u8 240, .int .u8 240, .int .u8 240, .int .u8 240, .int .u8 240, .int .u8 240, .int .u8 240, .int .u8 240, .int .u8 240, .int .u8 240, .int .u8 240, .int .u8 240, .int .u8 240, .int .u8 240, .int .u8 240, .int .u8 240, .int .u8 240, .int .u8 240, .int .u8 240, .int .u8 240, .int .u8 240, .int .u8 240, .int .u8 240, .int .u8 240, .int .u8 240, .int .u8 240, .int .u8 240, .int .u8 240, .int .u8 240, .int .u8 240, .int .u8 240, .int .u8 240, .int .u8 240, .int .u8 240, .int .u8 240, .int .u8 240, .int .u8 240, .int .u8 240, .int .u8 240, .int .u8 240, .int .u8 240, .int .u8 240, .int .u8 240, .int .u8 240, .int .u8 240, .int .u8 240, .int .u8 240, .int .u8 240, .int .u8 240, .int .u8 240, .int .u8 240, .int .u8 240, .int .u8 240, .int .u8 240, .int .u8 240, .int .u8 240, .int .u8 240, .int .u8 240, .int .u8 240, .int .u8 240, .int .u8 240, .int .u8 240, .int .u8 240, .int .u8 240, .int .u8 240, .int .u8 240, .int .u8 240, .int .u8 240, .int .u8 240, .int .u8 240, .int .u8 240, .int .u8 240, .int .u8 240, .int .u8 240, .int .u8 240, .int .u8 240, .int .u8 240, .int .u8 240, .int .u8 240, .int .u8 240, .int .u8 240, .int .u8 240, .int .u8 240, .int .u8 240, .int .u8 240, .int .u8 240, .int .u8 240, .int .u8 240, .int .u8 240, .int .u8 240, .int .u8 240, .int .u8 240, .int .u8 240, .int .u8 240, .int .u8 240, .int .u8 240, .int .u8 240, .int .u8 240, .int .u8 240, .int .u8 240, .int .u8 240, .int .u8 240, .int .u8 240, .int .u8 240, .int .u8 240, .int .u8 240, .int .u8 240, .int .u8 240, .int .u8 240, .int .u8 241, .int .u8 241, .int .u8 241, .int .u8 241, .int .u8 241, .int .u8 241, .int .u8 241, .int .u8 241, .int .u8 241, .int .u8 241, .int .u8 241, .int .u8 241, .int .u8 241, .int .u8 241, .int .u8 241, .int .u8 241, .int .u8 241, .int .u8 241, .int .u8 241, .int .u8 241, .int .u8 241, .int .u8 241, .int .u8 241, .int .u8 241, .int .u8 241, .int .u8 241, .int .u8 241, .int .u8 241, .int .u8 241, .int .u8 241, .int .u8 241, .int .u8 241, .int .u8 241, .int .u8 241, .int .u8 241, .int .u8 241, .int .u8 241, .int .u8 241, .int .u8 241, .int .u8 241, .int .u8 241, .int .u8 241, .int .u8 241, .int .u8 241, .int .u8 241, .int .u8 241, .int .u8 241, .int .u8 241, .int .u8 241, .int .u8 241, .int .u8 241, .int .u8 241, .int .u8 241, .int .u8 241, .int .u8 241, .int .u8 241, .int .u8 241, .int .u8 241, .int .u8 241, .int .u8 241, .int .u8 241, .int .u8 241, .int .u8 241, .int .u8 241, .int .u8 241, .int .u8 241, .int .u8 2, .int .u8 2, .int .u8 2, .int .u8 2, .int .u8 2, .int .u8 2, .int .u8 2, .int .u8 2, .int .u8 2, .int .u8 2, .int .u8 2, .int .u8 2, .int .u8 2, .int .u8 2, .int .u8 2, .int .u8 2, .int .u8 2, .int .u8 2, .int .u8 2, .int .u8 2, .int .u8 2, .int .u8 2, .int .u8 2, .int .u8 2, .int .u8 2, .int .u8 2, .int .u8 2, .int .u8 2, .int .u8 2, .int .u8 2, .int .u8 19, .int .u8 3, .int .u8 3, .int .u8 3, .int .u8 3, .int .u8 3, .int .u8 3, .int .u8 3, .int .u8 3, .int .u8 3, .int .u8 3, .int .u8 3, .int .u8 3, .int .u8 35, .int .u8 3, .int .u8 3, .int .u8 52, .int .u8 4, .int .u8 4, .int .u8 4, .int .u8 68, .int .u8 241, .int .u8 241, .int .u8 241, .int .u8 241, .int .u8 241, .int .u8 241, .int .u8 241, .int .u8 241, .int .u8 241, .int .u8 241, .int .u8 241])) }
set_option maxRecDepth 100000 in
theorem laid_met (os : Os) (args : Array Value) : laidMet Tryd.prog Rows.dimPxsRow.laid ((laidWorld os).forCall (fun _ _ => 0) ⟨#[], args, []⟩).memory :=
  laidMet_of_run' 12 (by kernel_rfl) (by kernel_rfl)
theorem reads (os : Os) {H : Type} (enc : TypeId × Value → H) : DataW.whole enc Tryd.prog ((laidWorld os).forCall (fun _ _ => 0) ⟨#[], #[.agg #[.int .i64 0, .string ⟨⟨([] : List UInt8)⟩⟩], .agg #[.int .i64 0, .int .i64 0, .int .i64 0, .int .i64 0]], []⟩).memory Tryd.f13.params.toList Rows.dimPxsSpec.vars false #[.agg #[.int .i64 0, .string ⟨⟨([] : List UInt8)⟩⟩], .agg #[.int .i64 0, .int .i64 0, .int .i64 0, .int .i64 0]].toList 40 = some ([.agg [.lit (.int .i64 0), .lit (.string [])], .agg [.lit (.int .i64 0), .lit (.int .i64 0), .lit (.int .i64 0), .lit (.int .i64 0)]], [], []) := by kernel_rfl
set_option maxRecDepth 100000 in
set_option linter.unusedVariables false in
theorem lifted (os : Os) (started : os.Started) (H : Type) (enc : TypeId × Value → H) (F : Stop.Interp) :
    ReturnsInHanded {} Tryd.checked os 13 .any ((OpenSpec.ofChange Rows.dimPxsSpec).preRow enc Tryd.prog Tryd.f13 Rows.dimPxsRow.domain false Rows.dimPxsRow.laid) (((OpenSpec.ofChange Rows.dimPxsSpec).at F).post enc Tryd.prog Tryd.f13 false true false false) := by
  refine law_lift_row (C := Tryd.checked) (s := OpenSpec.ofChange Rows.dimPxsSpec) (sp := Rows.dimPxsSpec) (tb := 4) own started (by kernel_rfl) Tryd.func13 (witness_row_atRef (enc := enc) (C := Tryd.checked) false (laidWorld os) #[.agg #[.int .i64 0, .string ⟨⟨([] : List UInt8)⟩⟩], .agg #[.int .i64 0, .int .i64 0, .int .i64 0, .int .i64 0]] rfl (by kernel_rfl) (by kernel_rfl) (by kernel_rfl) (OpenSpec.preRow_of_cond 40 (reads os enc) (by kernel_rfl) (fun k hk => by cases hk) (by kernel_rfl) (laid_met os _))) rfl rfl rfl rfl (fun ds hd => ?_) rfl Tryd.underlying4 (by kernel_rfl) (by kernel_rfl) (by kernel_rfl) ?_
  · have hd : ds.length = 2 := hd
    match ds, hd with
    | [_, _], _ => rfl
  intro W base args ds p hsh hL hval hA hsz hk
  rw [Tryd.params13] at hA hval hsz
  obtain ⟨v0, vs0, d0, ds0, p0, q0, hargs, rfl, rfl, h0, r0⟩ := trodAll_cons hA
  obtain ⟨v1, vs1, d1, ds1, p1, q1, rfl, rfl, rfl, h1, r1⟩ := trodAll_cons r0
  obtain ⟨rfl, rfl, rfl⟩ := trodAll_nil r1
  obtain rfl : args = #[v0, v1] := by cases args; simp_all
  obtain ⟨x0, hx0, dom0⟩ := rep_of_TrodS 40 (.pair (.int .i64) (.str)) (by kernel_rfl) (by kernel_rfl) h0 (weight_at hsz 0 rfl rfl)
  obtain ⟨cs0, rfl, -⟩ := okWide_struct Tryd.underlying58 (hval 0 58 v0 rfl rfl)
  obtain ⟨l0, rfl⟩ : ∃ l : List Value, cs0 = l.toArray := ⟨cs0.toList, by simp⟩
  have hx0 : Rep (ghostOf W) (.pair (.int .i64) (.str)) l0 x0 := hx0
  obtain ⟨_, _, rfl, rfl, rfl⟩ := hx0
  obtain ⟨x1, hx1, dom1⟩ := rep_of_TrodS 40 (.pair (.int .i64) (.pair (.int .i64) (.pair (.int .i64) (.int .i64)))) (by kernel_rfl) (by kernel_rfl) h1 (weight_at hsz 1 rfl rfl)
  obtain ⟨cs1, rfl, -⟩ := okWide_struct Tryd.underlying84 (hval 1 84 v1 rfl rfl)
  obtain ⟨l1, rfl⟩ : ∃ l : List Value, cs1 = l.toArray := ⟨cs1.toList, by simp⟩
  have hx1 : Rep (ghostOf W) (.pair (.int .i64) (.pair (.int .i64) (.pair (.int .i64) (.int .i64)))) l1 x1 := hx1
  obtain ⟨_, _, rfl, rfl, ⟨_, _, rfl, rfl, ⟨_, _, rfl, rfl, rfl⟩⟩⟩ := hx1
  have hG0 : Glob (ghostOf W) 0 (.slice (.str)) DUnits := laid_rep (t := 146) 40 hL (List.Mem.tail _ (List.Mem.head _)) (by kernel_rfl) (by kernel_rfl) (by kernel_rfl) (by kernel_rfl)
  have hG1 : SomeInt (ghostOf W) 1 := someInt_of_shaped (zero := #[.int .i64 0]) (t := 3) hsh (by kernel_rfl) (by kernel_rfl) (by kernel_rfl) (by kernel_rfl) (by kernel_rfl) (by kernel_rfl)
  exact Tk.lpx_c x0 x1  hG0 hG1 W (gh_ghostOf W)
theorem named : Tryd.prog.funcNamed Rows.dimPxsRow.func = some 13 := by kernel_rfl
set_option maxHeartbeats 4000000 in
set_option maxRecDepth 100000 in
theorem closed : joinedFacts Tryd.prog 13 Tryd.f13 (OpenSpec.ofChange Rows.dimPxsSpec).bare Rows.dimPxsRow = true := by
  unfold joinedFacts
  repeat' (with_reducible refine (Bool.and_eq_true _ _).mpr ⟨?_, ?_⟩)
  all_goals as_aux_lemma => kernel_rfl
theorem over : Rows.dimPxsRow.holds Tryd.pinned (OpenSpec.ofChange Rows.dimPxsSpec) :=
  OpenClaim.holds_of_cond 13 Tryd.f13 rfl rfl rfl rfl rfl rfl rfl ⟨rfl, rfl, rfl, rfl, rfl⟩ rfl rfl rfl rfl rfl named Tryd.func13 closed
    (of_decide_eq_true (by kernel_rfl)) (by unfold Func.isWrapper; first | (rw [if_pos (by decide +kernel)]; kernel_rfl) | (rw [if_neg (by decide +kernel)]; exact ⟨rfl, rfl⟩))
    (fun os started H enc _ F => by rw [OpenClaim.pre_eq_preRow]; exact lifted os started H enc F)
set_option maxRecDepth 100000 in
theorem wf : Rows.dimPxsRow.wfByText (OpenSpec.ofChange Rows.dimPxsSpec) = true := by kernel_rfl
set_option maxRecDepth 100000 in
theorem mains : Tryd.pinned.checked.prog.mainIs = some (true, ("44f957e1f3629a0ddf2ff9c3dd5408a70dbaac8966ce68526f01159edf047e1e" : String).toList) := by kernel_rfl
set_option maxRecDepth 100000 in
theorem looking : false = Tryd.pinned.checked.prog.looks [] := by kernel_rfl
set_option maxRecDepth 100000 in
theorem goes : false = Rows.dimPxsRow.goesBy Tryd.pinned.checked.prog := by kernel_rfl
theorem plain (f : FuncId) (fn : Func) (hf : Tryd.pinned.checked.prog.funcNamed Rows.dimPxsRow.func = some f) (hfn : Tryd.pinned.checked.prog.funcs[f]? = some fn) :
    false = Tryd.pinned.checked.prog.looks [] ∧ ∀ (j : Nat) t, fn.params[j]? = some t → Tryd.pinned.checked.prog.wantsStandIn t = false := by
  obtain rfl : f = 13 := Option.some.inj (named.symm.trans hf) |>.symm
  obtain rfl : fn = Tryd.f13 := (Option.some.inj (Tryd.func13.symm.trans hfn)).symm
  refine ⟨looking, fun j t ht => ?_⟩
  have key : (Tryd.f13.params.toList.all fun t => !Tryd.prog.wantsStandIn t) = true := by kernel_rfl
  have := List.all_eq_true.1 key t (by rw [Array.mem_toList_iff]; exact Array.mem_of_getElem? ht)
  exact (show Tryd.prog.wantsStandIn t = false by simpa using this)
theorem proved : Rows.DimPxsCardSaid :=
  Claim7.holds_tied_plain_at .later [] [.data, .widerDeep, .pinned] true (true, "44f957e1f3629a0ddf2ff9c3dd5408a70dbaac8966ce68526f01159edf047e1e") false over (fun _ h => by cases h) wf (fun _ h => by cases h) dimPxs_row_tie rfl ⟨rfl, rfl⟩ mains rfl plain goes
#print axioms proved
end Go.Proofs.YtabbinbmpeckkaaDoor.dimPxs
