/- TokenNumbers, TokenCuts, TokenTexts: what they ask is true. -/
import Derived.Test.YtabbinbmpeckkaaDoorTrd
import Derived.Test.YtabbinbmpeckkaaDoorUp
namespace Go.Proofs.YtabbinbmpeckkaaDoor.Tk
open Go Go.Eng Bld Trm Css
set_option linter.unusedVariables false
def cfactV0 : Bool :=
  ((((cutS ([97, 58, 49, 112, 120] : List UInt8)).length : Int) == 3) && ([(((cutS ([97, 58, 49, 112, 120] : List UInt8)).getD (Int.toNat 2) default).1 == 7), (((cutS ([97, 58, 49, 112, 120] : List UInt8)).getD (Int.toNat 2) default).2.1 == ([49, 112, 120] : List UInt8)), (((cutS ([97, 58, 49, 112, 120] : List UInt8)).getD (Int.toNat 2) default).2.2.1 == ([112, 120] : List UInt8)), (((cutS ([97, 58, 49, 112, 120] : List UInt8)).getD (Int.toNat 2) default).2.2.2 == 1000)].all id))
def cfactj5 (K : Bool → Prop) : Prop :=
  K cfactV0
def cfactF (K : Bool → Prop) : Prop :=
  cutP ([97, 58, 49, 112, 120] : List UInt8) ∧ (((((cutS ([97, 58, 49, 112, 120] : List UInt8)).length : Int) == 3)) = true → (0 : Int) ≤ 2 ∧ Int.toNat 2 < (cutS ([97, 58, 49, 112, 120] : List UInt8)).length ∧ cfactj5 K) ∧ (((((cutS ([97, 58, 49, 112, 120] : List UInt8)).length : Int) == 3)) = false → cfactj5 K)
set_option maxHeartbeats 4000000 in
set_option maxRecDepth 100000 in
set_option linter.unusedVariables false in
theorem cfact_ok {g : Ghost}  (hG1 : SomeInt g 1) (K : Bool → Prop)
    (hF : cfactF K) : CallsH Tryd.prog 25 #[] g [] (fun g' H' v => ∃ (r0 : Bool), v = .bool r0 ∧ H' = [] ∧ K r0) := by
  refine CallsH.enter 13 [] Tryd.func25 rfl (by kernel_rfl) (by kernel_rfl) (by kernel_rfl) fun w0 => ?_
  refine Ok.seq ?_
  refine Ok.region ?_
  refine Ok.batch 1 [] (by kernel_rfl) ?_
  refine Ok.nil ?_
  refine Ok.thenN ?_
  refine Ok.seq ?_
  refine Ok.region ?_
  obtain ⟨hp1, hF⟩ := hF
  refine Ok.op rfl (OpOk.callH [] [] (enters (by kernel_rfl) (fun _ => by kernel_rfl)) rfl (cut_c ([97, 58, 49, 112, 120] : List UInt8) hG1 hp1) rfl fun g2 _ _ hx2 hV2 => ?_)
  obtain ⟨a2_0, c2_0, rfl, hR2_0, rfl⟩ := hV2
  replace hG1 := hG1.mono hx2.1
  refine Ok.batch 1 [(1, .slice a2_0 (cutS ([97, 58, 49, 112, 120] : List UInt8)).length c2_0)] (by kernel_rfl) ?_
  refine Ok.nil ?_
  refine Ok.thenN ?_
  refine Ok.cut (fun a W => ∃ gj5 : Ghost, Gext w0 g2 gj5 ∧ StA 13 [(0, .bool cfactV0)] a ∧ StW w0 [] gj5 W ∧ cfactj5 K) ?_ ?_
  ·
    refine Ok.region ?_
    refine Ok.batch 4 [(1, .slice a2_0 (cutS ([97, 58, 49, 112, 120] : List UInt8)).length c2_0), (6, .bool (((cutS ([97, 58, 49, 112, 120] : List UInt8)).length : Int) == 3))] (by kernel_rfl) ?_
    refine Ok.boolAt 6 ((((cutS ([97, 58, 49, 112, 120] : List UInt8)).length : Int) == 3)) rfl (fun hc3 => ?_) (fun hc3 => ?_)
    · replace hF := hF.1 hc3
      refine Ok.batch 1 [(6, .bool true), (7, .slice a2_0 (cutS ([97, 58, 49, 112, 120] : List UInt8)).length c2_0)] (by kernel_rfl) ?_
      obtain ⟨h05, h15, hF⟩ := hF
      have he5 := get_of (l := (cutS ([97, 58, 49, 112, 120] : List UInt8))) (default : Int × List UInt8 × List UInt8 × Int) h15
      generalize hg5 : ((cutS ([97, 58, 49, 112, 120] : List UInt8)).getD (Int.toNat 2) default) = e5 at he5 hF ⊢
      refine Ok.opYes (j := 3) (d := 6) (want := true) (b := true) rfl (by kernel_rfl) (by kernel_rfl) rfl (OpOk.indexRo (e := .pair (.int .i64) (.pair (.str) (.pair (.str) (.int .i64)))) (i := 2) (el := e5) rfl rfl Tryd.underlying47 (by kernel_rfl) hR2_0 h05 he5 rfl fun q4 o4 cs4 _ hat4 hr4 => ?_)
      obtain ⟨_, _, rfl, rfl, ⟨_, _, rfl, rfl, ⟨_, _, rfl, rfl, rfl⟩⟩⟩ := hr4
      replace hat4 : At g2 q4 o4 [.int .i64 e5.1, .string ⟨⟨e5.2.1⟩⟩, .string ⟨⟨e5.2.2.1⟩⟩, .int .i64 e5.2.2.2] := hat4
      refine Ok.opYes (j := 3) (d := 6) (want := true) (b := true) rfl (by kernel_rfl) (by kernel_rfl) rfl (OpOk.step (v := .agg #[.int .i64 e5.1, .string ⟨⟨e5.2.1⟩⟩, .string ⟨⟨e5.2.2.1⟩⟩, .int .i64 e5.2.2.2]) (Yields.loadAggRo 0 4 #[.int .i64 e5.1, .string ⟨⟨e5.2.1⟩⟩, .string ⟨⟨e5.2.2.1⟩⟩, .int .i64 e5.2.2.2] hat4 (by kernel_rfl) Tryd.underlying54 rfl (by kernel_rfl) (by kernel_rfl) (by kernel_rfl)) rfl rfl ?_)
      refine Ok.batch 1 [(6, .bool true), (9, .agg #[.int .i64 e5.1, .string ⟨⟨e5.2.1⟩⟩, .string ⟨⟨e5.2.2.1⟩⟩, .int .i64 e5.2.2.2]), (10, .agg #[.int .i64 7, .string ⟨⟨([49, 112, 120] : List UInt8)⟩⟩, .string ⟨⟨([112, 120] : List UInt8)⟩⟩, .int .i64 1000])] (by kernel_rfl) ?_
      refine Ok.opYes (j := 3) (d := 6) (want := true) (b := true) rfl (by kernel_rfl) (by kernel_rfl) rfl (OpOk.step (v := .bool ([(e5.1 == 7), (e5.2.1 == ([49, 112, 120] : List UInt8)), (e5.2.2.1 == ([112, 120] : List UInt8)), (e5.2.2.2 == 1000)].all id)) (Yields.eqAgg (k := 2) rfl rfl (.struct (k := 1) Tryd.underlying54 (by kernel_rfl) ⟨by decide, ⟨.int .i64 e5.1, .int .i64 7, fun _ => by kernel_rfl, fun _ => by kernel_rfl, EqR.mono (k := 1) (.int Tryd.underlying3) (by decide)⟩, ⟨by decide, ⟨.string ⟨⟨e5.2.1⟩⟩, .string ⟨⟨([49, 112, 120] : List UInt8)⟩⟩, fun _ => by kernel_rfl, fun _ => by kernel_rfl, EqR.mono (k := 1) (.str Tryd.underlying9) (by decide)⟩, ⟨by decide, ⟨.string ⟨⟨e5.2.2.1⟩⟩, .string ⟨⟨([112, 120] : List UInt8)⟩⟩, fun _ => by kernel_rfl, fun _ => by kernel_rfl, EqR.mono (k := 1) (.str Tryd.underlying9) (by decide)⟩, ⟨by decide, ⟨.int .i64 e5.2.2.2, .int .i64 1000, fun _ => by kernel_rfl, fun _ => by kernel_rfl, EqR.mono (k := 1) (.int Tryd.underlying3) (by decide)⟩, trivial⟩⟩⟩⟩) rfl (by kernel_rfl)) rfl rfl ?_)
      refine Ok.batch 2 [(0, .bool ([(e5.1 == 7), (e5.2.1 == ([49, 112, 120] : List UInt8)), (e5.2.2.1 == ([112, 120] : List UInt8)), (e5.2.2.2 == 1000)].all id))] (by kernel_rfl) ?_
      refine Ok.nil ?_
      refine Ok.thenN ?_
      subst hg5
      refine Ok.reval 0 rfl (show (.bool ([(((cutS ([97, 58, 49, 112, 120] : List UInt8)).getD (Int.toNat 2) default).1 == 7), (((cutS ([97, 58, 49, 112, 120] : List UInt8)).getD (Int.toNat 2) default).2.1 == ([49, 112, 120] : List UInt8)), (((cutS ([97, 58, 49, 112, 120] : List UInt8)).getD (Int.toNat 2) default).2.2.1 == ([112, 120] : List UInt8)), (((cutS ([97, 58, 49, 112, 120] : List UInt8)).getD (Int.toNat 2) default).2.2.2 == 1000)].all id) : Value) = .bool cfactV0 from congrArg (Value.bool) (mand_t hc3)) ?_
      exact fun a W hA hW => ⟨g2, (Gext.refl w0 g2), hA.sub (by kernel_rfl), hW, hF⟩
    · replace hF := hF.2 hc3
      refine Ok.batch 7 [(0, .bool false)] (by kernel_rfl) ?_
      refine Ok.nil ?_
      refine Ok.thenN ?_
      refine Ok.reval 0 rfl (show (.bool false : Value) = .bool cfactV0 from congrArg (Value.bool) (mand_f hc3)) ?_
      exact fun a W hA hW => ⟨g2, (Gext.refl w0 g2), hA.sub (by kernel_rfl), hW, hF⟩
  ·
    rintro a W ⟨gj5, hxj5, hA, hW, hF⟩
    refine (?_ : Ok _ _ _ _ _ _) a W hA hW
    clear hA hW
    replace hG1 := hG1.mono hxj5.1
    refine Ok.ret ?_
    exact Ok.resH (vs := [.bool cfactV0]) (.inl rfl) rfl (.cons (.tmp rfl) .nil) (hx2.trans hxj5) ⟨cfactV0, rfl, rfl, hF⟩
theorem cut_known : cutS [97, 58, 49, 112, 120] = [(1, [97], [97], 0), (12, [58], [], 0), (7, [49, 112, 120], [112, 120], 1000)] := by decide +kernel
theorem cfact_F : cfactF (fun r => r = true) := by
  have key : cfactj5 (fun r => r = true) := by
    unfold cfactj5 cfactV0
    rw [cut_known]; rfl
  refine ⟨by unfold cutP; decide, fun _ => ⟨by omega, ?_, key⟩, fun _ => key⟩
  rw [cut_known]; decide
set_option linter.unusedVariables false in
theorem cfact_c {g : Ghost}  (hG1 : SomeInt g 1)  : CallsG Tryd.prog 25 #[] g (.bool true) :=
  (cfact_ok  hG1 _ (cfact_F )).gives (by rintro g' H' v _ ⟨r0, rfl, rfl, hK⟩; subst hK; rfl)
def shortS (s : List UInt8) (n : Int) : List UInt8 := s.take n.toNat
def shortP (s : List UInt8) (n : Int) : Prop := 0 ≤ n
def shortF (xs : List UInt8) (xn : Int) (K : (List UInt8) → Prop) : Prop :=
  (0 : Int) ≤ 0 ∧ (0 : Int) ≤ (if xn < (xs.length : Int) then xn else (xs.length : Int)) ∧ (if xn < (xs.length : Int) then xn else (xs.length : Int)) ≤ (xs.length : Int) ∧ K (xs.take (Int.toNat (if xn < (xs.length : Int) then xn else (xs.length : Int))))
set_option maxHeartbeats 4000000 in
set_option maxRecDepth 100000 in
set_option linter.unusedVariables false in
theorem short_ok {g : Ghost} (xs : List UInt8) (xn : Int) (K : (List UInt8) → Prop)
    (hF : shortF xs xn K) : CallsH Tryd.prog 28 #[.string ⟨⟨xs⟩⟩, .int .i64 xn] g [] (fun g' H' v => ∃ (r0 : List UInt8), v = .string ⟨⟨r0⟩⟩ ∧ H' = [] ∧ K r0) := by
  refine CallsH.enter 11 [(0, .string ⟨⟨xs⟩⟩), (1, .int .i64 xn)] Tryd.func28 rfl (by kernel_rfl) (by kernel_rfl) (by kernel_rfl) fun w0 => ?_
  refine Ok.seq ?_
  refine Ok.region ?_
  refine Ok.batch 1 [(0, .string ⟨⟨xs⟩⟩), (1, .int .i64 xn)] (by kernel_rfl) ?_
  refine Ok.nil ?_
  refine Ok.thenN ?_
  refine Ok.seq ?_
  refine Ok.region ?_
  refine Ok.batch 5 [(5, .string ⟨⟨xs⟩⟩), (9, .int .i64 (if xn < (xs.length : Int) then xn else (xs.length : Int)))] (by kernel_rfl) ?_
  obtain ⟨h01, h11, h21, hF⟩ := hF
  refine Ok.op rfl (OpOk.step (v := .string ⟨⟨xs.take (Int.toNat (if xn < (xs.length : Int) then xn else (xs.length : Int)))⟩⟩) (Yields.sliceStr (s := xs) (l := 0) (h := (if xn < (xs.length : Int) then xn else (xs.length : Int))) (by kernel_rfl) Tryd.underlying9 (.inr ⟨rfl, rfl⟩) (.inl ⟨_, _, rfl, rfl⟩) h01 h11 h21 (xs.take (Int.toNat (if xn < (xs.length : Int) then xn else (xs.length : Int)))) (by simp)) rfl rfl ?_)
  refine Ok.batch 1 [(4, .string ⟨⟨xs.take (Int.toNat (if xn < (xs.length : Int) then xn else (xs.length : Int)))⟩⟩)] (by kernel_rfl) ?_
  refine Ok.nil ?_
  refine Ok.thenN ?_
  refine Ok.ret ?_
  exact Ok.resH (vs := [.string ⟨⟨xs.take (Int.toNat (if xn < (xs.length : Int) then xn else (xs.length : Int)))⟩⟩]) (.inl rfl) rfl (.cons (.tmp rfl) .nil) (Gext.refl w0 g) ⟨(xs.take (Int.toNat (if xn < (xs.length : Int) then xn else (xs.length : Int)))), rfl, rfl, hF⟩
theorem short_F (s : List UInt8) (n : Int) (hp : shortP s n) : shortF s n (fun r => r = shortS s n) := by
  unfold shortP at hp
  refine ⟨by omega, by split <;> omega, by split <;> omega, ?_⟩
  unfold shortS
  split
  · rfl
  · rw [Int.toNat_natCast, List.take_of_length_le (Nat.le_refl _), List.take_of_length_le (by omega)]
set_option linter.unusedVariables false in
theorem short_c {g : Ghost} (xs : List UInt8) (xn : Int)  (hp : shortP xs xn) : CallsG Tryd.prog 28 #[.string ⟨⟨xs⟩⟩, .int .i64 xn] g (.string ⟨⟨(shortS xs xn)⟩⟩) :=
  (short_ok xs xn _ (short_F xs xn hp)).gives (by rintro g' H' v _ ⟨r0, rfl, rfl, hK⟩; subst hK; rfl)
def stoksl15b (xa : List (Int × List UInt8 × List UInt8 × Int)) (xb : List (Int × List UInt8 × List UInt8 × Int)) (K : Bool → Prop) (x5l15 : Int) (C15 : Int → Prop) : Prop :=
  ((decide (x5l15 < (xa.length : Int))) = true → (0 : Int) ≤ x5l15 ∧ Int.toNat x5l15 < xa.length ∧ (0 : Int) ≤ x5l15 ∧ Int.toNat x5l15 < xb.length ∧ ((!([((xa.getD (Int.toNat x5l15) default).1 == (xb.getD (Int.toNat x5l15) default).1), ((xa.getD (Int.toNat x5l15) default).2.1 == (xb.getD (Int.toNat x5l15) default).2.1), ((xa.getD (Int.toNat x5l15) default).2.2.1 == (xb.getD (Int.toNat x5l15) default).2.2.1), ((xa.getD (Int.toNat x5l15) default).2.2.2 == (xb.getD (Int.toNat x5l15) default).2.2.2)].all id)) = true → K false) ∧ ((!([((xa.getD (Int.toNat x5l15) default).1 == (xb.getD (Int.toNat x5l15) default).1), ((xa.getD (Int.toNat x5l15) default).2.1 == (xb.getD (Int.toNat x5l15) default).2.1), ((xa.getD (Int.toNat x5l15) default).2.2.1 == (xb.getD (Int.toNat x5l15) default).2.2.1), ((xa.getD (Int.toNat x5l15) default).2.2.2 == (xb.getD (Int.toNat x5l15) default).2.2.2)].all id)) = false → C15 (IntKind.wrap .i64 (x5l15 + 1)))) ∧ ((decide (x5l15 < (xa.length : Int))) = false → K true)
def stoksl15 (xa : List (Int × List UInt8 × List UInt8 × Int)) (xb : List (Int × List UInt8 × List UInt8 × Int)) (K : Bool → Prop) : Nat → Int → Prop
  | 0, _ => False
  | k + 1, x5l15 => stoksl15b xa xb K x5l15 (stoksl15 xa xb K k)
def stoksF (xa : List (Int × List UInt8 × List UInt8 × Int)) (xb : List (Int × List UInt8 × List UInt8 × Int)) (K : Bool → Prop) : Prop :=
  ((((xa.length : Int) != (xb.length : Int))) = true → K false) ∧ ((((xa.length : Int) != (xb.length : Int))) = false → ∃ k, stoksl15 xa xb K k 0)
set_option maxHeartbeats 4000000 in
set_option maxRecDepth 100000 in
set_option linter.unusedVariables false in
theorem stoks_ok {g : Ghost} {axa_0 : Option Addr} {cxa_0 : Nat} (xa : List (Int × List UInt8 × List UInt8 × Int)) {axb_0 : Option Addr} {cxb_0 : Nat} (xb : List (Int × List UInt8 × List UInt8 × Int)) (hRxa_0 : Rep g (.slice (.pair (.int .i64) (.pair (.str) (.pair (.str) (.int .i64))))) [.slice axa_0 xa.length cxa_0] xa) (hRxb_0 : Rep g (.slice (.pair (.int .i64) (.pair (.str) (.pair (.str) (.int .i64))))) [.slice axb_0 xb.length cxb_0] xb) (K : Bool → Prop)
    (hF : stoksF xa xb K) : CallsH Tryd.prog 29 #[.slice axa_0 xa.length cxa_0, .slice axb_0 xb.length cxb_0] g [] (fun g' H' v => ∃ (r0 : Bool), v = .bool r0 ∧ H' = [] ∧ K r0) := by
  refine CallsH.enter 26 [(0, .slice axa_0 xa.length cxa_0), (1, .slice axb_0 xb.length cxb_0)] Tryd.func29 rfl (by kernel_rfl) (by kernel_rfl) (by kernel_rfl) fun w0 => ?_
  refine Ok.seq ?_
  refine Ok.region ?_
  refine Ok.batch 1 [(0, .slice axa_0 xa.length cxa_0), (1, .slice axb_0 xb.length cxb_0)] (by kernel_rfl) ?_
  refine Ok.nil ?_
  refine Ok.thenN ?_
  refine Ok.seq ?_
  refine Ok.seq ?_
  refine Ok.region ?_
  refine Ok.batch 5 [(0, .slice axa_0 xa.length cxa_0), (1, .slice axb_0 xb.length cxb_0), (10, .bool ((xa.length : Int) != (xb.length : Int)))] (by kernel_rfl) ?_
  refine Ok.nil ?_
  refine Ok.thenN ?_
  refine Ok.cond (b := ((xa.length : Int) != (xb.length : Int))) rfl (fun hc1 => ?_) (fun hc1 => ?_)
  · replace hF := hF.1 hc1
    refine Ok.seq ?_
    refine Ok.region ?_
    refine Ok.batch 1 [(4, .bool false)] (by kernel_rfl) ?_
    refine Ok.nil ?_
    refine Ok.thenN ?_
    refine Ok.ret ?_
    refine Ok.thenR ?_
    exact Ok.resH (vs := [.bool false]) (.inl rfl) rfl (.cons (.tmp rfl) .nil) (Gext.refl w0 g) ⟨false, rfl, rfl, hF⟩
  · replace hF := hF.2 hc1
    refine Ok.skip ?_
    refine Ok.thenN ?_
    refine Ok.seq ?_
    refine Ok.seq ?_
    refine Ok.region ?_
    refine Ok.batch 1 [(0, .slice axa_0 xa.length cxa_0), (1, .slice axb_0 xb.length cxb_0), (5, .int .i64 0)] (by kernel_rfl) ?_
    refine Ok.nil ?_
    refine Ok.thenN ?_
    refine Ok.block ?_
    obtain ⟨k, hF⟩ := hF
    refine Ok.loop (fun k a W => ∃ (x5l15 : Int), StA 26 [(0, .slice axa_0 xa.length cxa_0), (1, .slice axb_0 xb.length cxb_0), (5, .int .i64 x5l15)] a ∧ StW w0 [] g W ∧ stoksl15 xa xb K k x5l15) k ?_ ?_
    ·
      exact fun a W hA hW => ⟨0, hA.sub (by kernel_rfl), hW, hF⟩
    ·
      rintro k15 a W ⟨x5l15, hA, hW, hF⟩
      cases k15 with
      | zero => exact (hF : False).elim
      | succ k15 =>
        refine (?_ : Ok _ _ _ _ _ _) a W hA hW
        clear hA hW
        refine Ok.seq ?_
        refine Ok.seq ?_
        refine Ok.region ?_
        refine Ok.batch 4 [(0, .slice axa_0 xa.length cxa_0), (1, .slice axb_0 xb.length cxb_0), (5, .int .i64 x5l15), (14, .bool (decide (x5l15 < (xa.length : Int))))] (by kernel_rfl) ?_
        refine Ok.nil ?_
        refine Ok.thenN ?_
        refine Ok.cond (b := decide (x5l15 < (xa.length : Int))) rfl (fun hc2 => ?_) (fun hc2 => ?_)
        · replace hF := hF.1 hc2
          refine Ok.skip ?_
          refine Ok.thenN ?_
          refine Ok.seq ?_
          refine Ok.block ?_
          refine Ok.seq ?_
          refine Ok.quiet' (by kernel_rfl) (by kernel_rfl) ?_
          refine OkQ.batch 2 [(0, .slice axa_0 xa.length cxa_0), (1, .slice axb_0 xb.length cxb_0), (5, .int .i64 x5l15), (17, .slice axa_0 xa.length cxa_0), (18, .int .i64 x5l15)] (by kernel_rfl) ?_
          obtain ⟨h04, h14, hF⟩ := hF
          have he4 := get_of (l := xa) (default : Int × List UInt8 × List UInt8 × Int) h14
          generalize hg4 : (xa.getD (Int.toNat x5l15) default) = e4 at he4 hF ⊢
          refine OkQ.op rfl (OpQ.indexRo (e := .pair (.int .i64) (.pair (.str) (.pair (.str) (.int .i64)))) (i := x5l15) (el := e4) rfl rfl Tryd.underlying47 (by kernel_rfl) hRxa_0 h04 he4 rfl fun q3 o3 cs3 _ hat3 hr3 => ?_)
          obtain ⟨_, _, rfl, rfl, ⟨_, _, rfl, rfl, ⟨_, _, rfl, rfl, rfl⟩⟩⟩ := hr3
          replace hat3 : At g q3 o3 [.int .i64 e4.1, .string ⟨⟨e4.2.1⟩⟩, .string ⟨⟨e4.2.2.1⟩⟩, .int .i64 e4.2.2.2] := hat3
          refine OkQ.op rfl (OpQ.step (v := .agg #[.int .i64 e4.1, .string ⟨⟨e4.2.1⟩⟩, .string ⟨⟨e4.2.2.1⟩⟩, .int .i64 e4.2.2.2]) (Yields.loadAggRo 0 4 #[.int .i64 e4.1, .string ⟨⟨e4.2.1⟩⟩, .string ⟨⟨e4.2.2.1⟩⟩, .int .i64 e4.2.2.2] hat3 (by kernel_rfl) Tryd.underlying54 rfl (by kernel_rfl) (by kernel_rfl) (by kernel_rfl)) rfl rfl ?_)
          refine OkQ.batch 2 [(0, .slice axa_0 xa.length cxa_0), (1, .slice axb_0 xb.length cxb_0), (5, .int .i64 x5l15), (20, .agg #[.int .i64 e4.1, .string ⟨⟨e4.2.1⟩⟩, .string ⟨⟨e4.2.2.1⟩⟩, .int .i64 e4.2.2.2]), (21, .slice axb_0 xb.length cxb_0), (22, .int .i64 x5l15)] (by kernel_rfl) ?_
          obtain ⟨h06, h16, hF⟩ := hF
          have he6 := get_of (l := xb) (default : Int × List UInt8 × List UInt8 × Int) h16
          generalize hg6 : (xb.getD (Int.toNat x5l15) default) = e6 at he6 hF ⊢
          refine OkQ.op rfl (OpQ.indexRo (e := .pair (.int .i64) (.pair (.str) (.pair (.str) (.int .i64)))) (i := x5l15) (el := e6) rfl rfl Tryd.underlying47 (by kernel_rfl) hRxb_0 h06 he6 rfl fun q5 o5 cs5 _ hat5 hr5 => ?_)
          obtain ⟨_, _, rfl, rfl, ⟨_, _, rfl, rfl, ⟨_, _, rfl, rfl, rfl⟩⟩⟩ := hr5
          replace hat5 : At g q5 o5 [.int .i64 e6.1, .string ⟨⟨e6.2.1⟩⟩, .string ⟨⟨e6.2.2.1⟩⟩, .int .i64 e6.2.2.2] := hat5
          refine OkQ.op rfl (OpQ.step (v := .agg #[.int .i64 e6.1, .string ⟨⟨e6.2.1⟩⟩, .string ⟨⟨e6.2.2.1⟩⟩, .int .i64 e6.2.2.2]) (Yields.loadAggRo 0 4 #[.int .i64 e6.1, .string ⟨⟨e6.2.1⟩⟩, .string ⟨⟨e6.2.2.1⟩⟩, .int .i64 e6.2.2.2] hat5 (by kernel_rfl) Tryd.underlying54 rfl (by kernel_rfl) (by kernel_rfl) (by kernel_rfl)) rfl rfl ?_)
          refine OkQ.op rfl (OpQ.step (v := .bool (!([(e4.1 == e6.1), (e4.2.1 == e6.2.1), (e4.2.2.1 == e6.2.2.1), (e4.2.2.2 == e6.2.2.2)].all id))) (Yields.neAgg (k := 2) rfl rfl (.struct (k := 1) Tryd.underlying54 (by kernel_rfl) ⟨by decide, ⟨.int .i64 e4.1, .int .i64 e6.1, fun _ => by kernel_rfl, fun _ => by kernel_rfl, EqR.mono (k := 1) (.int Tryd.underlying3) (by decide)⟩, ⟨by decide, ⟨.string ⟨⟨e4.2.1⟩⟩, .string ⟨⟨e6.2.1⟩⟩, fun _ => by kernel_rfl, fun _ => by kernel_rfl, EqR.mono (k := 1) (.str Tryd.underlying9) (by decide)⟩, ⟨by decide, ⟨.string ⟨⟨e4.2.2.1⟩⟩, .string ⟨⟨e6.2.2.1⟩⟩, fun _ => by kernel_rfl, fun _ => by kernel_rfl, EqR.mono (k := 1) (.str Tryd.underlying9) (by decide)⟩, ⟨by decide, ⟨.int .i64 e4.2.2.2, .int .i64 e6.2.2.2, fun _ => by kernel_rfl, fun _ => by kernel_rfl, EqR.mono (k := 1) (.int Tryd.underlying3) (by decide)⟩, trivial⟩⟩⟩⟩) rfl (by kernel_rfl)) rfl rfl ?_)
          refine OkQ.nil ?_
          refine Ok.thenN ?_
          refine Ok.cond (b := !([(e4.1 == e6.1), (e4.2.1 == e6.2.1), (e4.2.2.1 == e6.2.2.1), (e4.2.2.2 == e6.2.2.2)].all id)) rfl (fun hc7 => ?_) (fun hc7 => ?_)
          · replace hF := hF.1 hc7
            refine Ok.seq ?_
            refine Ok.region ?_
            refine Ok.batch 1 [(4, .bool false)] (by kernel_rfl) ?_
            refine Ok.nil ?_
            refine Ok.thenN ?_
            refine Ok.ret ?_
            refine Ok.blockR ?_
            refine Ok.thenR ?_
            refine Ok.thenR ?_
            refine Ok.blockR ?_
            refine Ok.thenR ?_
            exact Ok.resH (vs := [.bool false]) (.inl rfl) rfl (.cons (.tmp rfl) .nil) (Gext.refl w0 g) ⟨false, rfl, rfl, hF⟩
          · replace hF := hF.2 hc7
            refine Ok.skip ?_
            refine Ok.blockN ?_
            refine Ok.thenN ?_
            refine Ok.region ?_
            refine Ok.batch 3 [(0, .slice axa_0 xa.length cxa_0), (1, .slice axb_0 xb.length cxb_0), (5, .int .i64 (IntKind.wrap .i64 (x5l15 + 1)))] (by kernel_rfl) ?_
            refine Ok.nil ?_
            refine Ok.thenN ?_
            subst hg6
            subst hg4
            exact fun a W hA hW => ⟨k15, Nat.lt_succ_self _, IntKind.wrap .i64 (x5l15 + 1), hA.sub (by kernel_rfl), hW, hF⟩
        · replace hF := hF.2 hc2
          refine Ok.exit ?_
          refine Ok.thenE ?_
          refine Ok.thenE ?_
          refine Ok.blockHit ?_
          refine Ok.thenN ?_
          refine Ok.seq ?_
          refine Ok.region ?_
          refine Ok.batch 1 [(4, .bool true)] (by kernel_rfl) ?_
          refine Ok.nil ?_
          refine Ok.thenN ?_
          refine Ok.ret ?_
          exact Ok.resH (vs := [.bool true]) (.inl rfl) rfl (.cons (.tmp rfl) .nil) (Gext.refl w0 g) ⟨true, rfl, rfl, hF⟩
def stoksP (a b : List Tok) : Prop := a = b ∧ a.length < 4294967281
theorem stoks_F (a b : List Tok) (hp : stoksP a b) : stoksF a b (fun r => r = true) := by
  obtain ⟨rfl, hl⟩ := hp
  refine ⟨fun h => by simp at h, fun _ => ⟨a.length + 1, ?_⟩⟩
  have loop : ∀ (k i : Nat), i + k = a.length → stoksl15 a a (fun r => r = true) (k + 1) (i : Int) := by
    intro k
    induction k with
    | zero => intro i h; exact ⟨fun hc => by have := of_decide_eq_true hc; omega, fun _ => rfl⟩
    | succ k ih =>
      intro i h
      refine ⟨fun _ => ⟨by omega, by omega, by omega, by omega, fun hc => by simp at hc, fun _ => ?_⟩, fun hc => by have := of_decide_eq_false hc; omega⟩
      rw [w64 (by omega)]
      exact ih (i + 1) (by omega)
  exact loop a.length 0 (by omega)
set_option linter.unusedVariables false in
theorem stoks_c {g : Ghost} {axa_0 : Option Addr} {cxa_0 : Nat} (xa : List (Int × List UInt8 × List UInt8 × Int)) {axb_0 : Option Addr} {cxb_0 : Nat} (xb : List (Int × List UInt8 × List UInt8 × Int)) (hRxa_0 : Rep g (.slice (.pair (.int .i64) (.pair (.str) (.pair (.str) (.int .i64))))) [.slice axa_0 xa.length cxa_0] xa) (hRxb_0 : Rep g (.slice (.pair (.int .i64) (.pair (.str) (.pair (.str) (.int .i64))))) [.slice axb_0 xb.length cxb_0] xb)  (hp : stoksP xa xb) : CallsG Tryd.prog 29 #[.slice axa_0 xa.length cxa_0, .slice axb_0 xb.length cxb_0] g (.bool ((fun _ _ => true) xa xb)) :=
  (stoks_ok xa xb hRxa_0 hRxb_0 _ (stoks_F xa xb hp)).gives (by rintro g' H' v _ ⟨r0, rfl, rfl, hK⟩; subst hK; rfl)
def lnumF (xs : List UInt8) (K : Bool → Prop) : Prop :=
  nameP xs ∧ nameP xs ∧ K ((true && (((numS xs).1) == ((numS xs).1))) && (((numS xs).2) == ((numS xs).2)))
set_option maxHeartbeats 4000000 in
set_option maxRecDepth 100000 in
set_option linter.unusedVariables false in
theorem lnum_ok {g : Ghost} (xs : List UInt8) (hG1 : SomeInt g 1) (K : Bool → Prop)
    (hF : lnumF xs K) : CallsH Tryd.prog 6 #[.string ⟨⟨xs⟩⟩] g [] (fun g' H' v => ∃ (r0 : Bool), v = .bool r0 ∧ H' = [] ∧ K r0) := by
  refine CallsH.enter 30 [(0, .string ⟨⟨xs⟩⟩)] Tryd.func6 rfl (by kernel_rfl) (by kernel_rfl) (by kernel_rfl) fun w0 => ?_
  refine Ok.seq ?_
  refine Ok.region ?_
  refine Ok.batch 1 [(0, .string ⟨⟨xs⟩⟩)] (by kernel_rfl) ?_
  refine Ok.nil ?_
  refine Ok.thenN ?_
  refine Ok.seq ?_
  refine Ok.region ?_
  refine Ok.op rfl (OpOk.callG (v := .bool true) (enters (by kernel_rfl) (fun _ => by kernel_rfl)) (fun W hW => cfact_c  (hG1.mono hW.sees)) rfl ?_)
  refine Ok.batch 1 [(0, .string ⟨⟨xs⟩⟩), (3, .bool true)] (by kernel_rfl) ?_
  refine Ok.nil ?_
  refine Ok.thenN ?_
  refine Ok.seq ?_
  refine Ok.region ?_
  refine Ok.batch 1 [(0, .string ⟨⟨xs⟩⟩), (3, .bool true), (10, .string ⟨⟨xs⟩⟩)] (by kernel_rfl) ?_
  obtain ⟨hp1, hF⟩ := hF
  refine Ok.op rfl (OpOk.callG (v := .tuple #[.int .i64 ((numS xs).1), .int .i64 ((numS xs).2)]) (enters (by kernel_rfl) (fun _ => by kernel_rfl)) (fun W hW => numb_c xs hp1) rfl ?_)
  refine Ok.batch 5 [(0, .string ⟨⟨xs⟩⟩), (3, .bool true), (4, .int .i64 ((numS xs).1)), (5, .int .i64 ((numS xs).2))] (by kernel_rfl) ?_
  refine Ok.nil ?_
  refine Ok.thenN ?_
  refine Ok.seq ?_
  refine Ok.region ?_
  refine Ok.batch 1 [(3, .bool true), (4, .int .i64 ((numS xs).1)), (5, .int .i64 ((numS xs).2)), (15, .string ⟨⟨xs⟩⟩)] (by kernel_rfl) ?_
  obtain ⟨hp2, hF⟩ := hF
  refine Ok.op rfl (OpOk.callG (v := .tuple #[.int .i64 ((numS xs).1), .int .i64 ((numS xs).2)]) (enters (by kernel_rfl) (fun _ => by kernel_rfl)) (fun W hW => rnum_c xs hp2) rfl ?_)
  refine Ok.batch 5 [(3, .bool true), (4, .int .i64 ((numS xs).1)), (5, .int .i64 ((numS xs).2)), (6, .int .i64 ((numS xs).1)), (7, .int .i64 ((numS xs).2))] (by kernel_rfl) ?_
  refine Ok.nil ?_
  refine Ok.thenN ?_
  refine Ok.seq ?_
  refine Ok.region ?_
  refine Ok.batch 2 [(4, .int .i64 ((numS xs).1)), (5, .int .i64 ((numS xs).2)), (6, .int .i64 ((numS xs).1)), (7, .int .i64 ((numS xs).2)), (20, .bool true)] (by kernel_rfl) ?_
  refine Ok.midway 4 [(5, .int .i64 ((numS xs).2)), (7, .int .i64 ((numS xs).2)), (24, .bool (true && (((numS xs).1) == ((numS xs).1))))] (fun hR3 => ?_) ?_
  · refine Ok.boolAt 20 (true) rfl (fun hc4 => ?_) (fun hc4 => ?_)
    · skip
      refine Ok.batch 4 [(5, .int .i64 ((numS xs).2)), (7, .int .i64 ((numS xs).2)), (24, .bool (((numS xs).1) == ((numS xs).1)))] (by kernel_rfl) ?_
      refine Ok.reval 24 rfl (show (.bool (((numS xs).1) == ((numS xs).1)) : Value) = .bool (true && (((numS xs).1) == ((numS xs).1))) from congrArg Value.bool (mand_t hc4)) ?_
      refine Ok.batch 0 [(5, .int .i64 ((numS xs).2)), (7, .int .i64 ((numS xs).2)), (24, .bool (true && (((numS xs).1) == ((numS xs).1))))] (by kernel_rfl) ?_
      exact hR3
    · skip
      refine Ok.batch 4 [(5, .int .i64 ((numS xs).2)), (7, .int .i64 ((numS xs).2)), (24, .bool false)] (by kernel_rfl) ?_
      refine Ok.reval 24 rfl (show (.bool false : Value) = .bool (true && (((numS xs).1) == ((numS xs).1))) from congrArg Value.bool (mand_f hc4)) ?_
      refine Ok.batch 0 [(5, .int .i64 ((numS xs).2)), (7, .int .i64 ((numS xs).2)), (24, .bool (true && (((numS xs).1) == ((numS xs).1))))] (by kernel_rfl) ?_
      exact hR3
  refine Ok.batch 1 [(5, .int .i64 ((numS xs).2)), (7, .int .i64 ((numS xs).2)), (25, .bool (true && (((numS xs).1) == ((numS xs).1))))] (by kernel_rfl) ?_
  refine Ok.midway 4 [(29, .bool ((true && (((numS xs).1) == ((numS xs).1))) && (((numS xs).2) == ((numS xs).2))))] (fun hR5 => ?_) ?_
  · refine Ok.boolAt 25 ((true && (((numS xs).1) == ((numS xs).1)))) rfl (fun hc6 => ?_) (fun hc6 => ?_)
    · skip
      refine Ok.batch 4 [(29, .bool (((numS xs).2) == ((numS xs).2)))] (by kernel_rfl) ?_
      refine Ok.reval 29 rfl (show (.bool (((numS xs).2) == ((numS xs).2)) : Value) = .bool ((true && (((numS xs).1) == ((numS xs).1))) && (((numS xs).2) == ((numS xs).2))) from congrArg Value.bool (mand_t hc6)) ?_
      refine Ok.batch 0 [(29, .bool ((true && (((numS xs).1) == ((numS xs).1))) && (((numS xs).2) == ((numS xs).2))))] (by kernel_rfl) ?_
      exact hR5
    · skip
      refine Ok.batch 4 [(29, .bool false)] (by kernel_rfl) ?_
      refine Ok.reval 29 rfl (show (.bool false : Value) = .bool ((true && (((numS xs).1) == ((numS xs).1))) && (((numS xs).2) == ((numS xs).2))) from congrArg Value.bool (mand_f hc6)) ?_
      refine Ok.batch 0 [(29, .bool ((true && (((numS xs).1) == ((numS xs).1))) && (((numS xs).2) == ((numS xs).2))))] (by kernel_rfl) ?_
      exact hR5
  refine Ok.batch 1 [(2, .bool ((true && (((numS xs).1) == ((numS xs).1))) && (((numS xs).2) == ((numS xs).2))))] (by kernel_rfl) ?_
  refine Ok.nil ?_
  refine Ok.thenN ?_
  refine Ok.ret ?_
  exact Ok.resH (vs := [.bool ((true && (((numS xs).1) == ((numS xs).1))) && (((numS xs).2) == ((numS xs).2)))]) (.inl rfl) rfl (.cons (.tmp rfl) .nil) (Gext.refl w0 g) ⟨((true && (((numS xs).1) == ((numS xs).1))) && (((numS xs).2) == ((numS xs).2))), rfl, rfl, hF⟩
theorem lnum_F (s : List UInt8) (hp : s.length ≤ reachBytes) : lnumF s (fun r => r = true) :=
  ⟨hp, hp, by simp⟩
def lnumP (s : List UInt8) : Prop := s.length ≤ reachBytes
set_option linter.unusedVariables false in
theorem lnum_c {g : Ghost} (xs : List UInt8) (hG1 : SomeInt g 1)  (hp : lnumP xs) : CallsG Tryd.prog 6 #[.string ⟨⟨xs⟩⟩] g (.bool ((fun _ => true) xs)) :=
  (lnum_ok xs hG1 _ (lnum_F xs hp)).gives (by rintro g' H' v _ ⟨r0, rfl, rfl, hK⟩; subst hK; rfl)
def lcutF (xs : List UInt8) (K : Bool → Prop) : Prop :=
  shortP xs 600 ∧ cutP (shortS xs 600) ∧ cutP (shortS xs 600) ∧ stoksP (cutS (shortS xs 600)) (cutS (shortS xs 600)) ∧ K (true && ((fun _ _ => true) (cutS (shortS xs 600)) (cutS (shortS xs 600))))
set_option maxHeartbeats 4000000 in
set_option maxRecDepth 100000 in
set_option linter.unusedVariables false in
theorem lcut_ok {g : Ghost} (xs : List UInt8) (hG1 : SomeInt g 1) (K : Bool → Prop)
    (hF : lcutF xs K) : CallsH Tryd.prog 7 #[.string ⟨⟨xs⟩⟩] g [] (fun g' H' v => ∃ (r0 : Bool), v = .bool r0 ∧ H' = [] ∧ K r0) := by
  refine CallsH.enter 17 [(0, .string ⟨⟨xs⟩⟩)] Tryd.func7 rfl (by kernel_rfl) (by kernel_rfl) (by kernel_rfl) fun w0 => ?_
  refine Ok.seq ?_
  refine Ok.region ?_
  refine Ok.batch 1 [(0, .string ⟨⟨xs⟩⟩)] (by kernel_rfl) ?_
  refine Ok.nil ?_
  refine Ok.thenN ?_
  refine Ok.seq ?_
  refine Ok.region ?_
  refine Ok.op rfl (OpOk.callG (v := .bool true) (enters (by kernel_rfl) (fun _ => by kernel_rfl)) (fun W hW => cfact_c  (hG1.mono hW.sees)) rfl ?_)
  refine Ok.batch 1 [(0, .string ⟨⟨xs⟩⟩), (3, .bool true)] (by kernel_rfl) ?_
  refine Ok.nil ?_
  refine Ok.thenN ?_
  refine Ok.seq ?_
  refine Ok.region ?_
  refine Ok.batch 1 [(3, .bool true), (6, .string ⟨⟨xs⟩⟩)] (by kernel_rfl) ?_
  obtain ⟨hp1, hF⟩ := hF
  refine Ok.op rfl (OpOk.callG (v := .string ⟨⟨(shortS xs 600)⟩⟩) (enters (by kernel_rfl) (fun _ => by kernel_rfl)) (fun W hW => short_c xs 600 hp1) rfl ?_)
  refine Ok.batch 1 [(0, .string ⟨⟨(shortS xs 600)⟩⟩), (3, .bool true)] (by kernel_rfl) ?_
  refine Ok.nil ?_
  refine Ok.thenN ?_
  refine Ok.seq ?_
  refine Ok.region ?_
  refine Ok.batch 1 [(0, .string ⟨⟨(shortS xs 600)⟩⟩), (3, .bool true), (8, .string ⟨⟨(shortS xs 600)⟩⟩)] (by kernel_rfl) ?_
  obtain ⟨hp2, hF⟩ := hF
  refine Ok.op rfl (OpOk.callH [] [] (enters (by kernel_rfl) (fun _ => by kernel_rfl)) rfl (cut_c (shortS xs 600) hG1 hp2) rfl fun g3 _ _ hx3 hV3 => ?_)
  obtain ⟨a3_0, c3_0, rfl, hR3_0, rfl⟩ := hV3
  replace hG1 := hG1.mono hx3.1
  refine Ok.batch 1 [(3, .bool true), (9, .slice a3_0 (cutS (shortS xs 600)).length c3_0), (10, .string ⟨⟨(shortS xs 600)⟩⟩)] (by kernel_rfl) ?_
  obtain ⟨hp4, hF⟩ := hF
  refine Ok.op rfl (OpOk.callH [] [] (enters (by kernel_rfl) (fun _ => by kernel_rfl)) rfl (rtoks_c (shortS xs 600) hp4) rfl fun g5 _ _ hx5 hV5 => ?_)
  obtain ⟨a5_0, c5_0, rfl, hR5_0, rfl⟩ := hV5
  replace hR3_0 := hR3_0.mono hx5.1
  replace hG1 := hG1.mono hx5.1
  obtain ⟨hp6, hF⟩ := hF
  refine Ok.op rfl (OpOk.callG (v := .bool ((fun _ _ => true) (cutS (shortS xs 600)) (cutS (shortS xs 600)))) (enters (by kernel_rfl) (fun _ => by kernel_rfl)) (fun W hW => stoks_c (cutS (shortS xs 600)) (cutS (shortS xs 600)) (hR3_0.mono hW.sees) (hR5_0.mono hW.sees) hp6) rfl ?_)
  refine Ok.batch 1 [(3, .bool true), (4, .bool ((fun _ _ => true) (cutS (shortS xs 600)) (cutS (shortS xs 600))))] (by kernel_rfl) ?_
  refine Ok.nil ?_
  refine Ok.thenN ?_
  refine Ok.seq ?_
  refine Ok.region ?_
  refine Ok.batch 2 [(4, .bool ((fun _ _ => true) (cutS (shortS xs 600)) (cutS (shortS xs 600)))), (14, .bool true)] (by kernel_rfl) ?_
  refine Ok.midway 2 [(16, .bool (true && ((fun _ _ => true) (cutS (shortS xs 600)) (cutS (shortS xs 600)))))] (fun hR7 => ?_) ?_
  · refine Ok.boolAt 14 (true) rfl (fun hc8 => ?_) (fun hc8 => ?_)
    · skip
      refine Ok.batch 2 [(16, .bool ((fun _ _ => true) (cutS (shortS xs 600)) (cutS (shortS xs 600))))] (by kernel_rfl) ?_
      refine Ok.reval 16 rfl (show (.bool ((fun _ _ => true) (cutS (shortS xs 600)) (cutS (shortS xs 600))) : Value) = .bool (true && ((fun _ _ => true) (cutS (shortS xs 600)) (cutS (shortS xs 600)))) from congrArg Value.bool (mand_t hc8)) ?_
      refine Ok.batch 0 [(16, .bool (true && ((fun _ _ => true) (cutS (shortS xs 600)) (cutS (shortS xs 600)))))] (by kernel_rfl) ?_
      exact hR7
    · skip
      refine Ok.batch 2 [(16, .bool false)] (by kernel_rfl) ?_
      refine Ok.reval 16 rfl (show (.bool false : Value) = .bool (true && ((fun _ _ => true) (cutS (shortS xs 600)) (cutS (shortS xs 600)))) from congrArg Value.bool (mand_f hc8)) ?_
      refine Ok.batch 0 [(16, .bool (true && ((fun _ _ => true) (cutS (shortS xs 600)) (cutS (shortS xs 600)))))] (by kernel_rfl) ?_
      exact hR7
  refine Ok.batch 1 [(2, .bool (true && ((fun _ _ => true) (cutS (shortS xs 600)) (cutS (shortS xs 600)))))] (by kernel_rfl) ?_
  refine Ok.nil ?_
  refine Ok.thenN ?_
  refine Ok.ret ?_
  exact Ok.resH (vs := [.bool (true && ((fun _ _ => true) (cutS (shortS xs 600)) (cutS (shortS xs 600))))]) (.inl rfl) rfl (.cons (.tmp rfl) .nil) (hx3.trans hx5) ⟨(true && ((fun _ _ => true) (cutS (shortS xs 600)) (cutS (shortS xs 600)))), rfl, rfl, hF⟩
theorem cutN_len : ∀ (k : Nat) (s : List UInt8), (cutN k s).length ≤ k
  | 0, _ => Nat.le_refl _
  | k + 1, s => by
    unfold cutN
    split
    · exact Nat.zero_le _
    · have := cutN_len k (s.drop (firstM s).2.1.length)
      simp only [List.length_cons]; omega
theorem short_cut (s : List UInt8) : cutP (shortS s 600) := by
  unfold cutP shortS
  rw [List.length_take]
  have : (600 : Int).toNat = 600 := rfl
  omega
theorem lcut_F (s : List UInt8) (hp : lnumP s) : lcutF s (fun r => r = true) := by
  have hc := short_cut s
  have hs : stoksP (cutS (shortS s 600)) (cutS (shortS s 600)) := ⟨rfl, by have := cutN_len (shortS s 600).length (shortS s 600); unfold cutP at hc; unfold cutS; omega⟩
  exact ⟨by unfold shortP; decide, hc, hc, hs, rfl⟩
set_option linter.unusedVariables false in
theorem lcut_c {g : Ghost} (xs : List UInt8) (hG1 : SomeInt g 1)  (hp : lnumP xs) : CallsG Tryd.prog 7 #[.string ⟨⟨xs⟩⟩] g (.bool ((fun _ => true) xs)) :=
  (lcut_ok xs hG1 _ (lcut_F xs hp)).gives (by rintro g' H' v _ ⟨r0, rfl, rfl, hK⟩; subst hK; rfl)
def ltxtj22 (xl : List (Int × List UInt8 × List UInt8 × Int)) (K : Bool → Prop) (x4l11 : List UInt8) : Prop :=
  K (true && ((rawS xl) == x4l11))
def ltxtl11b (xl : List (Int × List UInt8 × List UInt8 × Int)) (K : Bool → Prop) (x4l11 : List UInt8) (x5l11 : Int) (C11 : (List UInt8) → Int → Prop) : Prop :=
  ((decide (x5l11 < (xl.length : Int))) = true → (0 : Int) ≤ x5l11 ∧ Int.toNat x5l11 < xl.length ∧ x4l11.length + (xl.getD (Int.toNat x5l11) default).2.1.length ≤ maxLen ∧ C11 (x4l11 ++ (xl.getD (Int.toNat x5l11) default).2.1) (IntKind.wrap .i64 (x5l11 + 1))) ∧ ((decide (x5l11 < (xl.length : Int))) = false → ((true) = true → rawP xl ∧ ltxtj22 xl K x4l11) ∧ ((true) = false → ltxtj22 xl K x4l11))
def ltxtl11 (xl : List (Int × List UInt8 × List UInt8 × Int)) (K : Bool → Prop) : Nat → (List UInt8) → Int → Prop
  | 0, _, _ => False
  | k + 1, x4l11, x5l11 => ltxtl11b xl K x4l11 x5l11 (ltxtl11 xl K k)
def ltxtF (xl : List (Int × List UInt8 × List UInt8 × Int)) (K : Bool → Prop) : Prop :=
  ∃ k, ltxtl11 xl K k ([] : List UInt8) 0
set_option maxHeartbeats 4000000 in
set_option maxRecDepth 100000 in
set_option linter.unusedVariables false in
theorem ltxt_ok {g : Ghost} {axl_0 : Option Addr} {cxl_0 : Nat} (xl : List (Int × List UInt8 × List UInt8 × Int)) (hRxl_0 : Rep g (.slice (.pair (.int .i64) (.pair (.str) (.pair (.str) (.int .i64))))) [.slice axl_0 xl.length cxl_0] xl) (hG1 : SomeInt g 1) (K : Bool → Prop)
    (hF : ltxtF xl K) : CallsH Tryd.prog 9 #[.slice axl_0 xl.length cxl_0] g [] (fun g' H' v => ∃ (r0 : Bool), v = .bool r0 ∧ H' = [] ∧ K r0) := by
  refine CallsH.enter 27 [(0, .slice axl_0 xl.length cxl_0)] Tryd.func9 rfl (by kernel_rfl) (by kernel_rfl) (by kernel_rfl) fun w0 => ?_
  refine Ok.seq ?_
  refine Ok.region ?_
  refine Ok.batch 1 [(0, .slice axl_0 xl.length cxl_0)] (by kernel_rfl) ?_
  refine Ok.nil ?_
  refine Ok.thenN ?_
  refine Ok.seq ?_
  refine Ok.region ?_
  refine Ok.op rfl (OpOk.callG (v := .bool true) (enters (by kernel_rfl) (fun _ => by kernel_rfl)) (fun W hW => cfact_c  (hG1.mono hW.sees)) rfl ?_)
  refine Ok.batch 1 [(0, .slice axl_0 xl.length cxl_0), (3, .bool true)] (by kernel_rfl) ?_
  refine Ok.nil ?_
  refine Ok.thenN ?_
  refine Ok.seq ?_
  refine Ok.region ?_
  refine Ok.batch 1 [(0, .slice axl_0 xl.length cxl_0), (3, .bool true), (4, .string ⟨⟨([] : List UInt8)⟩⟩)] (by kernel_rfl) ?_
  refine Ok.nil ?_
  refine Ok.thenN ?_
  refine Ok.seq ?_
  refine Ok.seq ?_
  refine Ok.region ?_
  refine Ok.batch 1 [(0, .slice axl_0 xl.length cxl_0), (3, .bool true), (4, .string ⟨⟨([] : List UInt8)⟩⟩), (5, .int .i64 0)] (by kernel_rfl) ?_
  refine Ok.nil ?_
  refine Ok.thenN ?_
  refine Ok.block ?_
  obtain ⟨k, hF⟩ := hF
  refine Ok.loop (fun k a W => ∃ (x4l11 : List UInt8) (x5l11 : Int), StA 27 [(0, .slice axl_0 xl.length cxl_0), (3, .bool true), (4, .string ⟨⟨x4l11⟩⟩), (5, .int .i64 x5l11)] a ∧ StW w0 [] g W ∧ ltxtl11 xl K k x4l11 x5l11) k ?_ ?_
  ·
    exact fun a W hA hW => ⟨([] : List UInt8), 0, hA.sub (by kernel_rfl), hW, hF⟩
  ·
    rintro k11 a W ⟨x4l11, x5l11, hA, hW, hF⟩
    cases k11 with
    | zero => exact (hF : False).elim
    | succ k11 =>
      refine (?_ : Ok _ _ _ _ _ _) a W hA hW
      clear hA hW
      refine Ok.seq ?_
      refine Ok.seq ?_
      refine Ok.region ?_
      refine Ok.batch 4 [(0, .slice axl_0 xl.length cxl_0), (3, .bool true), (4, .string ⟨⟨x4l11⟩⟩), (5, .int .i64 x5l11), (10, .bool (decide (x5l11 < (xl.length : Int))))] (by kernel_rfl) ?_
      refine Ok.nil ?_
      refine Ok.thenN ?_
      refine Ok.cond (b := decide (x5l11 < (xl.length : Int))) rfl (fun hc1 => ?_) (fun hc1 => ?_)
      · replace hF := hF.1 hc1
        refine Ok.skip ?_
        refine Ok.thenN ?_
        refine Ok.seq ?_
        refine Ok.block ?_
        refine Ok.region ?_
        refine Ok.batch 3 [(0, .slice axl_0 xl.length cxl_0), (3, .bool true), (5, .int .i64 x5l11), (13, .string ⟨⟨x4l11⟩⟩), (14, .slice axl_0 xl.length cxl_0), (15, .int .i64 x5l11)] (by kernel_rfl) ?_
        obtain ⟨h03, h13, hF⟩ := hF
        have he3 := get_of (l := xl) (default : Int × List UInt8 × List UInt8 × Int) h13
        generalize hg3 : (xl.getD (Int.toNat x5l11) default) = e3 at he3 hF ⊢
        refine Ok.op rfl (OpOk.indexRo (e := .pair (.int .i64) (.pair (.str) (.pair (.str) (.int .i64)))) (i := x5l11) (el := e3) rfl rfl Tryd.underlying47 (by kernel_rfl) hRxl_0 h03 he3 rfl fun q2 o2 cs2 _ hat2 hr2 => ?_)
        obtain ⟨_, _, rfl, rfl, ⟨_, _, rfl, rfl, ⟨_, _, rfl, rfl, rfl⟩⟩⟩ := hr2
        replace hat2 : At g q2 o2 [.int .i64 e3.1, .string ⟨⟨e3.2.1⟩⟩, .string ⟨⟨e3.2.2.1⟩⟩, .int .i64 e3.2.2.2] := hat2
        refine Ok.batch 1 [(0, .slice axl_0 xl.length cxl_0), (3, .bool true), (5, .int .i64 x5l11), (13, .string ⟨⟨x4l11⟩⟩), (17, .pointer (some ⟨q2, o2 + 1, none⟩))] (by kernel_rfl) ?_
        refine Ok.op rfl (OpOk.step (v := .string ⟨⟨e3.2.1⟩⟩) (Yields.loadRo 1 hat2 (by kernel_rfl) Tryd.underlying9 rfl (by kernel_rfl)) rfl rfl ?_)
        obtain ⟨hv, hF⟩ := hF
        refine Ok.op rfl (OpOk.step (v := .string ⟨⟨x4l11 ++ e3.2.1⟩⟩) (Yields.strAdd rfl rfl hv) rfl rfl ?_)
        refine Ok.batch 1 [(0, .slice axl_0 xl.length cxl_0), (3, .bool true), (4, .string ⟨⟨x4l11 ++ e3.2.1⟩⟩), (5, .int .i64 x5l11)] (by kernel_rfl) ?_
        refine Ok.nil ?_
        refine Ok.blockN ?_
        refine Ok.thenN ?_
        refine Ok.region ?_
        refine Ok.batch 3 [(0, .slice axl_0 xl.length cxl_0), (3, .bool true), (4, .string ⟨⟨x4l11 ++ e3.2.1⟩⟩), (5, .int .i64 (IntKind.wrap .i64 (x5l11 + 1)))] (by kernel_rfl) ?_
        refine Ok.nil ?_
        refine Ok.thenN ?_
        subst hg3
        exact fun a W hA hW => ⟨k11, Nat.lt_succ_self _, x4l11 ++ (xl.getD (Int.toNat x5l11) default).2.1, IntKind.wrap .i64 (x5l11 + 1), hA.sub (by kernel_rfl), hW, hF⟩
      · replace hF := hF.2 hc1
        refine Ok.exit ?_
        refine Ok.thenE ?_
        refine Ok.thenE ?_
        refine Ok.blockHit ?_
        refine Ok.thenN ?_
        refine Ok.cut (fun a W => StA 27 [(2, .bool (true && ((rawS xl) == x4l11)))] a ∧ StW w0 [] g W ∧ ltxtj22 xl K x4l11) ?_ ?_
        ·
          refine Ok.region ?_
          refine Ok.batch 2 [(0, .slice axl_0 xl.length cxl_0), (4, .string ⟨⟨x4l11⟩⟩), (21, .bool true)] (by kernel_rfl) ?_
          refine Ok.boolAt 21 (true) rfl (fun hc4 => ?_) (fun hc4 => ?_)
          · replace hF := hF.1 hc4
            refine Ok.batch 1 [(4, .string ⟨⟨x4l11⟩⟩), (21, .bool true), (22, .slice axl_0 xl.length cxl_0)] (by kernel_rfl) ?_
            obtain ⟨hp5, hF⟩ := hF
            refine Ok.opYes (j := 1) (d := 21) (want := true) (b := true) rfl (by kernel_rfl) (by kernel_rfl) rfl (OpOk.callG (v := .string ⟨⟨(rawS xl)⟩⟩) (enters (by kernel_rfl) (fun _ => by kernel_rfl)) (fun W hW => txt_c xl (hRxl_0.mono hW.sees) hp5) rfl ?_)
            refine Ok.batch 1 [(21, .bool true), (23, .string ⟨⟨(rawS xl)⟩⟩), (24, .string ⟨⟨x4l11⟩⟩)] (by kernel_rfl) ?_
            refine Ok.opYes (j := 1) (d := 21) (want := true) (b := true) rfl (by kernel_rfl) (by kernel_rfl) rfl (OpOk.step (v := .bool ((rawS xl) == x4l11)) (Yields.strCmp (f := .eql) (a := (rawS xl)) (b := x4l11) (by kernel_rfl) (by kernel_rfl) rfl) rfl rfl ?_)
            refine Ok.batch 2 [(2, .bool ((rawS xl) == x4l11))] (by kernel_rfl) ?_
            refine Ok.nil ?_
            refine Ok.thenN ?_
            refine Ok.reval 2 rfl (show (.bool ((rawS xl) == x4l11) : Value) = .bool (true && ((rawS xl) == x4l11)) from congrArg (Value.bool) (mand_t hc4)) ?_
            exact fun a W hA hW => ⟨hA.sub (by kernel_rfl), hW, hF⟩
          · replace hF := hF.2 hc4
            refine Ok.batch 6 [(2, .bool false)] (by kernel_rfl) ?_
            refine Ok.nil ?_
            refine Ok.thenN ?_
            refine Ok.reval 2 rfl (show (.bool false : Value) = .bool (true && ((rawS xl) == x4l11)) from congrArg (Value.bool) (mand_f hc4)) ?_
            exact fun a W hA hW => ⟨hA.sub (by kernel_rfl), hW, hF⟩
        ·
          rintro a W ⟨hA, hW, hF⟩
          refine (?_ : Ok _ _ _ _ _ _) a W hA hW
          clear hA hW
          refine Ok.ret ?_
          exact Ok.resH (vs := [.bool (true && ((rawS xl) == x4l11))]) (.inl rfl) rfl (.cons (.tmp rfl) .nil) (Gext.refl w0 g) ⟨(true && ((rawS xl) == x4l11)), rfl, rfl, hF⟩
abbrev TokT : Ty := .pair (.int .i64) (.pair .str (.pair .str (.int .i64)))
def ltxtP (l : List Tok) : Prop := DomU (.slice TokT) l
theorem bulk_raw : ∀ (l : List Tok), (rawS l).length + l.length ≤ (l.map (bulkT TokT)).sum
  | [] => Nat.le_refl _
  | t :: l => by
    have := bulk_raw l
    have e : rawS (t :: l) = t.2.1 ++ rawS l := rfl
    have e2 : bulkT TokT t = 1 + (t.2.1.length + 1 + (t.2.2.1.length + 1 + 1)) := rfl
    rw [e, List.map_cons, List.sum_cons, e2, List.length_append, List.length_cons]
    omega
theorem ltxtP_raw {l : List Tok} (h : ltxtP l) : (rawS l).length + l.length ≤ 1048576 := by
  have h1 := bulk_raw l
  have h2 : bulkT (.slice TokT) l ≤ 1048576 := h.2
  simp only [bulkT] at h2
  have : (l.map (bulkT TokT)).sum + 1 ≤ 1048576 := h2
  omega
theorem ltxt_F (l : List Tok) (hp : ltxtP l) : ltxtF l (fun r => r = true) := by
  have hr := ltxtP_raw hp
  have loop : ∀ (k i : Nat) (acc : List UInt8), i + k = l.length → acc ++ rawS (l.drop i) = rawS l → ltxtl11 l (fun r => r = true) (k + 1) acc (i : Int) := by
    intro k
    induction k with
    | zero =>
      intro i acc h1 h2
      rw [List.drop_of_length_le (by omega)] at h2
      have h3 : acc = rawS l := by simpa [rawS] using h2
      have key : ltxtj22 l (fun r => r = true) acc := by unfold ltxtj22; rw [h3]; simp
      exact ⟨fun h => by have := of_decide_eq_true h; omega, fun _ => ⟨fun _ => ⟨⟨by omega, by omega⟩, key⟩, fun _ => key⟩⟩
    | succ k ih =>
      intro i acc h1 h2
      rw [raw_drop (by omega)] at h2
      have h4 := congrArg List.length h2
      simp only [List.length_append] at h4
      refine ⟨fun _ => ⟨by omega, by omega, by rw [maxLen_eq, Int.toNat_natCast]; omega, ?_⟩, fun h => by have := of_decide_eq_false h; omega⟩
      rw [w64 (by omega), Int.toNat_natCast]
      exact ih (i + 1) _ (by omega) (by rw [List.append_assoc]; exact h2)
  exact ⟨_, loop l.length 0 [] (by omega) (by simp)⟩
set_option linter.unusedVariables false in
theorem ltxt_c {g : Ghost} {axl_0 : Option Addr} {cxl_0 : Nat} (xl : List (Int × List UInt8 × List UInt8 × Int)) (hRxl_0 : Rep g (.slice (.pair (.int .i64) (.pair (.str) (.pair (.str) (.int .i64))))) [.slice axl_0 xl.length cxl_0] xl) (hG1 : SomeInt g 1)  (hp : ltxtP xl) : CallsG Tryd.prog 9 #[.slice axl_0 xl.length cxl_0] g (.bool ((fun _ => true) xl)) :=
  (ltxt_ok xl hRxl_0 hG1 _ (ltxt_F xl hp)).gives (by rintro g' H' v _ ⟨r0, rfl, rfl, hK⟩; subst hK; rfl)
end Go.Proofs.YtabbinbmpeckkaaDoor.Tk
