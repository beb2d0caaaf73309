/- Numbers of list items: the program. -/
import Derived.Test.YtdiedaeabbcceaaGreatDoorCnt
import Derived.Test.YtdiedaeabbcceaaGreatDoorAto
import Derived.Test.YtdiedaeabbcceaaGreatDoorSfi
namespace Go.Proofs.YtdiedaeabbcceaaGreatDoor.Cq
open Go Go.Eng Go.RowKit Cn Ui Do Sf
set_option maxHeartbeats 4000000
set_option maxRecDepth 100000
set_option linter.unusedSimpArgs false
set_option linter.unusedVariables false
def cbkV0 (xs : Bs) : Bool :=
 ((!(cinM (atoiS xs).1 (-1000000) 1000000)) || (!((cmarkM 2 (atoiS xs).1) == xs)))
def cbkj39 (xs : Bs) (K : Int → Int → Prop) : Prop :=
 (((cbkV0 xs)) = true → K 0 5) ∧ (((cbkV0 xs)) = false → K (atoiS xs).1 0)
def cbkF (xs : Bs) (K : Int → Int → Prop) : Prop :=
 ((!(cinM 2 2 6)) = true → K 0 7) ∧ ((!(cinM 2 2 6)) = false → atoiP xs ∧ ((atoiS xs).2 = true → ((!(cinM (atoiS xs).1 (-1000000) 1000000)) = true → cbkj39 xs K) ∧ ((!(cinM (atoiS xs).1 (-1000000) 1000000)) = false → cmarkP 2 (atoiS xs).1 ∧ cbkj39 xs K)) ∧ ((atoiS xs).2 = false → ((!(cinM (atoiS xs).1 (-1000000) 1000000)) = true → cbkj39 xs K) ∧ ((!(cinM (atoiS xs).1 (-1000000) 1000000)) = false → cmarkP 2 (atoiS xs).1 ∧ cbkj39 xs K)))
theorem cbk_ok {g : Ghost} (xs : Bs) (hG7 : GlobL g 7 (.int .u64) DPow) (hG8 : SomeIf g 8) (hG9 : SomeIf g 9) (K : Int → Int → Prop)
  (hF : cbkF xs K) : CallsH Tryz.prog 100 #[.int .i64 2, sv xs] g [] (fun g' H' v => ∃ (r0 : Int), ∃ (r1 : Int), v = .tuple #[.int .i64 r0, .int .i64 r1] ∧ H' = [] ∧ K r0 r1) := by
 refine CallsH.enter 42 [(0, .int .i64 2), (1, sv xs)] Tryz.func100 rfl (by kernel_rfl) (by kernel_rfl) (by kernel_rfl) fun w0 => ?_
 refine Ok.seq (Ok.region (Ok.batch 2 [(0, .int .i64 2), (1, sv xs)] (by kernel_rfl) (Ok.nil (Ok.thenN (Ok.seq (Ok.seq (Ok.region (Ok.bat 1 [0, 1] [(8, .int .i64 2)] ?_))))))))
 refine Ok.op rfl (OpOk.callG (v := .bool (cinM 2 2 6)) enr (fun W hW => cin_c 2 2 6) rfl ?_)
 refine Ok.bat 1 [0, 1] [(10, .bool (!(cinM 2 2 6)))] ?_
 refine Ok.nil (Ok.thenN (Ok.cond (b := !(cinM 2 2 6)) rfl (fun hc1 => ?_) (fun hc1 => ?_)))
 ·replace hF := hF.1 hc1
  refine Ok.seq (Ok.region (Ok.batch 2 [(4, .int .i64 0), (5, .int .i64 7)] (by kernel_rfl) (Ok.nil (Ok.thenN (Ok.ret (Ok.thenR ?_))))))
  exact Ok.resH (vs := [.int .i64 0, .int .i64 7]) (.inl rfl) rfl (.cons (.tmp rfl) (.cons (.tmp rfl) .nil)) (Gext.refl w0 g) ⟨0, 7, rfl, rfl, hF⟩
 ·replace hF := hF.2 hc1
  refine Ok.skip (Ok.thenN (Ok.seq (Ok.region (Ok.bat 1 [0, 1] [(12, sv xs)] ?_))))
  obtain ⟨hp2, hF⟩ := hF
  refine Ok.op rfl (OpOk.callH [] _ enr rfl (atoi_c xs hG8 hG9 hp2) rfl fun g3 _ _ hx3 hV3 => ?_)
  obtain ⟨i3_0, rfl, hI3_0, rfl⟩ := hV3
  replace hG7 := hG7.mono hx3.1
  replace hG8 := hG8.mono hx3.1
  replace hG9 := hG9.mono hx3.1
  refine Ok.split (atoiS xs).2 (fun hc4 => ?_) (fun hc4 => ?_)
  ·replace hF := hF.1 hc4
   replace hI3_0 : i3_0 = .nilIface := by rw [hc4] at hI3_0; exact hI3_0
   subst hI3_0
   refine Ok.batch 5 [(0, .int .i64 2), (1, sv xs), (6, .int .i64 (atoiS xs).1), (7, .nilIface)] (by kernel_rfl) (Ok.nil (Ok.thenN (Ok.seq (Ok.seq (Ok.region (Ok.bat 2 [0, 1, 6] [(17, .bool false)] ?_))))))
   refine Ok.nil (Ok.thenN (Ok.cond (b := false) rfl (fun h => by cases h) (fun _ => ?_)))
   refine Ok.skip (Ok.thenN (Ok.seq (Ok.cut (fun a W => ∃ gj39 : Ghost, Gext w0 g3 gj39 ∧ StA 42 [(6, .int .i64 (atoiS xs).1), (40, .bool (cbkV0 xs))] a ∧ StW w0 [] gj39 W ∧ cbkj39 xs K) ?_ ?_)))
   ·
    refine Ok.region (Ok.bat 1 [0, 1, 6] [(31, .int .i64 (atoiS xs).1)] ?_)
    refine Ok.op rfl (OpOk.callG (v := .bool (cinM (atoiS xs).1 (-1000000) 1000000)) enr (fun W hW => cin_c (atoiS xs).1 (-1000000) 1000000) rfl ?_)
    refine Ok.bat 2 [0, 1, 6] [(34, .bool (!(cinM (atoiS xs).1 (-1000000) 1000000)))] ?_
    refine Ok.boolAt 34 (!(cinM (atoiS xs).1 (-1000000) 1000000)) rfl (fun hc6 => ?_) (fun hc6 => ?_)
    ·replace hF := hF.1 hc6
     refine Ok.bat 6 [6] [(40, .bool true)] ?_
     refine Ok.nil (Ok.thenN (Ok.reval 40 rfl (show (.bool true : Value) = .bool (cbkV0 xs) from congrArg (Value.bool) (mor_t hc6)) ?_))
     exact fun a W hA hW => ⟨g3, (Gext.refl w0 g3), hA.sub (by kernel_rfl), hW, hF⟩
    ·replace hF := hF.2 hc6
     refine Ok.bat 2 [1, 6] [(34, .bool false), (35, .int .i64 2), (36, .int .i64 (atoiS xs).1)] ?_
     obtain ⟨hp7, hF⟩ := hF
     refine Ok.opYes (j := 3) (d := 34) (want := false) (b := false) rfl (by kernel_rfl) (by kernel_rfl) rfl (OpOk.callG (v := sv (cmarkM 2 (atoiS xs).1)) enr (fun W hW => cmark_c 2 (atoiS xs).1 (hG7.mono hW.sees) hp7) rfl ?_)
     refine Ok.bat 1 [6, 34] [(37, sv (cmarkM 2 (atoiS xs).1)), (38, sv xs)] ?_
     refine Ok.opYes (j := 3) (d := 34) (want := false) (b := false) rfl (by kernel_rfl) (by kernel_rfl) rfl (OpOk.step (v := .bool (!((cmarkM 2 (atoiS xs).1) == xs))) (Yields.strCmp (f := .neq) (a := (cmarkM 2 (atoiS xs).1)) (b := xs) (by kernel_rfl) (by kernel_rfl) rfl) rfl rfl (Ok.bat 1 [6] [(40, .bool (!((cmarkM 2 (atoiS xs).1) == xs)))] ?_))
     refine Ok.nil (Ok.thenN (Ok.reval 40 rfl (show (.bool (!((cmarkM 2 (atoiS xs).1) == xs)) : Value) = .bool (cbkV0 xs) from congrArg (Value.bool) (mor_f hc6)) ?_))
     exact fun a W hA hW => ⟨g3, (Gext.refl w0 g3), hA.sub (by kernel_rfl), hW, hF⟩
   ·
    clear hF
    rintro a W ⟨gj39, hxj39, hA, hW, hF⟩
    refine (?_ : Ok _ _ _ _ _ _) a W hA hW
    clear hA hW
    replace hG7 := hG7.mono hxj39.1
    replace hG8 := hG8.mono hxj39.1
    replace hG9 := hG9.mono hxj39.1
    refine Ok.cond (b := (cbkV0 xs)) rfl (fun hc5 => ?_) (fun hc5 => ?_)
    ·replace hF := hF.1 hc5
     refine Ok.seq (Ok.region (Ok.batch 2 [(4, .int .i64 0), (5, .int .i64 5)] (by kernel_rfl) (Ok.nil (Ok.thenN (Ok.ret (Ok.thenR ?_))))))
     exact Ok.resH (vs := [.int .i64 0, .int .i64 5]) (.inl rfl) rfl (.cons (.tmp rfl) (.cons (.tmp rfl) .nil)) (hx3.trans hxj39) ⟨0, 5, rfl, rfl, hF⟩
    ·replace hF := hF.2 hc5
     refine Ok.skip (Ok.thenN (Ok.seq (Ok.region (Ok.batch 3 [(4, .int .i64 (atoiS xs).1), (5, .int .i64 0)] (by kernel_rfl) (Ok.nil (Ok.thenN (Ok.ret ?_)))))))
     exact Ok.resH (vs := [.int .i64 (atoiS xs).1, .int .i64 0]) (.inl rfl) rfl (.cons (.tmp rfl) (.cons (.tmp rfl) .nil)) (hx3.trans hxj39) ⟨(atoiS xs).1, 0, rfl, rfl, hF⟩
  ·replace hF := hF.2 hc4
   rw [hc4] at hI3_0
   obtain ⟨t3_0, p3_0, rfl⟩ := hI3_0
   refine Ok.batch 5 [(0, .int .i64 2), (1, sv xs), (6, .int .i64 (atoiS xs).1), (7, .iface t3_0 p3_0)] (by kernel_rfl) (Ok.nil (Ok.thenN (Ok.seq (Ok.seq (Ok.region (Ok.bat 2 [0, 1, 6] [(17, .bool true)] ?_))))))
   refine Ok.nil (Ok.thenN (Ok.cond (b := true) rfl (fun _ => ?_) (fun h => by cases h)))
   refine Ok.seq (Ok.region (Ok.bat 1 [0, 1, 6] [(18, .int .i64 2)] ?_))
   refine Ok.nil (Ok.thenN (Ok.block (Ok.seq (Ok.seq (Ok.region (Ok.bat 2 [0, 1, 6, 18] [(19, .bool false)] ?_))))))
   refine Ok.nil (Ok.thenN (Ok.cond (b := false) rfl (fun h => by cases h) (fun _ => ?_)))
   refine Ok.region (Ok.bat 2 [0, 1, 6, 18, 19] [] ?_)
   refine Ok.nil (Ok.thenN (Ok.cond (b := false) rfl (fun h => by cases h) (fun _ => ?_)))
   refine Ok.seq (Ok.seq (Ok.region (Ok.bat 2 [0, 1, 6, 18] [(25, .bool false)] ?_)))
   refine Ok.nil (Ok.thenN (Ok.cond (b := false) rfl (fun h => by cases h) (fun _ => ?_)))
   refine Ok.region (Ok.bat 2 [0, 1, 6, 25] [] ?_)
   refine Ok.nil (Ok.thenN (Ok.cond (b := false) rfl (fun h => by cases h) (fun _ => ?_)))
   refine Ok.skip (Ok.blockN (Ok.thenN (Ok.seq (Ok.cut (fun a W => ∃ gj39 : Ghost, Gext w0 g3 gj39 ∧ StA 42 [(6, .int .i64 (atoiS xs).1), (40, .bool (cbkV0 xs))] a ∧ StW w0 [] gj39 W ∧ cbkj39 xs K) ?_ ?_))))
   ·
    refine Ok.region (Ok.bat 1 [0, 1, 6] [(31, .int .i64 (atoiS xs).1)] ?_)
    refine Ok.op rfl (OpOk.callG (v := .bool (cinM (atoiS xs).1 (-1000000) 1000000)) enr (fun W hW => cin_c (atoiS xs).1 (-1000000) 1000000) rfl ?_)
    refine Ok.bat 2 [0, 1, 6] [(34, .bool (!(cinM (atoiS xs).1 (-1000000) 1000000)))] ?_
    refine Ok.boolAt 34 (!(cinM (atoiS xs).1 (-1000000) 1000000)) rfl (fun hc9 => ?_) (fun hc9 => ?_)
    ·replace hF := hF.1 hc9
     refine Ok.bat 6 [6] [(40, .bool true)] ?_
     refine Ok.nil (Ok.thenN (Ok.reval 40 rfl (show (.bool true : Value) = .bool (cbkV0 xs) from congrArg (Value.bool) (mor_t hc9)) ?_))
     exact fun a W hA hW => ⟨g3, (Gext.refl w0 g3), hA.sub (by kernel_rfl), hW, hF⟩
    ·replace hF := hF.2 hc9
     refine Ok.bat 2 [1, 6] [(34, .bool false), (35, .int .i64 2), (36, .int .i64 (atoiS xs).1)] ?_
     obtain ⟨hp10, hF⟩ := hF
     refine Ok.opYes (j := 3) (d := 34) (want := false) (b := false) rfl (by kernel_rfl) (by kernel_rfl) rfl (OpOk.callG (v := sv (cmarkM 2 (atoiS xs).1)) enr (fun W hW => cmark_c 2 (atoiS xs).1 (hG7.mono hW.sees) hp10) rfl ?_)
     refine Ok.bat 1 [6, 34] [(37, sv (cmarkM 2 (atoiS xs).1)), (38, sv xs)] ?_
     refine Ok.opYes (j := 3) (d := 34) (want := false) (b := false) rfl (by kernel_rfl) (by kernel_rfl) rfl (OpOk.step (v := .bool (!((cmarkM 2 (atoiS xs).1) == xs))) (Yields.strCmp (f := .neq) (a := (cmarkM 2 (atoiS xs).1)) (b := xs) (by kernel_rfl) (by kernel_rfl) rfl) rfl rfl (Ok.bat 1 [6] [(40, .bool (!((cmarkM 2 (atoiS xs).1) == xs)))] ?_))
     refine Ok.nil (Ok.thenN (Ok.reval 40 rfl (show (.bool (!((cmarkM 2 (atoiS xs).1) == xs)) : Value) = .bool (cbkV0 xs) from congrArg (Value.bool) (mor_f hc9)) ?_))
     exact fun a W hA hW => ⟨g3, (Gext.refl w0 g3), hA.sub (by kernel_rfl), hW, hF⟩
   ·
    clear hF
    rintro a W ⟨gj39, hxj39, hA, hW, hF⟩
    refine (?_ : Ok _ _ _ _ _ _) a W hA hW
    clear hA hW
    replace hG7 := hG7.mono hxj39.1
    replace hG8 := hG8.mono hxj39.1
    replace hG9 := hG9.mono hxj39.1
    refine Ok.cond (b := (cbkV0 xs)) rfl (fun hc8 => ?_) (fun hc8 => ?_)
    ·replace hF := hF.1 hc8
     refine Ok.seq (Ok.region (Ok.batch 2 [(4, .int .i64 0), (5, .int .i64 5)] (by kernel_rfl) (Ok.nil (Ok.thenN (Ok.ret (Ok.thenR ?_))))))
     exact Ok.resH (vs := [.int .i64 0, .int .i64 5]) (.inl rfl) rfl (.cons (.tmp rfl) (.cons (.tmp rfl) .nil)) (hx3.trans hxj39) ⟨0, 5, rfl, rfl, hF⟩
    ·replace hF := hF.2 hc8
     refine Ok.skip (Ok.thenN (Ok.seq (Ok.region (Ok.batch 3 [(4, .int .i64 (atoiS xs).1), (5, .int .i64 0)] (by kernel_rfl) (Ok.nil (Ok.thenN (Ok.ret ?_)))))))
     exact Ok.resH (vs := [.int .i64 (atoiS xs).1, .int .i64 0]) (.inl rfl) rfl (.cons (.tmp rfl) (.cons (.tmp rfl) .nil)) (hx3.trans hxj39) ⟨(atoiS xs).1, 0, rfl, rfl, hF⟩
def cbkP (s : Bs) : Prop := s.length ≤ 400
def cbkS (s : Bs) : Int × Int := if cbkV0 s = true then (0, 5) else ((atoiS s).1, 0)
theorem cbk_F (s : Bs) (hp : cbkP s) : cbkF s (fun a b => (a, b) = cbkS s) := by
 unfold cbkP at hp
 have j : cbkj39 s (fun a b => (a, b) = cbkS s) := ⟨fun h => by unfold cbkS; rw [if_t h], fun h => by unfold cbkS; rw [if_f h]⟩
 have j2 : ((!(cinM (atoiS s).1 (-1000000) 1000000)) = true → cbkj39 s (fun a b => (a, b) = cbkS s)) ∧ ((!(cinM (atoiS s).1 (-1000000) 1000000)) = false → cmarkP 2 (atoiS s).1 ∧ cbkj39 s (fun a b => (a, b) = cbkS s)) := ⟨fun _ => j, fun h => ⟨mark_in h, j⟩⟩
 exact ⟨(fun h => by cases h), fun _ => ⟨by unfold atoiP; omega, fun _ => j2, fun _ => j2⟩⟩
theorem cbk_c {g : Ghost} (xs : Bs) (hG7 : GlobL g 7 (.int .u64) DPow) (hG8 : SomeIf g 8) (hG9 : SomeIf g 9)  (hp : cbkP xs) : CallsG Tryz.prog 100 #[.int .i64 2, sv xs] g (.tuple #[.int .i64 (cbkS xs).1, .int .i64 (cbkS xs).2]) :=
 (cbk_ok xs hG7 hG8 hG9 _ (cbk_F xs hp)).gives (by rintro g' H' v _ ⟨r0, r1, rfl, rfl, hK⟩; obtain ⟨rfl, rfl⟩ : r0 = (cbkS xs).1 ∧ r1 = (cbkS xs).2 := ⟨congrArg (fun z => z.1) hK, congrArg (fun z => z.2) hK⟩; rfl)
def ctll7b (xx : ND) (xname : Bs) (K : Int → Bool → Prop) (x13l7 : Int) (C7 : Int → Prop) : Prop :=
 ((decide (x13l7 < (xx.2.2.1.length : Int))) = true → (0 : Int) ≤ x13l7 ∧ Int.toNat x13l7 < xx.2.2.1.length ∧ ((((xx.2.2.1.getD (Int.toNat x13l7) default).1 == xname)) = true → cbkP (xx.2.2.1.getD (Int.toNat x13l7) default).2 ∧ K (cbkS (xx.2.2.1.getD (Int.toNat x13l7) default).2).1 ((cbkS (xx.2.2.1.getD (Int.toNat x13l7) default).2).2 == 0)) ∧ ((((xx.2.2.1.getD (Int.toNat x13l7) default).1 == xname)) = false → C7 (w6 (x13l7 + 1)))) ∧ ((decide (x13l7 < (xx.2.2.1.length : Int))) = false → K 0 false)
def ctll7 (xx : ND) (xname : Bs) (K : Int → Bool → Prop) : Nat → Int → Prop
 | 0, _ => False
 | k + 1, x13l7 => ctll7b xx xname K x13l7 (ctll7 xx xname K k)
def ctlF (xx : ND) (xname : Bs) (K : Int → Bool → Prop) : Prop :=
 ∃ k, ctll7 xx xname K k 0
theorem ctl_ok {g : Ghost} {axx_0 : Option Addr} {cxx_0 : Nat} {axx_1 : Option Addr} {cxx_1 : Nat} (xx : ND) (xname : Bs) (hRxx_0 : Rep g (.slice (.pair (.str) (.str))) [.slice axx_0 xx.2.2.1.length cxx_0] xx.2.2.1) (hRxx_1 : Rep g (.slice (.int .i64)) [.slice axx_1 xx.2.2.2.2.2.length cxx_1] xx.2.2.2.2.2) (hG7 : GlobL g 7 (.int .u64) DPow) (hG8 : SomeIf g 8) (hG9 : SomeIf g 9) (K : Int → Bool → Prop)
  (hF : ctlF xx xname K) : CallsH Tryz.prog 62 #[.agg #[.int .i64 xx.1, sv xx.2.1, .slice axx_0 xx.2.2.1.length cxx_0, sv xx.2.2.2.1, .int .i64 xx.2.2.2.2.1, .slice axx_1 xx.2.2.2.2.2.length cxx_1], sv xname] g [] (fun g' H' v => ∃ (r0 : Int), ∃ (r1 : Bool), v = .tuple #[.int .i64 r0, .bool r1] ∧ H' = [] ∧ K r0 r1) := by
 refine CallsH.enter 31 [(0, .agg #[.int .i64 xx.1, sv xx.2.1, .slice axx_0 xx.2.2.1.length cxx_0, sv xx.2.2.2.1, .int .i64 xx.2.2.2.2.1, .slice axx_1 xx.2.2.2.2.2.length cxx_1]), (1, sv xname)] Tryz.func62 rfl (by kernel_rfl) (by kernel_rfl) (by kernel_rfl) fun w0 => ?_
 refine Ok.seq (Ok.region (Ok.op rfl (OpOk.box (v := .agg #[.int .i64 xx.1, sv xx.2.1, .slice axx_0 xx.2.2.1.length cxx_0, sv xx.2.2.2.1, .int .i64 xx.2.2.2.2.1, .slice axx_1 xx.2.2.2.2.2.length cxx_1]) (cs := #[.int .i64 xx.1, sv xx.2.1, .slice axx_0 xx.2.2.1.length cxx_0, sv xx.2.2.2.1, .int .i64 xx.2.2.2.2.1, .slice axx_1 xx.2.2.2.2.2.length cxx_1]) rfl (by kernel_rfl) rfl fun b1 => ?_)))
 refine Ok.batch 2 [(1, sv xname), (2, pv b1 0)] (by kernel_rfl) (Ok.nil (Ok.thenN (Ok.seq (Ok.seq (Ok.region (Ok.bat 1 [1] [(10, pv b1 2)] ?_))))))
 refine Ok.op rfl (OpOk.step (v := .slice axx_0 xx.2.2.1.length cxx_0) (Yields.load 0 rfl rfl Tryz.underlying72 rfl (by kernel_rfl)) rfl rfl (Ok.bat 2 [1] [(11, .slice axx_0 xx.2.2.1.length cxx_0), (12, .int .i64 (xx.2.2.1.length : Int)), (13, .int .i64 0)] ?_))
 refine Ok.nil (Ok.thenN (Ok.block ?_))
 obtain ⟨k, hF⟩ := hF
 refine Ok.loop (fun k a W => ∃ (x13l7 : Int), StA 31 [(1, sv xname), (11, .slice axx_0 xx.2.2.1.length cxx_0), (12, .int .i64 (xx.2.2.1.length : Int)), (13, .int .i64 x13l7)] a ∧ StW w0 [] g W ∧ ctll7 xx xname K k x13l7) k ?_ ?_
 ·
  exact fun a W hA hW => ⟨0, hA.sub (by kernel_rfl), hW.sub (.cons _ .slnil), hF⟩
 ·
  clear hF
  rintro k7 a W ⟨x13l7, hA, hW, hF⟩
  cases k7 with
  | zero => exact (hF : False).elim
  | succ k7 =>
   refine (?_ : Ok _ _ _ _ _ _) a W hA hW
   clear hA hW
   refine Ok.seq (Ok.region (Ok.bat 1 [1, 11, 12, 13] [(14, .bool (decide (x13l7 < (xx.2.2.1.length : Int))))] ?_))
   refine Ok.nil (Ok.thenN (Ok.seq (Ok.cond (b := decide (x13l7 < (xx.2.2.1.length : Int))) rfl (fun hc2 => ?_) (fun hc2 => ?_))))
   ·replace hF := hF.1 hc2
    refine Ok.skip (Ok.thenN (Ok.seq (Ok.block (Ok.seq (Ok.region ?_)))))
    obtain ⟨h04, h14, hF⟩ := hF
    have he4 := get_of (l := xx.2.2.1) (default : Bs × Bs) h14
    generalize hg4 : (xx.2.2.1.getD (Int.toNat x13l7) default) = e4 at he4 hF ⊢
    refine Ok.op rfl (OpOk.indexRo (e := .pair (.str) (.str)) (i := x13l7) (el := e4) rfl rfl Tryz.underlying72 (by kernel_rfl) hRxx_0 h04 he4 rfl fun q3 o3 cs3 _ hat3 hr3 => ?_)
    obtain ⟨_, _, rfl, rfl, rfl⟩ := hr3
    replace hat3 : At g q3 o3 [sv e4.1, sv e4.2] := hat3
    refine Ok.op rfl (OpOk.step (v := .agg #[sv e4.1, sv e4.2]) (Yields.loadAggRo 0 2 #[sv e4.1, sv e4.2] hat3 (by kernel_rfl) Tryz.underlying120 rfl (by kernel_rfl) (by kernel_rfl) (by kernel_rfl)) rfl rfl (Ok.op rfl (OpOk.alloc (z := .agg #[sv ([] : Bs), sv ([] : Bs)]) (cs := #[sv ([] : Bs), sv ([] : Bs)]) (by kernel_rfl) (by kernel_rfl) rfl fun b5 => ?_)))
    refine Ok.op rfl (OpOk.sto (k := 2) (v := .agg #[sv e4.1, sv e4.2]) 0 #[sv e4.1, sv e4.2] rfl rfl rfl ?_)
    refine Ok.nil (Ok.thenN (Ok.seq (Ok.region (Ok.bat 1 [1, 11, 12, 13] [(7, pv b5 0), (17, pv b5 0)] ?_))))
    refine Ok.op rfl (OpOk.step (v := sv e4.1) (Yields.load 0 rfl rfl Tryz.underlying9 rfl (by kernel_rfl)) rfl rfl (Ok.bat 1 [1, 7, 11, 12, 13] [(18, sv e4.1), (19, sv xname)] ?_))
    refine Ok.op rfl (OpOk.step (v := .bool (e4.1 == xname)) (Yields.strCmp (f := .eql) (a := e4.1) (b := xname) (by kernel_rfl) (by kernel_rfl) rfl) rfl rfl (Ok.nil (Ok.thenN (Ok.cond (b := (e4.1 == xname)) rfl (fun hc6 => ?_) (fun hc6 => ?_)))))
    ·replace hF := hF.1 hc6
     refine Ok.seq (Ok.region (Ok.batch 1 [(22, pv b5 1)] (by kernel_rfl) (Ok.op rfl (OpOk.step (v := sv e4.2) (Yields.load 0 rfl rfl Tryz.underlying9 rfl (by kernel_rfl)) rfl rfl ?_))))
     obtain ⟨hp7, hF⟩ := hF
     refine Ok.op rfl (OpOk.callG (v := .tuple #[.int .i64 (cbkS e4.2).1, .int .i64 (cbkS e4.2).2]) enr (fun W hW => cbk_c e4.2 (hG7.mono hW.sees) (hG8.mono hW.sees) (hG9.mono hW.sees) hp7) rfl ?_)
     refine Ok.batch 5 [(8, .int .i64 (cbkS e4.2).1), (9, .int .i64 (cbkS e4.2).2)] (by kernel_rfl) (Ok.nil (Ok.thenN (Ok.seq (Ok.region (Ok.batch 5 [(4, .int .i64 (cbkS e4.2).1), (5, .bool ((cbkS e4.2).2 == 0))] (by kernel_rfl) (Ok.nil (Ok.thenN (Ok.ret (Ok.blockR (Ok.thenR (Ok.thenR (Ok.blockR (Ok.thenR ?_)))))))))))))
     exact Ok.resP (vs := [.int .i64 (cbkS e4.2).1, .bool ((cbkS e4.2).2 == 0)]) [] [] (by decide) rfl (.inl rfl) rfl (.cons (.tmp rfl) (.cons (.tmp rfl) .nil)) (Gext.refl w0 g) ⟨(cbkS e4.2).1, ((cbkS e4.2).2 == 0), rfl, rfl, hF⟩
    ·replace hF := hF.2 hc6
     refine Ok.skip (Ok.blockN (Ok.thenN (Ok.region (Ok.bat 2 [1, 11, 12] [(13, .int .i64 (w6 (x13l7 + 1)))] ?_))))
     refine Ok.nil (Ok.thenN ?_)
     subst hg4
     exact fun a W hA hW => ⟨k7, Nat.lt_succ_self _, w6 (x13l7 + 1), hA.sub (by kernel_rfl), hW.sub (.cons _ .slnil), hF⟩
   ·replace hF := hF.2 hc2
    refine Ok.exit (Ok.thenE (Ok.thenE (Ok.blockHit (Ok.thenN (Ok.seq (Ok.region (Ok.batch 2 [(4, .int .i64 0), (5, .bool false)] (by kernel_rfl) (Ok.nil (Ok.thenN (Ok.ret ?_))))))))))
    exact Ok.resH (vs := [.int .i64 0, .bool false]) (.inl rfl) rfl (.cons (.tmp rfl) (.cons (.tmp rfl) .nil)) (Gext.refl w0 g) ⟨0, false, rfl, rfl, hF⟩
def toldA (a : Option (Bs × Bs)) : Int × Bool := match a with
 | some a => ((cbkS a.2).1, (cbkS a.2).2 == 0)
 | none => (0, false)
def ctlS (x : ND) (w : Bs) : Int × Bool := toldA (x.2.2.1.find? (fun a => a.1 == w))
def ctlP (x : ND) (_ : Bs) : Prop := AGood x.2.2.1
theorem ctl_F (x : ND) (w : Bs) (hp : ctlP x w) : ctlF x w (fun a b => (a, b) = ctlS x w) := by
 obtain ⟨h12, hv⟩ := hp
 have loop : ∀ (k i : Nat), i + k = x.2.2.1.length → ctlS x w = toldA ((x.2.2.1.drop i).find? (fun a => a.1 == w)) → ctll7 x w (fun a b => (a, b) = ctlS x w) (k + 1) (i : Int) := by
  intro k
  induction k with
  | zero =>
   intro i h he
   rw [List.drop_of_length_le (by omega)] at he
   exact ⟨fun h2 => by have := of_decide_eq_true h2; omega, fun _ => he.symm⟩
  | succ k ih =>
   intro i h he
   rw [drop_get (l := x.2.2.1) default (by omega), List.find?_cons] at he
   refine ⟨fun _ => ⟨by omega, by omega, fun hc => ⟨hv _ (mem_getD default (by omega)), ?_⟩, fun hc => ?_⟩, fun h2 => by have := of_decide_eq_false h2; omega⟩
   ·rw [Int.toNat_natCast] at hc ⊢
    rw [hc] at he
    rw [he]; rfl
   ·rw [Int.toNat_natCast] at hc
    rw [hc] at he
    rw [w64 (by omega)]
    exact ih (i + 1) (by omega) he
 exact ⟨_, loop x.2.2.1.length 0 (by omega) rfl⟩
theorem ctl_c {g : Ghost} {axx_0 : Option Addr} {cxx_0 : Nat} {axx_1 : Option Addr} {cxx_1 : Nat} (xx : Int × Bs × (List (Bs × Bs)) × Bs × Int × List (Int)) (xname : Bs) (hRxx_0 : Rep g (.slice (.pair (.str) (.str))) [.slice axx_0 xx.2.2.1.length cxx_0] xx.2.2.1) (hRxx_1 : Rep g (.slice (.int .i64)) [.slice axx_1 xx.2.2.2.2.2.length cxx_1] xx.2.2.2.2.2) (hG7 : GlobL g 7 (.int .u64) DPow) (hG8 : SomeIf g 8) (hG9 : SomeIf g 9)  (hp : ctlP xx xname) : CallsG Tryz.prog 62 #[.agg #[.int .i64 xx.1, sv xx.2.1, .slice axx_0 xx.2.2.1.length cxx_0, sv xx.2.2.2.1, .int .i64 xx.2.2.2.2.1, .slice axx_1 xx.2.2.2.2.2.length cxx_1], sv xname] g (.tuple #[.int .i64 (ctlS xx xname).1, .bool (ctlS xx xname).2]) :=
 (ctl_ok xx xname hRxx_0 hRxx_1 hG7 hG8 hG9 _ (ctl_F xx xname hp)).gives (by rintro g' H' v _ ⟨r0, r1, rfl, rfl, hK⟩; obtain ⟨rfl, rfl⟩ : r0 = (ctlS xx xname).1 ∧ r1 = (ctlS xx xname).2 := ⟨congrArg (fun z => z.1) hK, congrArg (fun z => z.2) hK⟩; rfl)
theorem told_in {x : ND} {w : Bs} (h : (ctlS x w).2 = true) : -1000000 ≤ (ctlS x w).1 ∧ (ctlS x w).1 ≤ 1000000 := by
 unfold ctlS toldA at h ⊢
 split at h
 ·rename_i a _
  simp only at h ⊢
  unfold cbkS at h ⊢
  split at h
  ·cases h
  ·rename_i hc
   rw [if_neg hc]
   have hc : cbkV0 a.2 = false := by simpa using hc
   unfold cbkV0 at hc
   rw [Bool.or_eq_false_iff] at hc
   exact mark_in (k := 2) hc.1
 ·cases h
def citV0 (xd : DC) (xl : List (STE)) (xn : Int) : Bool :=
 (((xd.1.getD (Int.toNat xn) default).1 == 2) && ([((xl.getD (Int.toNat xn) default).1.1 == 1), ((xl.getD (Int.toNat xn) default).1.2 == 8)].all id))
def citj3 (xd : DC) (xl : List (STE)) (xn : Int) (K : Bool → Prop) : Prop :=
 K (citV0 xd xl xn)
def citF (xd : DC) (xl : List (STE)) (xn : Int) (K : Bool → Prop) : Prop :=
 (0 : Int) ≤ xn ∧ Int.toNat xn < xd.1.length ∧ ((((xd.1.getD (Int.toNat xn) default).1 == 2)) = true → (0 : Int) ≤ xn ∧ Int.toNat xn < xl.length ∧ citj3 xd xl xn K) ∧ ((((xd.1.getD (Int.toNat xn) default).1 == 2)) = false → citj3 xd xl xn K)
theorem cit_ok {g : Ghost} {axd_0 : Option Addr} {cxd_0 : Nat} (xd : DC) {axl_0 : Option Addr} {cxl_0 : Nat} (xl : List (STE)) (xn : Int) (hRxd_0 : Rep g (.slice (.pair (.int .i64) (.pair (.str) (.pair (.slice (.pair (.str) (.str))) (.pair (.str) (.pair (.int .i64) (.slice (.int .i64)))))))) [.slice axd_0 xd.1.length cxd_0] xd.1) (hRxl_0 : Rep g (.slice (.pair (.pair (.int .i64) (.int .i64)) (.pair (.pair (.int .i64) (.int .i64)) (.pair (.pair (.int .i64) (.int .i64)) (.pair (.pair (.int .i64) (.int .i64)) (.pair (.pair (.int .i64) (.int .i64)) (.pair (.pair (.int .i64) (.int .i64)) (.pair (.pair (.int .i64) (.int .i64)) (.pair (.pair (.int .i64) (.int .i64)) (.pair (.pair (.int .i64) (.int .i64)) (.pair (.pair (.int .i64) (.int .i64)) (.pair (.pair (.int .i64) (.int .i64)) (.pair (.pair (.int .i64) (.int .i64)) (.pair (.pair (.int .i64) (.int .i64)) (.pair (.pair (.int .i64) (.int .i64)) (.pair (.pair (.int .i64) (.int .i64)) (.pair (.pair (.int .i64) (.int .i64)) (.pair (.pair (.int .i64) (.int .i64)) (.pair (.pair (.int .i64) (.int .i64)) (.pair (.pair (.int .i64) (.int .i64)) (.pair (.pair (.int .i64) (.int .i64)) (.pair (.pair (.int .i64) (.int .i64)) (.pair (.pair (.int .i64) (.int .i64)) (.pair (.pair (.int .i64) (.int .i64)) (.pair (.pair (.int .i64) (.int .i64)) (.pair (.pair (.int .i64) (.int .i64)) (.pair (.pair (.int .i64) (.int .i64)) (.pair (.pair (.int .i64) (.int .i64)) (.pair (.pair (.int .i64) (.int .i64)) (.pair (.pair (.int .i64) (.int .i64)) (.pair (.pair (.int .i64) (.int .i64)) (.pair (.pair (.int .i64) (.int .i64)) (.pair (.pair (.int .i64) (.int .i64)) (.pair (.pair (.int .i64) (.int .i64)) (.pair (.pair (.int .i64) (.int .i64)) (.pair (.pair (.int .i64) (.int .i64)) (.pair (.pair (.int .i64) (.int .i64)) (.pair (.pair (.int .i64) (.int .i64)) (.pair (.pair (.int .i64) (.int .i64)) (.pair (.pair (.int .i64) (.int .i64)) (.pair (.pair (.int .i64) (.int .i64)) (.pair (.pair (.int .i64) (.int .i64)) (.pair (.pair (.int .i64) (.int .i64)) (.pair (.pair (.int .i64) (.int .i64)) (.pair (.pair (.int .i64) (.int .i64)) (.pair (.pair (.int .i64) (.int .i64)) (.pair (.pair (.int .i64) (.int .i64)) (.pair (.pair (.int .i64) (.int .i64)) (.pair (.pair (.int .i64) (.int .i64)) (.pair (.pair (.int .i64) (.int .i64)) (.pair (.pair (.int .i64) (.int .i64)) (.pair (.pair (.int .i64) (.int .i64)) (.pair (.pair (.int .i64) (.int .i64)) (.pair (.pair (.int .i64) (.int .i64)) (.pair (.pair (.int .i64) (.int .i64)) (.pair (.pair (.int .i64) (.int .i64)) (.pair (.pair (.int .i64) (.int .i64)) (.pair (.pair (.int .i64) (.int .i64)) (.pair (.pair (.int .i64) (.int .i64)) (.pair (.int .i64) (.int .i64))))))))))))))))))))))))))))))))))))))))))))))))))))))))))))) [.slice axl_0 xl.length cxl_0] xl) (K : Bool → Prop)
  (hF : citF xd xl xn K) : CallsH Tryz.prog 34 #[.agg #[.slice axd_0 xd.1.length cxd_0, .bool xd.2], .slice axl_0 xl.length cxl_0, .int .i64 xn] g [] (fun g' H' v => ∃ (r0 : Bool), v = .bool r0 ∧ H' = [] ∧ K r0) := by
 refine CallsH.enter 23 [(0, .agg #[.slice axd_0 xd.1.length cxd_0, .bool xd.2]), (1, .slice axl_0 xl.length cxl_0), (2, .int .i64 xn)] Tryz.func34 rfl (by kernel_rfl) (by kernel_rfl) (by kernel_rfl) fun w0 => ?_
 refine Ok.seq (Ok.region (Ok.op rfl (OpOk.box (v := .agg #[.slice axd_0 xd.1.length cxd_0, .bool xd.2]) (cs := #[.slice axd_0 xd.1.length cxd_0, .bool xd.2]) rfl (by kernel_rfl) rfl fun b1 => ?_)))
 refine Ok.batch 1 [(1, .slice axl_0 xl.length cxl_0), (2, .int .i64 xn), (3, pv b1 0)] (by kernel_rfl) (Ok.nil (Ok.thenN (Ok.cut (fun a W => StA 23 [(6, .bool (citV0 xd xl xn))] a ∧ StW w0 [] g W ∧ citj3 xd xl xn K) ?_ ?_)))
 ·
  refine Ok.region (Ok.bat 1 [1, 2] [(7, pv b1 0)] ?_)
  refine Ok.op rfl (OpOk.step (v := .slice axd_0 xd.1.length cxd_0) (Yields.load 0 rfl rfl Tryz.underlying22 rfl (by kernel_rfl)) rfl rfl (Ok.bat 1 [1, 2] [(8, .slice axd_0 xd.1.length cxd_0), (9, .int .i64 xn)] ?_))
  obtain ⟨h03, h13, hF⟩ := hF
  have he3 := get_of (l := xd.1) (default : ND) h13
  generalize hg3 : (xd.1.getD (Int.toNat xn) default) = e3 at he3 hF ⊢
  refine Ok.op rfl (OpOk.indexRo (e := .pair (.int .i64) (.pair (.str) (.pair (.slice (.pair (.str) (.str))) (.pair (.str) (.pair (.int .i64) (.slice (.int .i64))))))) (i := xn) (el := e3) rfl rfl Tryz.underlying22 (by kernel_rfl) hRxd_0 h03 he3 rfl fun q2 o2 cs2 _ hat2 hr2 => ?_)
  obtain ⟨_, _, rfl, rfl, ⟨_, _, rfl, rfl, ⟨_, _, rfl, ⟨a2_2, c2_2, rfl, hm2_2, hr2_2⟩, ⟨_, _, rfl, rfl, ⟨_, _, rfl, rfl, ⟨a2_5, c2_5, rfl, hm2_5, hr2_5⟩⟩⟩⟩⟩⟩ := hr2
  have hR2_2 : Rep g (.slice (.pair (.str) (.str))) [.slice a2_2 e3.2.2.1.length c2_2] e3.2.2.1 := ⟨a2_2, c2_2, rfl, hm2_2, hr2_2⟩
  have hR2_5 : Rep g (.slice (.int .i64)) [.slice a2_5 e3.2.2.2.2.2.length c2_5] e3.2.2.2.2.2 := ⟨a2_5, c2_5, rfl, hm2_5, hr2_5⟩
  replace hat2 : At g q2 o2 [.int .i64 e3.1, sv e3.2.1, .slice a2_2 e3.2.2.1.length c2_2, sv e3.2.2.2.1, .int .i64 e3.2.2.2.2.1, .slice a2_5 e3.2.2.2.2.2.length c2_5] := hat2
  refine Ok.bat 1 [1, 2] [(11, pv q2 o2)] ?_
  refine Ok.op rfl (OpOk.step (v := .int .i64 e3.1) (Yields.loadRo 0 hat2 (by kernel_rfl) Tryz.underlying3 rfl (by kernel_rfl)) rfl rfl (Ok.bat 2 [1, 2] [(14, .bool (e3.1 == 2))] ?_))
  refine Ok.boolAt 14 ((e3.1 == 2)) rfl (fun hc4 => ?_) (fun hc4 => ?_)
  ·replace hF := hF.1 hc4
   refine Ok.batch 2 [(14, .bool true), (15, .slice axl_0 xl.length cxl_0), (16, .int .i64 xn)] (by kernel_rfl) ?_
   obtain ⟨h06, h16, hF⟩ := hF
   have he6 := get_of (l := xl) (default : STE) h16
   generalize hg6 : (xl.getD (Int.toNat xn) default) = e6 at he6 hF ⊢
   refine Ok.opYes (j := 7) (d := 14) (want := true) (b := true) rfl (by kernel_rfl) (by kernel_rfl) rfl (OpOk.indexRo (e := .pair (.pair (.int .i64) (.int .i64)) (.pair (.pair (.int .i64) (.int .i64)) (.pair (.pair (.int .i64) (.int .i64)) (.pair (.pair (.int .i64) (.int .i64)) (.pair (.pair (.int .i64) (.int .i64)) (.pair (.pair (.int .i64) (.int .i64)) (.pair (.pair (.int .i64) (.int .i64)) (.pair (.pair (.int .i64) (.int .i64)) (.pair (.pair (.int .i64) (.int .i64)) (.pair (.pair (.int .i64) (.int .i64)) (.pair (.pair (.int .i64) (.int .i64)) (.pair (.pair (.int .i64) (.int .i64)) (.pair (.pair (.int .i64) (.int .i64)) (.pair (.pair (.int .i64) (.int .i64)) (.pair (.pair (.int .i64) (.int .i64)) (.pair (.pair (.int .i64) (.int .i64)) (.pair (.pair (.int .i64) (.int .i64)) (.pair (.pair (.int .i64) (.int .i64)) (.pair (.pair (.int .i64) (.int .i64)) (.pair (.pair (.int .i64) (.int .i64)) (.pair (.pair (.int .i64) (.int .i64)) (.pair (.pair (.int .i64) (.int .i64)) (.pair (.pair (.int .i64) (.int .i64)) (.pair (.pair (.int .i64) (.int .i64)) (.pair (.pair (.int .i64) (.int .i64)) (.pair (.pair (.int .i64) (.int .i64)) (.pair (.pair (.int .i64) (.int .i64)) (.pair (.pair (.int .i64) (.int .i64)) (.pair (.pair (.int .i64) (.int .i64)) (.pair (.pair (.int .i64) (.int .i64)) (.pair (.pair (.int .i64) (.int .i64)) (.pair (.pair (.int .i64) (.int .i64)) (.pair (.pair (.int .i64) (.int .i64)) (.pair (.pair (.int .i64) (.int .i64)) (.pair (.pair (.int .i64) (.int .i64)) (.pair (.pair (.int .i64) (.int .i64)) (.pair (.pair (.int .i64) (.int .i64)) (.pair (.pair (.int .i64) (.int .i64)) (.pair (.pair (.int .i64) (.int .i64)) (.pair (.pair (.int .i64) (.int .i64)) (.pair (.pair (.int .i64) (.int .i64)) (.pair (.pair (.int .i64) (.int .i64)) (.pair (.pair (.int .i64) (.int .i64)) (.pair (.pair (.int .i64) (.int .i64)) (.pair (.pair (.int .i64) (.int .i64)) (.pair (.pair (.int .i64) (.int .i64)) (.pair (.pair (.int .i64) (.int .i64)) (.pair (.pair (.int .i64) (.int .i64)) (.pair (.pair (.int .i64) (.int .i64)) (.pair (.pair (.int .i64) (.int .i64)) (.pair (.pair (.int .i64) (.int .i64)) (.pair (.pair (.int .i64) (.int .i64)) (.pair (.pair (.int .i64) (.int .i64)) (.pair (.pair (.int .i64) (.int .i64)) (.pair (.pair (.int .i64) (.int .i64)) (.pair (.pair (.int .i64) (.int .i64)) (.pair (.pair (.int .i64) (.int .i64)) (.pair (.pair (.int .i64) (.int .i64)) (.pair (.int .i64) (.int .i64)))))))))))))))))))))))))))))))))))))))))))))))))))))))))))) (i := xn) (el := e6) rfl rfl Tryz.underlying34 (by kernel_rfl) hRxl_0 h06 he6 rfl fun q5 o5 cs5 _ hat5 hr5 => ?_)
   obtain rfl : cs5 = (cel46 e6) := Rep.flatEq (by kernel_rfl) hr5 (by kernel_rfl)
   replace hat5 : At g q5 o5 (cel46 e6) := hat5
   refine Ok.bat 1 [14] [(18, pv q5 o5)] ?_
   refine Ok.opYes (j := 7) (d := 14) (want := true) (b := true) rfl (by kernel_rfl) (by kernel_rfl) rfl (OpOk.step (v := .agg #[.int .i64 e6.1.1, .int .i64 e6.1.2]) (Yields.loadAggRo 0 2 #[.int .i64 e6.1.1, .int .i64 e6.1.2] hat5 (by kernel_rfl) Tryz.underlying44 rfl (by kernel_rfl) (by kernel_rfl) (by kernel_rfl)) rfl rfl (Ok.bat 1 [14] [(19, .agg #[.int .i64 e6.1.1, .int .i64 e6.1.2]), (20, .agg #[.int .i64 1, .int .i64 8])] ?_))
   refine Ok.opYes (j := 7) (d := 14) (want := true) (b := true) rfl (by kernel_rfl) (by kernel_rfl) rfl (OpOk.step (v := .bool ([(e6.1.1 == 1), (e6.1.2 == 8)].all id)) (Yields.eqAgg (k := 2) rfl rfl (.struct (k := 1) Tryz.underlying44 (by kernel_rfl) ⟨by decide, ⟨.int .i64 e6.1.1, .int .i64 1, fun _ => by kernel_rfl, fun _ => by kernel_rfl, EqR.mono (k := 1) (.int Tryz.underlying3) (by decide)⟩, ⟨by decide, ⟨.int .i64 e6.1.2, .int .i64 8, fun _ => by kernel_rfl, fun _ => by kernel_rfl, EqR.mono (k := 1) (.int Tryz.underlying3) (by decide)⟩, trivial⟩⟩) rfl (by kernel_rfl)) rfl rfl ?_)
   refine Ok.batch 2 [(6, .bool ([(e6.1.1 == 1), (e6.1.2 == 8)].all id))] (by kernel_rfl) (Ok.nil (Ok.thenN ?_))
   subst hg6
   subst hg3
   refine Ok.reval 6 rfl (show (.bool ([((xl.getD (Int.toNat xn) default).1.1 == 1), ((xl.getD (Int.toNat xn) default).1.2 == 8)].all id) : Value) = .bool (citV0 xd xl xn) from congrArg (Value.bool) (mand_t hc4)) ?_
   exact fun a W hA hW => ⟨hA.sub (by kernel_rfl), hW.sub (.cons _ .slnil), hF⟩
  ·replace hF := hF.2 hc4
   refine Ok.batch 9 [(6, .bool false)] (by kernel_rfl) (Ok.nil (Ok.thenN ?_))
   subst hg3
   refine Ok.reval 6 rfl (show (.bool false : Value) = .bool (citV0 xd xl xn) from congrArg (Value.bool) (mand_f hc4)) ?_
   exact fun a W hA hW => ⟨hA.sub (by kernel_rfl), hW.sub (.cons _ .slnil), hF⟩
 ·
  clear hF
  rintro a W ⟨hA, hW, hF⟩
  refine (?_ : Ok _ _ _ _ _ _) a W hA hW
  clear hA hW
  refine Ok.ret ?_
  exact Ok.resH (vs := [.bool (citV0 xd xl xn)]) (.inl rfl) rfl (.cons (.tmp rfl) .nil) (Gext.refl w0 g) ⟨(citV0 xd xl xn), rfl, rfl, hF⟩
def citS (d : DC) (l : STL) (n : Int) : Bool := citV0 d l n
def citP (d : DC) (l : STL) (n : Int) : Prop := 0 ≤ n ∧ n.toNat < d.1.length ∧ l.length = d.1.length
theorem cit_F (d : DC) (l : STL) (n : Int) (hp : citP d l n) : citF d l n (fun r => r = citS d l n) := by
 obtain ⟨h0, h1, h2⟩ := hp
 exact ⟨h0, h1, fun _ => ⟨h0, by omega, rfl⟩, fun _ => rfl⟩
theorem cit_c {g : Ghost} {axd_0 : Option Addr} {cxd_0 : Nat} (xd : (List (Int × Bs × (List (Bs × Bs)) × Bs × Int × List (Int))) × Bool) {axl_0 : Option Addr} {cxl_0 : Nat} (xl : List ((Int × Int) × (Int × Int) × (Int × Int) × (Int × Int) × (Int × Int) × (Int × Int) × (Int × Int) × (Int × Int) × (Int × Int) × (Int × Int) × (Int × Int) × (Int × Int) × (Int × Int) × (Int × Int) × (Int × Int) × (Int × Int) × (Int × Int) × (Int × Int) × (Int × Int) × (Int × Int) × (Int × Int) × (Int × Int) × (Int × Int) × (Int × Int) × (Int × Int) × (Int × Int) × (Int × Int) × (Int × Int) × (Int × Int) × (Int × Int) × (Int × Int) × (Int × Int) × (Int × Int) × (Int × Int) × (Int × Int) × (Int × Int) × (Int × Int) × (Int × Int) × (Int × Int) × (Int × Int) × (Int × Int) × (Int × Int) × (Int × Int) × (Int × Int) × (Int × Int) × (Int × Int) × (Int × Int) × (Int × Int) × (Int × Int) × (Int × Int) × (Int × Int) × (Int × Int) × (Int × Int) × (Int × Int) × (Int × Int) × (Int × Int) × (Int × Int) × (Int × Int) × Int × Int)) (xn : Int) (hRxd_0 : Rep g (.slice (.pair (.int .i64) (.pair (.str) (.pair (.slice (.pair (.str) (.str))) (.pair (.str) (.pair (.int .i64) (.slice (.int .i64)))))))) [.slice axd_0 xd.1.length cxd_0] xd.1) (hRxl_0 : Rep g (.slice (.pair (.pair (.int .i64) (.int .i64)) (.pair (.pair (.int .i64) (.int .i64)) (.pair (.pair (.int .i64) (.int .i64)) (.pair (.pair (.int .i64) (.int .i64)) (.pair (.pair (.int .i64) (.int .i64)) (.pair (.pair (.int .i64) (.int .i64)) (.pair (.pair (.int .i64) (.int .i64)) (.pair (.pair (.int .i64) (.int .i64)) (.pair (.pair (.int .i64) (.int .i64)) (.pair (.pair (.int .i64) (.int .i64)) (.pair (.pair (.int .i64) (.int .i64)) (.pair (.pair (.int .i64) (.int .i64)) (.pair (.pair (.int .i64) (.int .i64)) (.pair (.pair (.int .i64) (.int .i64)) (.pair (.pair (.int .i64) (.int .i64)) (.pair (.pair (.int .i64) (.int .i64)) (.pair (.pair (.int .i64) (.int .i64)) (.pair (.pair (.int .i64) (.int .i64)) (.pair (.pair (.int .i64) (.int .i64)) (.pair (.pair (.int .i64) (.int .i64)) (.pair (.pair (.int .i64) (.int .i64)) (.pair (.pair (.int .i64) (.int .i64)) (.pair (.pair (.int .i64) (.int .i64)) (.pair (.pair (.int .i64) (.int .i64)) (.pair (.pair (.int .i64) (.int .i64)) (.pair (.pair (.int .i64) (.int .i64)) (.pair (.pair (.int .i64) (.int .i64)) (.pair (.pair (.int .i64) (.int .i64)) (.pair (.pair (.int .i64) (.int .i64)) (.pair (.pair (.int .i64) (.int .i64)) (.pair (.pair (.int .i64) (.int .i64)) (.pair (.pair (.int .i64) (.int .i64)) (.pair (.pair (.int .i64) (.int .i64)) (.pair (.pair (.int .i64) (.int .i64)) (.pair (.pair (.int .i64) (.int .i64)) (.pair (.pair (.int .i64) (.int .i64)) (.pair (.pair (.int .i64) (.int .i64)) (.pair (.pair (.int .i64) (.int .i64)) (.pair (.pair (.int .i64) (.int .i64)) (.pair (.pair (.int .i64) (.int .i64)) (.pair (.pair (.int .i64) (.int .i64)) (.pair (.pair (.int .i64) (.int .i64)) (.pair (.pair (.int .i64) (.int .i64)) (.pair (.pair (.int .i64) (.int .i64)) (.pair (.pair (.int .i64) (.int .i64)) (.pair (.pair (.int .i64) (.int .i64)) (.pair (.pair (.int .i64) (.int .i64)) (.pair (.pair (.int .i64) (.int .i64)) (.pair (.pair (.int .i64) (.int .i64)) (.pair (.pair (.int .i64) (.int .i64)) (.pair (.pair (.int .i64) (.int .i64)) (.pair (.pair (.int .i64) (.int .i64)) (.pair (.pair (.int .i64) (.int .i64)) (.pair (.pair (.int .i64) (.int .i64)) (.pair (.pair (.int .i64) (.int .i64)) (.pair (.pair (.int .i64) (.int .i64)) (.pair (.pair (.int .i64) (.int .i64)) (.pair (.pair (.int .i64) (.int .i64)) (.pair (.int .i64) (.int .i64))))))))))))))))))))))))))))))))))))))))))))))))))))))))))))) [.slice axl_0 xl.length cxl_0] xl)  (hp : citP xd xl xn) : CallsG Tryz.prog 34 #[.agg #[.slice axd_0 xd.1.length cxd_0, .bool xd.2], .slice axl_0 xl.length cxl_0, .int .i64 xn] g (.bool (citS xd xl xn)) :=
 (cit_ok xd xl xn hRxd_0 hRxl_0 _ (cit_F xd xl xn hp)).gives (by rintro g' H' v _ ⟨r0, rfl, rfl, hK⟩; subst hK; rfl)
/-! the numbers -/
abbrev valW : Bs := [118, 97, 108, 117, 101]
abbrev staW : Bs := [115, 116, 97, 114, 116]
def min1 (n : Int) : Int := if 1000000 < w6 (n + 1) then 1000000 else w6 (n + 1)
def own12 (next : Int) (x : ND) : Int := if (ctlS x valW).2 = true then (ctlS x valW).1 else next
def sta0 (x : ND) : Int := if (!((ctlS x staW).2)) = true then 1 else (ctlS x staW).1
def nodeN (d : DC) (n : Nat) : ND := d.1.getD n default
/-- the number that comes next, ahead of the kid in place j -/
def nx (d : DC) (l : STL) (p : Nat) : Nat → Int
 | 0 => sta0 (nodeN d p)
 | j + 1 => if citS d l ((kidsOf d.1 p).getD j default) = true then min1 (own12 (nx d l p j) (nodeN d ((kidsOf d.1 p).getD j default).toNat)) else nx d l p j
def numF (d : DC) (l : STL) (n : Nat) : Int :=
 if citS d l (n : Int) = true then
  if par d.1 n < 0 then own12 1 (nodeN d n) else own12 (nx d l (par d.1 n).toNat ((kidsOf d.1 (par d.1 n).toNat).idxOf (n : Int))) (nodeN d n)
 else 0
/-- is a node's number told ahead of the kid in place j of the row i? -/
def doneB (d : DC) (i j n : Nat) : Bool := if par d.1 n < 0 then decide (n < i) else decide ((par d.1 n).toNat < i) || (decide ((par d.1 n).toNat = i) && decide ((kidsOf d.1 i).idxOf (n : Int) < j))
def outN (d : DC) (l : STL) (i j : Nat) : List Int := (List.range d.1.length).map fun n => if doneB d i j n = true then numF d l n else 0
theorem outN_len (d : DC) (l : STL) (i j : Nat) : (outN d l i j).length = d.1.length := by unfold outN; simp
theorem outN_get (d : DC) (l : STL) (i j n : Nat) (h : n < d.1.length) : (outN d l i j)[n]? = some (if doneB d i j n = true then numF d l n else 0) := by
 unfold outN
 rw [List.getElem?_map, List.getElem?_range h]; rfl
theorem outN_ext {d : DC} {l : STL} {i j : Nat} {o : List Int} (hl : o.length = d.1.length) (h : ∀ n, n < d.1.length → o[n]? = some (if doneB d i j n = true then numF d l n else 0)) : o = outN d l i j := by
 apply List.ext_getElem?
 intro n
 by_cases hn : n < d.1.length
 ·rw [h n hn, outN_get d l i j n hn]
 ·rw [List.getElem?_eq_none (by omega), List.getElem?_eq_none (by rw [outN_len]; omega)]
theorem kid_in {d : DC} (h : DGood d) {p j : Nat} (hp : p < d.1.length) (hj : j < (kidsOf d.1 p).length) :
  ∃ n : Nat, (kidsOf d.1 p).getD j default = (n : Int) ∧ n < d.1.length ∧ par d.1 n = (p : Int) ∧ (kidsOf d.1 p).idxOf (n : Int) = j := by
 have hm := mem_getD (default : Int) hj
 obtain ⟨h0, h1, h2⟩ := h.kids.kid p hp _ hm
 refine ⟨((kidsOf d.1 p).getD j default).toNat, by omega, by omega, h2, ?_⟩
 rw [Int.toNat_of_nonneg h0, List.getD_eq_getElem?_getD, List.getElem?_eq_getElem hj, Option.getD_some]
 exact List.Nodup.idxOf_getElem (h.kids.nodup p hp) _ _
theorem kid_mem {d : DC} (h : DGood d) {n : Nat} (hn : n < d.1.length) (hp : ¬ par d.1 n < 0) : (par d.1 n).toNat < d.1.length ∧ (kidsOf d.1 (par d.1 n).toNat).idxOf (n : Int) < (kidsOf d.1 (par d.1 n).toNat).length := by
 rcases h.kids.up n hn with h1 | ⟨i, hi, h1, h2⟩
 ·omega
 ·have e : (par d.1 n).toNat = i := by omega
  rw [e]
  exact ⟨hi, List.idxOf_lt_length_iff.2 h2⟩
theorem step_kid {d : DC} {l : STL} (h : DGood d) {i j : Nat} (hi : i < d.1.length) (hj : j < (kidsOf d.1 i).length) :
  (if citS d l ((kidsOf d.1 i).getD j default) = true then (outN d l i j).set ((kidsOf d.1 i).getD j default).toNat (own12 (nx d l i j) (nodeN d ((kidsOf d.1 i).getD j default).toNat)) else outN d l i j) = outN d l i (j + 1) := by
 obtain ⟨n, e, hn, hp, hx⟩ := kid_in h hi hj
 rw [e, Int.toNat_natCast]
 have hd : ∀ m, m < d.1.length → m ≠ n → doneB d i (j + 1) m = doneB d i j m := fun m hm hmn => by
  unfold doneB
  split
  ·rfl
  ·rename_i h0
   by_cases hq : (par d.1 m).toNat = i
   ·have hk := kid_mem h hm h0
    rw [hq] at hk
    have hne : (kidsOf d.1 i).idxOf (m : Int) ≠ j := fun e2 => by
     have h1 : (kidsOf d.1 i)[(kidsOf d.1 i).idxOf (m : Int)]? = some (m : Int) := by
      rw [List.getElem?_eq_getElem hk.2, List.getElem_idxOf]
     rw [e2, List.getElem?_eq_getElem hj] at h1
     rw [List.getD_eq_getElem?_getD, List.getElem?_eq_getElem hj, Option.getD_some] at e
     injection h1 with h1
     omega
    congr 2
    rw [decide_eq_decide]; omega
   ·rw [decide_eq_false hq]; rfl
 have hdn : doneB d i (j + 1) n = true := by
  unfold doneB
  rw [if_neg (by omega), hp, Int.toNat_natCast, hx]; simp
 have hf : numF d l n = if citS d l (n : Int) = true then own12 (nx d l i j) (nodeN d n) else 0 := by
  unfold numF
  rw [hp, Int.toNat_natCast, hx, if_neg (show ¬ ((i : Int) < 0) by omega)]
 split
 ·rename_i hc
  refine outN_ext (by rw [List.length_set, outN_len]) fun m hm => ?_
  rw [List.getElem?_set, outN_len]
  by_cases hmn : n = m
  ·subst hmn
   rw [if_pos rfl, if_pos hn, hdn, hf, if_pos hc]; rfl
  ·rw [if_neg hmn, outN_get _ _ _ _ _ hm, hd m hm (fun e => hmn e.symm)]
 ·rename_i hc
  refine outN_ext (outN_len ..) fun m hm => ?_
  by_cases hmn : n = m
  ·subst hmn
   rw [outN_get _ _ _ _ _ hm, hdn, hf, if_neg hc]; simp
  ·rw [outN_get _ _ _ _ _ hm, hd m hm (fun e => hmn e.symm)]
theorem step_row {d : DC} {l : STL} (h : DGood d) {i : Nat} (hi : i < d.1.length) :
  (if ((decide (par d.1 i < 0)) && citS d l (i : Int)) = true then (outN d l i (kidsOf d.1 i).length).set i (own12 1 (nodeN d i)) else outN d l i (kidsOf d.1 i).length) = outN d l (i + 1) 0 := by
 have hd : ∀ m, m < d.1.length → m ≠ i ∨ ¬ par d.1 m < 0 → doneB d (i + 1) 0 m = doneB d i (kidsOf d.1 i).length m := fun m hm hmn => by
  unfold doneB
  split
  ·rw [decide_eq_decide]; omega
  ·rename_i h0
   have hk := kid_mem h hm h0
   by_cases hq : (par d.1 m).toNat = i
   ·rw [hq] at hk ⊢
    rw [decide_eq_true (show i < i + 1 by omega), decide_eq_true hk.2]; simp
   ·rw [decide_eq_false hq, Bool.false_and, Bool.or_false]
    have : decide ((par d.1 m).toNat < i + 1) = decide ((par d.1 m).toNat < i) := by rw [decide_eq_decide]; omega
    rw [this]; simp
 have hdi : par d.1 i < 0 → doneB d (i + 1) 0 i = true := fun h0 => by unfold doneB; rw [if_pos h0]; simp
 have hni : par d.1 i < 0 → doneB d i (kidsOf d.1 i).length i = false := fun h0 => by unfold doneB; rw [if_pos h0]; simp
 have hf : par d.1 i < 0 → numF d l i = if citS d l (i : Int) = true then own12 1 (nodeN d i) else 0 := fun h0 => by
  unfold numF; rw [if_pos h0]
 split
 ·rename_i hc
  rw [Bool.and_eq_true, decide_eq_true_eq] at hc
  refine outN_ext (by rw [List.length_set, outN_len]) fun m hm => ?_
  rw [List.getElem?_set, outN_len]
  by_cases hmn : i = m
  ·subst hmn
   rw [if_pos rfl, if_pos hi, hdi hc.1, hf hc.1, if_pos hc.2]; rfl
  ·rw [if_neg hmn, outN_get _ _ _ _ _ hm, hd m hm (.inl fun e => hmn e.symm)]
 ·rename_i hc
  refine outN_ext (outN_len ..) fun m hm => ?_
  by_cases hmn : i = m
  ·subst hmn
   by_cases h0 : par d.1 i < 0
   ·have hc : citS d l (i : Int) = false := by
     rw [decide_eq_true h0, Bool.true_and] at hc
     simpa using hc
    rw [outN_get _ _ _ _ _ hm, hdi h0, hni h0, hf h0, hc]; rfl
   ·rw [outN_get _ _ _ _ _ hm, hd i hm (.inr h0)]
  ·rw [outN_get _ _ _ _ _ hm, hd m hm (.inl fun e => hmn e.symm)]
theorem out_zero {d : DC} {l : STL} : List.replicate d.1.length 0 = outN d l 0 0 := outN_ext (by simp) fun n hn => by
 rw [List.getElem?_replicate, if_pos hn]
 congr 1
 have : doneB d 0 0 n = false := by unfold doneB; split <;> simp
 rw [this]; rfl
def cnuS (d : DC) (l : STL) : List Int := (List.range d.1.length).map (numF d l)
theorem out_all {d : DC} {l : STL} (h : DGood d) : outN d l d.1.length 0 = cnuS d l := by
 unfold outN cnuS
 refine List.map_congr_left fun n hn => ?_
 have hn := List.mem_range.1 hn
 have : doneB d d.1.length 0 n = true := by
  unfold doneB
  split
  ·exact decide_eq_true hn
  ·rename_i h0
   rw [decide_eq_true (kid_mem h hn h0).1]; rfl
 rw [this]; rfl
def cnuP (d : DC) (l : STL) : Prop := DGood d ∧ l.length = d.1.length ∧ dchkP d
theorem good_att {d : DC} (h : DGood d) {n : Nat} (hn : n < d.1.length) : AGood (nodeN d n).2.2.1 := h.vals n hn
def cnuV0 (e6 : ND) : Int :=
 (if (!((ctlS e6 ([115, 116, 97, 114, 116] : Bs)).2)) = true then 1 else (ctlS e6 ([115, 116, 97, 114, 116] : Bs)).1)
def cnuV7 (e6 : ND) : Int :=
 (if (ctlS e6 ([118, 97, 108, 117, 101] : Bs)).2 = true then (ctlS e6 ([118, 97, 108, 117, 101] : Bs)).1 else 1)
def cnuV12 (x9l34 : Int) (e15 : ND) : Int :=
 (if (ctlS e15 ([118, 97, 108, 117, 101] : Bs)).2 = true then (ctlS e15 ([118, 97, 108, 117, 101] : Bs)).1 else x9l34)
def cnuV15 (xd : DC) (xl : List (STE)) (e6 : ND) (x9l34 : Int) (x36l34 : Int) : Int :=
 (if (citS xd xl (e6.2.2.2.2.2.getD (Int.toNat x36l34) default)) = true then (if 1000000 < (w6 ((cnuV12 x9l34 (xd.1.getD (Int.toNat (e6.2.2.2.2.2.getD (Int.toNat x36l34) default)) default)) + 1)) then 1000000 else (w6 ((cnuV12 x9l34 (xd.1.getD (Int.toNat (e6.2.2.2.2.2.getD (Int.toNat x36l34) default)) default)) + 1))) else x9l34)
def cnuV16 (xd : DC) (xl : List (STE)) (e6 : ND) (x9l34 : Int) (x36l34 : Int) (yown2_0l34 : List (Int)) : List (Int) :=
 (if (citS xd xl (e6.2.2.2.2.2.getD (Int.toNat x36l34) default)) = true then (yown2_0l34.set (Int.toNat (e6.2.2.2.2.2.getD (Int.toNat x36l34) default)) (cnuV12 x9l34 (xd.1.getD (Int.toNat (e6.2.2.2.2.2.getD (Int.toNat x36l34) default)) default))) else yown2_0l34)
def cnuV17 (xd : DC) (x9l34 : Int) (e11 : Int) : Int :=
 (if (ctlS (xd.1.getD (Int.toNat e11) default) ([118, 97, 108, 117, 101] : Bs)).2 = true then (ctlS (xd.1.getD (Int.toNat e11) default) ([118, 97, 108, 117, 101] : Bs)).1 else x9l34)
def cnuj18 (yown2_0j18 : List (Int)) (x21l11 : Int) (C11 : Int → (List (Int)) → Prop) : Prop :=
 C11 (w6 (x21l11 + 1)) yown2_0j18
def cnuj41 (xd : DC) (xl : List (STE)) (e6 : ND) (x9l34 : Int) (x36l34 : Int) (yown2_0l34 : List (Int)) (C34 : Int → Int → (List (Int)) → Prop) : Prop :=
 C34 (cnuV15 xd xl e6 x9l34 x36l34) (w6 (x36l34 + 1)) (cnuV16 xd xl e6 x9l34 x36l34 yown2_0l34)
def cnuj3 (xd : DC) (xl : List (STE)) (e6 : ND) (x9l34 : Int) (x36l34 : Int) (yown2_0l34 : List (Int)) (e11 : Int) (C34 : Int → Int → (List (Int)) → Prop) : Prop :=
 (0 : Int) ≤ e11 ∧ Int.toNat e11 < yown2_0l34.length ∧ cnuj41 xd xl e6 x9l34 x36l34 yown2_0l34 C34
def cnuj3a (xd : DC) (yown2_0l34 : List (Int)) (x21l11 : Int) (C11 : Int → (List (Int)) → Prop) : Prop :=
 (0 : Int) ≤ x21l11 ∧ Int.toNat x21l11 < yown2_0l34.length ∧ cnuj18 (yown2_0l34.set (Int.toNat x21l11) (cnuV7 (xd.1.getD (Int.toNat x21l11) default))) x21l11 C11
def cnuj51 (xd : DC) (xl : List (STE)) (e6 : ND) (yown2_0l34 : List (Int)) (x21l11 : Int) (C11 : Int → (List (Int)) → Prop) : Prop :=
 ((((decide (e6.2.2.2.2.1 < 0)) && (citS xd xl x21l11))) = true → ctlP e6 ([118, 97, 108, 117, 101] : Bs) ∧ ((ctlS e6 ([118, 97, 108, 117, 101] : Bs)).2 = true → cnuj3a xd yown2_0l34 x21l11 C11) ∧ ((ctlS e6 ([118, 97, 108, 117, 101] : Bs)).2 = false → cnuj3a xd yown2_0l34 x21l11 C11)) ∧ ((((decide (e6.2.2.2.2.1 < 0)) && (citS xd xl x21l11))) = false → cnuj18 yown2_0l34 x21l11 C11)
def cnul34b (xd : DC) (xl : List (STE)) (e6 : ND) (x21l11 : Int) (C11 : Int → (List (Int)) → Prop) (x9l34 : Int) (x36l34 : Int) (yown2_0l34 : List (Int)) (C34 : Int → Int → (List (Int)) → Prop) : Prop :=
 ((decide (x36l34 < (e6.2.2.2.2.2.length : Int))) = true → (0 : Int) ≤ x36l34 ∧ Int.toNat x36l34 < e6.2.2.2.2.2.length ∧ citP xd xl (e6.2.2.2.2.2.getD (Int.toNat x36l34) default) ∧ (((citS xd xl (e6.2.2.2.2.2.getD (Int.toNat x36l34) default))) = true → (0 : Int) ≤ (e6.2.2.2.2.2.getD (Int.toNat x36l34) default) ∧ Int.toNat (e6.2.2.2.2.2.getD (Int.toNat x36l34) default) < xd.1.length ∧ ctlP (xd.1.getD (Int.toNat (e6.2.2.2.2.2.getD (Int.toNat x36l34) default)) default) ([118, 97, 108, 117, 101] : Bs) ∧ ((ctlS (xd.1.getD (Int.toNat (e6.2.2.2.2.2.getD (Int.toNat x36l34) default)) default) ([118, 97, 108, 117, 101] : Bs)).2 = true → cnuj3 xd xl e6 x9l34 x36l34 yown2_0l34 (e6.2.2.2.2.2.getD (Int.toNat x36l34) default) C34) ∧ ((ctlS (xd.1.getD (Int.toNat (e6.2.2.2.2.2.getD (Int.toNat x36l34) default)) default) ([118, 97, 108, 117, 101] : Bs)).2 = false → cnuj3 xd xl e6 x9l34 x36l34 yown2_0l34 (e6.2.2.2.2.2.getD (Int.toNat x36l34) default) C34)) ∧ (((citS xd xl (e6.2.2.2.2.2.getD (Int.toNat x36l34) default))) = false → cnuj41 xd xl e6 x9l34 x36l34 yown2_0l34 C34)) ∧ ((decide (x36l34 < (e6.2.2.2.2.2.length : Int))) = false → ((decide (e6.2.2.2.2.1 < 0)) = true → citP xd xl x21l11 ∧ cnuj51 xd xl e6 yown2_0l34 x21l11 C11) ∧ ((decide (e6.2.2.2.2.1 < 0)) = false → cnuj51 xd xl e6 yown2_0l34 x21l11 C11))
def cnul34 (xd : DC) (xl : List (STE)) (e6 : ND) (x21l11 : Int) (C11 : Int → (List (Int)) → Prop) : Nat → Int → Int → (List (Int)) → Prop
 | 0, _, _, _ => False
 | k + 1, x9l34, x36l34, yown2_0l34 => cnul34b xd xl e6 x21l11 C11 x9l34 x36l34 yown2_0l34 (cnul34 xd xl e6 x21l11 C11 k)
def cnuj24 (xd : DC) (xl : List (STE)) (e6 : ND) (x21l11 : Int) (yown2_0l11 : List (Int)) (C11 : Int → (List (Int)) → Prop) : Prop :=
 ∃ k, cnul34 xd xl e6 x21l11 C11 k (cnuV0 e6) 0 yown2_0l11
def cnul11b (xd : DC) (xl : List (STE)) (K : (List (Int)) → Prop) (x21l11 : Int) (yown2_0l11 : List (Int)) (C11 : Int → (List (Int)) → Prop) : Prop :=
 ((decide (x21l11 < (xd.1.length : Int))) = true → (0 : Int) ≤ x21l11 ∧ Int.toNat x21l11 < xd.1.length ∧ ctlP (xd.1.getD (Int.toNat x21l11) default) ([115, 116, 97, 114, 116] : Bs) ∧ ((!((ctlS (xd.1.getD (Int.toNat x21l11) default) ([115, 116, 97, 114, 116] : Bs)).2)) = true → cnuj24 xd xl (xd.1.getD (Int.toNat x21l11) default) x21l11 yown2_0l11 C11) ∧ ((!((ctlS (xd.1.getD (Int.toNat x21l11) default) ([115, 116, 97, 114, 116] : Bs)).2)) = false → cnuj24 xd xl (xd.1.getD (Int.toNat x21l11) default) x21l11 yown2_0l11 C11)) ∧ ((decide (x21l11 < (xd.1.length : Int))) = false → K yown2_0l11)
def cnul11 (xd : DC) (xl : List (STE)) (K : (List (Int)) → Prop) : Nat → Int → (List (Int)) → Prop
 | 0, _, _ => False
 | k + 1, x21l11, yown2_0l11 => cnul11b xd xl K x21l11 yown2_0l11 (cnul11 xd xl K k)
def cnuF (xd : DC) (xl : List (STE)) (K : (List (Int)) → Prop) : Prop :=
 (0 : Int) ≤ (xd.1.length : Int) ∧ (xd.1.length : Int) ≤ 17592186044416 ∧ ∃ k, cnul11 xd xl K k 0 (List.replicate (Int.toNat (xd.1.length : Int)) (0 : Int))
theorem cnu_ok {g : Ghost} {axd_0 : Option Addr} {cxd_0 : Nat} (xd : DC) {axl_0 : Option Addr} {cxl_0 : Nat} (xl : List (STE)) (hRxd_0 : Rep g (.slice (.pair (.int .i64) (.pair (.str) (.pair (.slice (.pair (.str) (.str))) (.pair (.str) (.pair (.int .i64) (.slice (.int .i64)))))))) [.slice axd_0 xd.1.length cxd_0] xd.1) (hRxl_0 : Rep g (.slice (.pair (.pair (.int .i64) (.int .i64)) (.pair (.pair (.int .i64) (.int .i64)) (.pair (.pair (.int .i64) (.int .i64)) (.pair (.pair (.int .i64) (.int .i64)) (.pair (.pair (.int .i64) (.int .i64)) (.pair (.pair (.int .i64) (.int .i64)) (.pair (.pair (.int .i64) (.int .i64)) (.pair (.pair (.int .i64) (.int .i64)) (.pair (.pair (.int .i64) (.int .i64)) (.pair (.pair (.int .i64) (.int .i64)) (.pair (.pair (.int .i64) (.int .i64)) (.pair (.pair (.int .i64) (.int .i64)) (.pair (.pair (.int .i64) (.int .i64)) (.pair (.pair (.int .i64) (.int .i64)) (.pair (.pair (.int .i64) (.int .i64)) (.pair (.pair (.int .i64) (.int .i64)) (.pair (.pair (.int .i64) (.int .i64)) (.pair (.pair (.int .i64) (.int .i64)) (.pair (.pair (.int .i64) (.int .i64)) (.pair (.pair (.int .i64) (.int .i64)) (.pair (.pair (.int .i64) (.int .i64)) (.pair (.pair (.int .i64) (.int .i64)) (.pair (.pair (.int .i64) (.int .i64)) (.pair (.pair (.int .i64) (.int .i64)) (.pair (.pair (.int .i64) (.int .i64)) (.pair (.pair (.int .i64) (.int .i64)) (.pair (.pair (.int .i64) (.int .i64)) (.pair (.pair (.int .i64) (.int .i64)) (.pair (.pair (.int .i64) (.int .i64)) (.pair (.pair (.int .i64) (.int .i64)) (.pair (.pair (.int .i64) (.int .i64)) (.pair (.pair (.int .i64) (.int .i64)) (.pair (.pair (.int .i64) (.int .i64)) (.pair (.pair (.int .i64) (.int .i64)) (.pair (.pair (.int .i64) (.int .i64)) (.pair (.pair (.int .i64) (.int .i64)) (.pair (.pair (.int .i64) (.int .i64)) (.pair (.pair (.int .i64) (.int .i64)) (.pair (.pair (.int .i64) (.int .i64)) (.pair (.pair (.int .i64) (.int .i64)) (.pair (.pair (.int .i64) (.int .i64)) (.pair (.pair (.int .i64) (.int .i64)) (.pair (.pair (.int .i64) (.int .i64)) (.pair (.pair (.int .i64) (.int .i64)) (.pair (.pair (.int .i64) (.int .i64)) (.pair (.pair (.int .i64) (.int .i64)) (.pair (.pair (.int .i64) (.int .i64)) (.pair (.pair (.int .i64) (.int .i64)) (.pair (.pair (.int .i64) (.int .i64)) (.pair (.pair (.int .i64) (.int .i64)) (.pair (.pair (.int .i64) (.int .i64)) (.pair (.pair (.int .i64) (.int .i64)) (.pair (.pair (.int .i64) (.int .i64)) (.pair (.pair (.int .i64) (.int .i64)) (.pair (.pair (.int .i64) (.int .i64)) (.pair (.pair (.int .i64) (.int .i64)) (.pair (.pair (.int .i64) (.int .i64)) (.pair (.pair (.int .i64) (.int .i64)) (.pair (.int .i64) (.int .i64))))))))))))))))))))))))))))))))))))))))))))))))))))))))))))) [.slice axl_0 xl.length cxl_0] xl) (hG7 : GlobL g 7 (.int .u64) DPow) (hG8 : SomeIf g 8) (hG9 : SomeIf g 9) (K : (List (Int)) → Prop)
  (hF : cnuF xd xl K) : CallsH Tryz.prog 33 #[.agg #[.slice axd_0 xd.1.length cxd_0, .bool xd.2], .slice axl_0 xl.length cxl_0] g [] (fun g' H' v => ∃ (r0 : List (Int)), ∃ (ar0_0 : Option Addr) (cr0_0 : Nat), v = .slice ar0_0 r0.length cr0_0 ∧ Rep g' (.slice (.int .i64)) [.slice ar0_0 r0.length cr0_0] r0 ∧ H' = [] ∧ K r0) := by
 refine CallsH.enter 63 [(0, .agg #[.slice axd_0 xd.1.length cxd_0, .bool xd.2]), (1, .slice axl_0 xl.length cxl_0)] Tryz.func33 rfl (by kernel_rfl) (by kernel_rfl) (by kernel_rfl) fun w0 => ?_
 refine Ok.seq (Ok.region (Ok.op rfl (OpOk.box (v := .agg #[.slice axd_0 xd.1.length cxd_0, .bool xd.2]) (cs := #[.slice axd_0 xd.1.length cxd_0, .bool xd.2]) rfl (by kernel_rfl) rfl fun b1 => ?_)))
 refine Ok.batch 1 [(1, .slice axl_0 xl.length cxl_0), (2, pv b1 0)] (by kernel_rfl) (Ok.nil (Ok.thenN (Ok.seq (Ok.region (Ok.bat 1 [1, 2] [(13, pv b1 0)] ?_)))))
 refine Ok.op rfl (OpOk.step (v := .slice axd_0 xd.1.length cxd_0) (Yields.load 0 rfl rfl Tryz.underlying22 rfl (by kernel_rfl)) rfl rfl (Ok.bat 1 [1, 2] [(15, .int .i64 (xd.1.length : Int))] ?_))
 obtain ⟨h02, h12, hF⟩ := hF
 refine Ok.op rfl (OpOk.makeZero (e := .int .i64) (E := 3) (nn := (xd.1.length : Int)) (y := 0) (z := .int .i64 0) 8 17592186044416 rfl rfl Tryz.underlying36 (by kernel_rfl) (by kernel_rfl) (by kernel_rfl) rfl h02 h12 rfl fun a2 c2 xs2 hL2 => ?_)
 refine Ok.op rfl (OpOk.alloc (z := .slice none 0 0) (cs := #[.slice none 0 0]) (by kernel_rfl) (by kernel_rfl) rfl fun b3 => ?_)
 refine Ok.op rfl (OpOk.sto (k := 1) (v := .slice a2 (List.replicate (Int.toNat (xd.1.length : Int)) (0 : Int)).length c2) 0 #[.slice a2 (List.replicate (Int.toNat (xd.1.length : Int)) (0 : Int)).length c2] rfl rfl rfl ?_)
 refine Ok.nil (Ok.thenN (Ok.seq (Ok.region (Ok.bat 2 [1, 2] [(5, pv b3 0), (6, .func (.func 61) #[] #[pv b1 0, pv b3 0])] ?_))))
 refine Ok.nil (Ok.thenN (Ok.seq (Ok.seq (Ok.region (Ok.bat 1 [1, 2, 5, 6] [(18, pv b1 0)] ?_)))))
 refine Ok.op rfl (OpOk.step (v := .slice axd_0 xd.1.length cxd_0) (Yields.load 2 rfl rfl Tryz.underlying22 rfl (by kernel_rfl)) rfl rfl (Ok.bat 2 [1, 2, 5, 6] [(19, .slice axd_0 xd.1.length cxd_0), (20, .int .i64 (xd.1.length : Int)), (21, .int .i64 0)] ?_))
 refine Ok.nil (Ok.thenN (Ok.block ?_))
 obtain ⟨k, hF⟩ := hF
 refine Ok.loop (fun k a W => ∃ gl11 : Ghost, Gext w0 g gl11 ∧ ∃ (x21l11 : Int) (ayown2_0l11 : Option Addr) (cyown2_0l11 : Nat) (yown2_0l11 : List (Int)) (xsyown2_0l11 : List Value), RepL gl11 (.int .i64) xsyown2_0l11 yown2_0l11 ∧ StA 63 [(1, .slice axl_0 xl.length cxl_0), (2, pv b1 0), (5, pv b3 0), (6, .func (.func 61) #[] #[pv b1 0, pv b3 0]), (19, .slice axd_0 xd.1.length cxd_0), (20, .int .i64 (xd.1.length : Int)), (21, .int .i64 x21l11)] a ∧ StW w0 [.blk b3 (.cells #[.slice ayown2_0l11 yown2_0l11.length cyown2_0l11] 36), .own (.slice ayown2_0l11 yown2_0l11.length cyown2_0l11) 3 1 yown2_0l11.length xsyown2_0l11, .blk b1 (.cells #[.slice axd_0 xd.1.length cxd_0, .bool xd.2] 24)] gl11 W ∧ cnul11 xd xl K k x21l11 yown2_0l11) k ?_ ?_
 ·
  exact fun a W hA hW => ⟨g, (Gext.refl w0 g), 0, a2, c2, (List.replicate (Int.toNat (xd.1.length : Int)) (0 : Int)), xs2, hL2, hA.sub (by kernel_rfl), hW, hF⟩
 ·
  clear hF
  rintro k11 a W ⟨gl11, hxl11, x21l11, ayown2_0l11, cyown2_0l11, yown2_0l11, xsyown2_0l11, hLyown2_0l11, hA, hW, hF⟩
  cases k11 with
  | zero => exact (hF : False).elim
  | succ k11 =>
   refine (?_ : Ok _ _ _ _ _ _) a W hA hW
   clear hA hW
   replace hRxl_0 := hRxl_0.mono hxl11.1
   replace hRxd_0 := hRxd_0.mono hxl11.1
   replace hG7 := hG7.mono hxl11.1
   replace hG8 := hG8.mono hxl11.1
   replace hG9 := hG9.mono hxl11.1
   refine Ok.seq (Ok.region (Ok.bat 1 [1, 2, 5, 6, 19, 20, 21] [(22, .bool (decide (x21l11 < (xd.1.length : Int))))] ?_))
   refine Ok.nil (Ok.thenN (Ok.seq (Ok.cond (b := decide (x21l11 < (xd.1.length : Int))) rfl (fun hc4 => ?_) (fun hc4 => ?_))))
   ·replace hF := hF.1 hc4
    refine Ok.skip (Ok.thenN (Ok.cut (fun a W => ∃ gj18 : Ghost, Gext w0 gl11 gj18 ∧ ∃ (ayown2_0j18 : Option Addr) (cyown2_0j18 : Nat) (yown2_0j18 : List (Int)) (xsyown2_0j18 : List Value), RepL gj18 (.int .i64) xsyown2_0j18 yown2_0j18 ∧ StA 63 [(1, .slice axl_0 xl.length cxl_0), (2, pv b1 0), (5, pv b3 0), (6, .func (.func 61) #[] #[pv b1 0, pv b3 0]), (19, .slice axd_0 xd.1.length cxd_0), (20, .int .i64 (xd.1.length : Int)), (21, .int .i64 x21l11)] a ∧ StW w0 [.blk b3 (.cells #[.slice ayown2_0j18 yown2_0j18.length cyown2_0j18] 36), .own (.slice ayown2_0j18 yown2_0j18.length cyown2_0j18) 3 1 yown2_0j18.length xsyown2_0j18, .blk b1 (.cells #[.slice axd_0 xd.1.length cxd_0, .bool xd.2] 24)] gj18 W ∧ cnuj18 yown2_0j18 x21l11 (cnul11 xd xl K k11)) ?_ ?_))
    ·
     refine Ok.block (Ok.seq (Ok.region (Ok.bat 1 [1, 2, 5, 6, 19, 20, 21] [(23, .int .i64 x21l11)] ?_)))
     obtain ⟨h06, h16, hF⟩ := hF
     have he6 := get_of (l := xd.1) (default : ND) h16
     generalize hg6 : (xd.1.getD (Int.toNat x21l11) default) = e6 at he6 hF ⊢
     refine Ok.op rfl (OpOk.indexRo (e := .pair (.int .i64) (.pair (.str) (.pair (.slice (.pair (.str) (.str))) (.pair (.str) (.pair (.int .i64) (.slice (.int .i64))))))) (i := x21l11) (el := e6) rfl rfl Tryz.underlying22 (by kernel_rfl) hRxd_0 h06 he6 rfl fun q5 o5 cs5 _ hat5 hr5 => ?_)
     obtain ⟨_, _, rfl, rfl, ⟨_, _, rfl, rfl, ⟨_, _, rfl, ⟨a5_2, c5_2, rfl, hm5_2, hr5_2⟩, ⟨_, _, rfl, rfl, ⟨_, _, rfl, rfl, ⟨a5_5, c5_5, rfl, hm5_5, hr5_5⟩⟩⟩⟩⟩⟩ := hr5
     have hR5_2 : Rep gl11 (.slice (.pair (.str) (.str))) [.slice a5_2 e6.2.2.1.length c5_2] e6.2.2.1 := ⟨a5_2, c5_2, rfl, hm5_2, hr5_2⟩
     have hR5_5 : Rep gl11 (.slice (.int .i64)) [.slice a5_5 e6.2.2.2.2.2.length c5_5] e6.2.2.2.2.2 := ⟨a5_5, c5_5, rfl, hm5_5, hr5_5⟩
     replace hat5 : At gl11 q5 o5 [.int .i64 e6.1, sv e6.2.1, .slice a5_2 e6.2.2.1.length c5_2, sv e6.2.2.2.1, .int .i64 e6.2.2.2.2.1, .slice a5_5 e6.2.2.2.2.2.length c5_5] := hat5
     refine Ok.op rfl (OpOk.step (v := .agg #[.int .i64 e6.1, sv e6.2.1, .slice a5_2 e6.2.2.1.length c5_2, sv e6.2.2.2.1, .int .i64 e6.2.2.2.2.1, .slice a5_5 e6.2.2.2.2.2.length c5_5]) (Yields.loadAggRo 0 6 #[.int .i64 e6.1, sv e6.2.1, .slice a5_2 e6.2.2.1.length c5_2, sv e6.2.2.2.1, .int .i64 e6.2.2.2.2.1, .slice a5_5 e6.2.2.2.2.2.length c5_5] hat5 (by kernel_rfl) Tryz.underlying74 rfl (by kernel_rfl) (by kernel_rfl) (by kernel_rfl)) rfl rfl (Ok.op rfl (OpOk.alloc (z := .agg #[.int .i64 0, sv ([] : Bs), .slice none 0 0, sv ([] : Bs), .int .i64 0, .slice none 0 0]) (cs := #[.int .i64 0, sv ([] : Bs), .slice none 0 0, sv ([] : Bs), .int .i64 0, .slice none 0 0]) (by kernel_rfl) (by kernel_rfl) rfl fun b7 => ?_)))
     refine Ok.bat 1 [1, 2, 5, 6, 19, 20, 21] [(7, .int .i64 x21l11), (8, pv b7 0), (25, .agg #[.int .i64 e6.1, sv e6.2.1, .slice a5_2 e6.2.2.1.length c5_2, sv e6.2.2.2.1, .int .i64 e6.2.2.2.2.1, .slice a5_5 e6.2.2.2.2.2.length c5_5])] ?_
     refine Ok.op rfl (OpOk.sto (k := 6) (v := .agg #[.int .i64 e6.1, sv e6.2.1, .slice a5_2 e6.2.2.1.length c5_2, sv e6.2.2.2.1, .int .i64 e6.2.2.2.2.1, .slice a5_5 e6.2.2.2.2.2.length c5_5]) 0 #[.int .i64 e6.1, sv e6.2.1, .slice a5_2 e6.2.2.1.length c5_2, sv e6.2.2.2.1, .int .i64 e6.2.2.2.2.1, .slice a5_5 e6.2.2.2.2.2.length c5_5] rfl rfl rfl ?_)
     refine Ok.nil (Ok.thenN (Ok.seq (Ok.region (Ok.op rfl (OpOk.step (v := .agg #[.int .i64 e6.1, sv e6.2.1, .slice a5_2 e6.2.2.1.length c5_2, sv e6.2.2.2.1, .int .i64 e6.2.2.2.2.1, .slice a5_5 e6.2.2.2.2.2.length c5_5]) (Yields.loadAgg 0 6 #[.int .i64 e6.1, sv e6.2.1, .slice a5_2 e6.2.2.1.length c5_2, sv e6.2.2.2.1, .int .i64 e6.2.2.2.2.1, .slice a5_5 e6.2.2.2.2.2.length c5_5] rfl rfl Tryz.underlying74 rfl (by kernel_rfl) (by kernel_rfl) (by kernel_rfl)) rfl rfl ?_)))))
     obtain ⟨hp8, hF⟩ := hF
     refine Ok.op rfl (OpOk.callG (v := .tuple #[.int .i64 (ctlS e6 ([115, 116, 97, 114, 116] : Bs)).1, .bool (ctlS e6 ([115, 116, 97, 114, 116] : Bs)).2]) enr (fun W hW => ctl_c e6 ([115, 116, 97, 114, 116] : Bs) (hR5_2.mono hW.sees) (hR5_5.mono hW.sees) (hG7.mono hW.sees) (hG8.mono hW.sees) (hG9.mono hW.sees) hp8) rfl ?_)
     refine Ok.bat 5 [1, 2, 5, 6, 7, 8, 19, 20, 21] [(9, .int .i64 (ctlS e6 ([115, 116, 97, 114, 116] : Bs)).1), (10, .bool (ctlS e6 ([115, 116, 97, 114, 116] : Bs)).2)] ?_
     refine Ok.nil (Ok.thenN (Ok.cut (fun a W => ∃ gj24 : Ghost, Gext w0 gl11 gj24 ∧ StA 63 [(1, .slice axl_0 xl.length cxl_0), (2, pv b1 0), (5, pv b3 0), (6, .func (.func 61) #[] #[pv b1 0, pv b3 0]), (7, .int .i64 x21l11), (8, pv b7 0), (9, .int .i64 (cnuV0 e6)), (19, .slice axd_0 xd.1.length cxd_0), (20, .int .i64 (xd.1.length : Int)), (21, .int .i64 x21l11)] a ∧ StW w0 [.blk b7 (.cells #[.int .i64 e6.1, sv e6.2.1, .slice a5_2 e6.2.2.1.length c5_2, sv e6.2.2.2.1, .int .i64 e6.2.2.2.2.1, .slice a5_5 e6.2.2.2.2.2.length c5_5] 74), .blk b3 (.cells #[.slice ayown2_0l11 yown2_0l11.length cyown2_0l11] 36), .own (.slice ayown2_0l11 yown2_0l11.length cyown2_0l11) 3 1 yown2_0l11.length xsyown2_0l11, .blk b1 (.cells #[.slice axd_0 xd.1.length cxd_0, .bool xd.2] 24)] gj24 W ∧ cnuj24 xd xl e6 x21l11 yown2_0l11 (cnul11 xd xl K k11)) ?_ ?_))
     ·
      refine Ok.seq (Ok.region (Ok.bat 2 [1, 2, 5, 6, 7, 8, 9, 19, 20, 21] [(32, .bool (!((ctlS e6 ([115, 116, 97, 114, 116] : Bs)).2)))] ?_))
      refine Ok.nil (Ok.thenN (Ok.cond (b := !((ctlS e6 ([115, 116, 97, 114, 116] : Bs)).2)) rfl (fun hc30 => ?_) (fun hc30 => ?_)))
      ·replace hF := hF.1 hc30
       refine Ok.region (Ok.bat 1 [1, 2, 5, 6, 7, 8, 19, 20, 21] [(9, .int .i64 1)] ?_)
       refine Ok.nil (Ok.thenN (Ok.reval 9 rfl (show (.int .i64 1 : Value) = .int .i64 (cnuV0 e6) from congrArg (Value.int .i64) ((if_t hc30).symm)) ?_))
       exact fun a W hA hW => ⟨gl11, (Gext.refl w0 gl11), hA.sub (by kernel_rfl), hW, hF⟩
      ·replace hF := hF.2 hc30
       refine Ok.skip (Ok.thenN (Ok.reval 9 rfl (show (.int .i64 (ctlS e6 ([115, 116, 97, 114, 116] : Bs)).1 : Value) = .int .i64 (cnuV0 e6) from congrArg (Value.int .i64) ((if_f hc30).symm)) ?_))
       exact fun a W hA hW => ⟨gl11, (Gext.refl w0 gl11), hA.sub (by kernel_rfl), hW, hF⟩
     ·
      clear hF
      rintro a W ⟨gj24, hxj24, hA, hW, hF⟩
      refine (?_ : Ok _ _ _ _ _ _) a W hA hW
      clear hA hW
      replace hRxl_0 := hRxl_0.mono hxj24.1
      replace hRxd_0 := hRxd_0.mono hxj24.1
      replace hR5_2 := hR5_2.mono hxj24.1
      replace hR5_5 := hR5_5.mono hxj24.1
      replace hLyown2_0l11 := hLyown2_0l11.mono hxj24.1
      replace hG7 := hG7.mono hxj24.1
      replace hG8 := hG8.mono hxj24.1
      replace hG9 := hG9.mono hxj24.1
      refine Ok.seq (Ok.seq (Ok.region (Ok.bat 1 [1, 2, 5, 6, 7, 8, 9, 19, 20, 21] [(33, pv b7 5)] ?_)))
      refine Ok.op rfl (OpOk.step (v := .slice a5_5 e6.2.2.2.2.2.length c5_5) (Yields.load 0 rfl rfl Tryz.underlying36 rfl (by kernel_rfl)) rfl rfl (Ok.bat 2 [1, 2, 5, 6, 7, 8, 9, 19, 20, 21] [(34, .slice a5_5 e6.2.2.2.2.2.length c5_5), (35, .int .i64 (e6.2.2.2.2.2.length : Int)), (36, .int .i64 0)] ?_))
      refine Ok.nil (Ok.thenN (Ok.block ?_))
      obtain ⟨k, hF⟩ := hF
      refine Ok.loop (fun k a W => ∃ gl34 : Ghost, Gext w0 gj24 gl34 ∧ ∃ (x9l34 : Int) (x36l34 : Int) (ayown2_0l34 : Option Addr) (cyown2_0l34 : Nat) (yown2_0l34 : List (Int)) (xsyown2_0l34 : List Value), RepL gl34 (.int .i64) xsyown2_0l34 yown2_0l34 ∧ StA 63 [(1, .slice axl_0 xl.length cxl_0), (2, pv b1 0), (5, pv b3 0), (6, .func (.func 61) #[] #[pv b1 0, pv b3 0]), (7, .int .i64 x21l11), (8, pv b7 0), (9, .int .i64 x9l34), (19, .slice axd_0 xd.1.length cxd_0), (20, .int .i64 (xd.1.length : Int)), (21, .int .i64 x21l11), (34, .slice a5_5 e6.2.2.2.2.2.length c5_5), (35, .int .i64 (e6.2.2.2.2.2.length : Int)), (36, .int .i64 x36l34)] a ∧ StW w0 [.blk b7 (.cells #[.int .i64 e6.1, sv e6.2.1, .slice a5_2 e6.2.2.1.length c5_2, sv e6.2.2.2.1, .int .i64 e6.2.2.2.2.1, .slice a5_5 e6.2.2.2.2.2.length c5_5] 74), .blk b3 (.cells #[.slice ayown2_0l34 yown2_0l34.length cyown2_0l34] 36), .own (.slice ayown2_0l34 yown2_0l34.length cyown2_0l34) 3 1 yown2_0l34.length xsyown2_0l34, .blk b1 (.cells #[.slice axd_0 xd.1.length cxd_0, .bool xd.2] 24)] gl34 W ∧ cnul34 xd xl e6 x21l11 (cnul11 xd xl K k11) k x9l34 x36l34 yown2_0l34) k ?_ ?_
      ·
       exact fun a W hA hW => ⟨gj24, (Gext.refl w0 gj24), (cnuV0 e6), 0, ayown2_0l11, cyown2_0l11, yown2_0l11, xsyown2_0l11, hLyown2_0l11, hA.sub (by kernel_rfl), hW, hF⟩
      ·
       clear hF
       rintro k34 a W ⟨gl34, hxl34, x9l34, x36l34, ayown2_0l34, cyown2_0l34, yown2_0l34, xsyown2_0l34, hLyown2_0l34, hA, hW, hF⟩
       cases k34 with
       | zero => exact (hF : False).elim
       | succ k34 =>
        refine (?_ : Ok _ _ _ _ _ _) a W hA hW
        clear hA hW
        replace hRxl_0 := hRxl_0.mono hxl34.1
        replace hRxd_0 := hRxd_0.mono hxl34.1
        replace hR5_5 := hR5_5.mono hxl34.1
        replace hR5_2 := hR5_2.mono hxl34.1
        replace hG7 := hG7.mono hxl34.1
        replace hG8 := hG8.mono hxl34.1
        replace hG9 := hG9.mono hxl34.1
        refine Ok.seq (Ok.region (Ok.bat 1 [1, 2, 5, 6, 7, 8, 9, 19, 20, 21, 34, 35, 36] [(37, .bool (decide (x36l34 < (e6.2.2.2.2.2.length : Int))))] ?_))
        refine Ok.nil (Ok.thenN (Ok.seq (Ok.cond (b := decide (x36l34 < (e6.2.2.2.2.2.length : Int))) rfl (fun hc9 => ?_) (fun hc9 => ?_))))
        ·replace hF := hF.1 hc9
         refine Ok.skip (Ok.thenN (Ok.cut (fun a W => ∃ gj41 : Ghost, Gext w0 gl34 gj41 ∧ ∃ (ayown2_0j41 : Option Addr) (cyown2_0j41 : Nat) (xsyown2_0j41 : List Value), RepL gj41 (.int .i64) xsyown2_0j41 (cnuV16 xd xl e6 x9l34 x36l34 yown2_0l34) ∧ StA 63 [(1, .slice axl_0 xl.length cxl_0), (2, pv b1 0), (5, pv b3 0), (6, .func (.func 61) #[] #[pv b1 0, pv b3 0]), (7, .int .i64 x21l11), (8, pv b7 0), (9, .int .i64 (cnuV15 xd xl e6 x9l34 x36l34)), (19, .slice axd_0 xd.1.length cxd_0), (20, .int .i64 (xd.1.length : Int)), (21, .int .i64 x21l11), (34, .slice a5_5 e6.2.2.2.2.2.length c5_5), (35, .int .i64 (e6.2.2.2.2.2.length : Int)), (36, .int .i64 x36l34)] a ∧ StW w0 [.blk b7 (.cells #[.int .i64 e6.1, sv e6.2.1, .slice a5_2 e6.2.2.1.length c5_2, sv e6.2.2.2.1, .int .i64 e6.2.2.2.2.1, .slice a5_5 e6.2.2.2.2.2.length c5_5] 74), .blk b3 (.cells #[.slice ayown2_0j41 (cnuV16 xd xl e6 x9l34 x36l34 yown2_0l34).length cyown2_0j41] 36), .own (.slice ayown2_0j41 (cnuV16 xd xl e6 x9l34 x36l34 yown2_0l34).length cyown2_0j41) 3 1 (cnuV16 xd xl e6 x9l34 x36l34 yown2_0l34).length xsyown2_0j41, .blk b1 (.cells #[.slice axd_0 xd.1.length cxd_0, .bool xd.2] 24)] gj41 W ∧ cnuj41 xd xl e6 x9l34 x36l34 yown2_0l34 (cnul34 xd xl e6 x21l11 (cnul11 xd xl K k11) k34)) ?_ ?_))
         ·
          refine Ok.block (Ok.seq (Ok.region ?_))
          obtain ⟨h011, h111, hF⟩ := hF
          have he11 := get_of (l := e6.2.2.2.2.2) (default : Int) h111
          generalize hg11 : (e6.2.2.2.2.2.getD (Int.toNat x36l34) default) = e11 at he11 hF ⊢
          refine Ok.op rfl (OpOk.indexRo (e := .int .i64) (i := x36l34) (el := e11) rfl rfl Tryz.underlying36 (by kernel_rfl) hR5_5 h011 he11 rfl fun q10 o10 cs10 _ hat10 hr10 => ?_)
          obtain rfl := hr10
          replace hat10 : At gl34 q10 o10 [.int .i64 e11] := hat10
          refine Ok.op rfl (OpOk.step (v := .int .i64 e11) (Yields.loadRo 0 hat10 (by kernel_rfl) Tryz.underlying3 rfl (by kernel_rfl)) rfl rfl (Ok.bat 1 [1, 2, 5, 6, 7, 8, 9, 19, 20, 21, 34, 35, 36] [(12, .int .i64 e11)] ?_))
          refine Ok.nil (Ok.thenN (Ok.seq (Ok.region (Ok.op rfl (OpOk.step (v := .agg #[.slice axd_0 xd.1.length cxd_0, .bool xd.2]) (Yields.loadAgg 3 2 #[.slice axd_0 xd.1.length cxd_0, .bool xd.2] rfl rfl Tryz.underlying24 rfl (by kernel_rfl) (by kernel_rfl) (by kernel_rfl)) rfl rfl (Ok.bat 2 [1, 2, 5, 6, 7, 8, 9, 12, 19, 20, 21, 34, 35, 36] [(40, .agg #[.slice axd_0 xd.1.length cxd_0, .bool xd.2]), (41, .slice axl_0 xl.length cxl_0), (42, .int .i64 e11)] ?_))))))
          obtain ⟨hp12, hF⟩ := hF
          refine Ok.op rfl (OpOk.callG (v := .bool (citS xd xl e11)) enr (fun W hW => cit_c xd xl e11 (hRxd_0.mono hW.sees) (hRxl_0.mono hW.sees) hp12) rfl ?_)
          refine Ok.nil (Ok.thenN (Ok.cond (b := (citS xd xl e11)) rfl (fun hc13 => ?_) (fun hc13 => ?_)))
          ·replace hF := hF.1 hc13
           refine Ok.region (Ok.bat 3 [1, 2, 5, 6, 7, 8, 19, 20, 21, 34, 35, 36] [(44, .func (.func 61) #[] #[pv b1 0, pv b3 0]), (45, .int .i64 e11), (46, .int .i64 x9l34)] ?_)
           refine Ok.op rfl (OpOk.inline (args := #[.int .i64 e11, .int .i64 x9l34, pv b1 0, pv b3 0]) 27 [(0, .int .i64 e11), (1, .int .i64 x9l34), (2, pv b1 0), (3, pv b3 0)] enr Tryz.func61 rfl rfl rfl rfl (Ok.seq (Ok.region (Ok.bat 1 [2] [(0, .int .i64 e11), (1, .int .i64 x9l34), (3, pv b3 0)] ?_))))
           refine Ok.nil (Ok.thenN (Ok.cut (fun a W => ∃ gj3 : Ghost, Gext w0 gl34 gj3 ∧ StA 27 [(0, .int .i64 e11), (1, .int .i64 (cnuV17 xd x9l34 e11)), (3, pv b3 0)] a ∧ StW w0 [.blk b7 (.cells #[.int .i64 e6.1, sv e6.2.1, .slice a5_2 e6.2.2.1.length c5_2, sv e6.2.2.2.1, .int .i64 e6.2.2.2.2.1, .slice a5_5 e6.2.2.2.2.2.length c5_5] 74), .blk b3 (.cells #[.slice ayown2_0l34 yown2_0l34.length cyown2_0l34] 36), .own (.slice ayown2_0l34 yown2_0l34.length cyown2_0l34) 3 1 yown2_0l34.length xsyown2_0l34, .blk b1 (.cells #[.slice axd_0 xd.1.length cxd_0, .bool xd.2] 24)] gj3 W ∧ cnuj3 xd xl e6 x9l34 x36l34 yown2_0l34 e11 (cnul34 xd xl e6 x21l11 (cnul11 xd xl K k11) k34)) ?_ ?_))
           ·
            refine Ok.seq (Ok.region (Ok.bat 1 [0, 1, 3] [(10, pv b1 0)] ?_))
            refine Ok.op rfl (OpOk.step (v := .slice axd_0 xd.1.length cxd_0) (Yields.load 3 rfl rfl Tryz.underlying22 rfl (by kernel_rfl)) rfl rfl (Ok.bat 1 [0, 1, 3] [(11, .slice axd_0 xd.1.length cxd_0), (12, .int .i64 e11)] ?_))
            obtain ⟨h018, h118, hF⟩ := hF
            have he18 := get_of (l := xd.1) (default : ND) h118
            generalize hg18 : (xd.1.getD (Int.toNat e11) default) = e18 at he18 hF ⊢
            refine Ok.op rfl (OpOk.indexRo (e := .pair (.int .i64) (.pair (.str) (.pair (.slice (.pair (.str) (.str))) (.pair (.str) (.pair (.int .i64) (.slice (.int .i64))))))) (i := e11) (el := e18) rfl rfl Tryz.underlying22 (by kernel_rfl) hRxd_0 h018 he18 rfl fun q17 o17 cs17 _ hat17 hr17 => ?_)
            obtain ⟨_, _, rfl, rfl, ⟨_, _, rfl, rfl, ⟨_, _, rfl, ⟨a17_2, c17_2, rfl, hm17_2, hr17_2⟩, ⟨_, _, rfl, rfl, ⟨_, _, rfl, rfl, ⟨a17_5, c17_5, rfl, hm17_5, hr17_5⟩⟩⟩⟩⟩⟩ := hr17
            have hR17_2 : Rep gl34 (.slice (.pair (.str) (.str))) [.slice a17_2 e18.2.2.1.length c17_2] e18.2.2.1 := ⟨a17_2, c17_2, rfl, hm17_2, hr17_2⟩
            have hR17_5 : Rep gl34 (.slice (.int .i64)) [.slice a17_5 e18.2.2.2.2.2.length c17_5] e18.2.2.2.2.2 := ⟨a17_5, c17_5, rfl, hm17_5, hr17_5⟩
            replace hat17 : At gl34 q17 o17 [.int .i64 e18.1, sv e18.2.1, .slice a17_2 e18.2.2.1.length c17_2, sv e18.2.2.2.1, .int .i64 e18.2.2.2.2.1, .slice a17_5 e18.2.2.2.2.2.length c17_5] := hat17
            refine Ok.op rfl (OpOk.step (v := .agg #[.int .i64 e18.1, sv e18.2.1, .slice a17_2 e18.2.2.1.length c17_2, sv e18.2.2.2.1, .int .i64 e18.2.2.2.2.1, .slice a17_5 e18.2.2.2.2.2.length c17_5]) (Yields.loadAggRo 0 6 #[.int .i64 e18.1, sv e18.2.1, .slice a17_2 e18.2.2.1.length c17_2, sv e18.2.2.2.1, .int .i64 e18.2.2.2.2.1, .slice a17_5 e18.2.2.2.2.2.length c17_5] hat17 (by kernel_rfl) Tryz.underlying74 rfl (by kernel_rfl) (by kernel_rfl) (by kernel_rfl)) rfl rfl ?_)
            obtain ⟨hp19, hF⟩ := hF
            refine Ok.op rfl (OpOk.callG (v := .tuple #[.int .i64 (ctlS e18 ([118, 97, 108, 117, 101] : Bs)).1, .bool (ctlS e18 ([118, 97, 108, 117, 101] : Bs)).2]) enr (fun W hW => ctl_c e18 ([118, 97, 108, 117, 101] : Bs) (hR17_2.mono hW.sees) (hR17_5.mono hW.sees) (hG7.mono hW.sees) (hG8.mono hW.sees) (hG9.mono hW.sees) hp19) rfl ?_)
            refine Ok.bat 5 [0, 1, 3] [(7, .int .i64 (ctlS e18 ([118, 97, 108, 117, 101] : Bs)).1), (8, .bool (ctlS e18 ([118, 97, 108, 117, 101] : Bs)).2)] ?_
            refine Ok.nil (Ok.thenN (Ok.seq (Ok.region (Ok.bat 1 [0, 1, 3, 7] [(18, .bool (ctlS e18 ([118, 97, 108, 117, 101] : Bs)).2)] ?_))))
            refine Ok.nil (Ok.thenN (Ok.cond (b := (ctlS e18 ([118, 97, 108, 117, 101] : Bs)).2) rfl (fun hc20 => ?_) (fun hc20 => ?_)))
            ·replace hF := hF.1 hc20
             refine Ok.region (Ok.bat 2 [0, 3] [(1, .int .i64 (ctlS e18 ([118, 97, 108, 117, 101] : Bs)).1)] ?_)
             refine Ok.nil (Ok.thenN ?_)
             subst hg18
             refine Ok.reval 1 rfl (show (.int .i64 (ctlS (xd.1.getD (Int.toNat e11) default) ([118, 97, 108, 117, 101] : Bs)).1 : Value) = .int .i64 (cnuV17 xd x9l34 e11) from congrArg (Value.int .i64) ((if_t hc20).symm)) ?_
             exact fun a W hA hW => ⟨gl34, (Gext.refl w0 gl34), hA.sub (by kernel_rfl), hW, hF⟩
            ·replace hF := hF.2 hc20
             refine Ok.skip (Ok.thenN ?_)
             subst hg18
             refine Ok.reval 1 rfl (show (.int .i64 x9l34 : Value) = .int .i64 (cnuV17 xd x9l34 e11) from congrArg (Value.int .i64) ((if_f hc20).symm)) ?_
             exact fun a W hA hW => ⟨gl34, (Gext.refl w0 gl34), hA.sub (by kernel_rfl), hW, hF⟩
           ·
            clear hF
            rintro a W ⟨gj3, hxj3, hA, hW, hF⟩
            refine (?_ : Ok _ _ _ _ _ _) a W hA hW
            clear hA hW
            replace hR5_2 := hR5_2.mono hxj3.1
            replace hR5_5 := hR5_5.mono hxj3.1
            replace hLyown2_0l34 := hLyown2_0l34.mono hxj3.1
            replace hRxd_0 := hRxd_0.mono hxj3.1
            replace hRxl_0 := hRxl_0.mono hxj3.1
            replace hG7 := hG7.mono hxj3.1
            replace hG8 := hG8.mono hxj3.1
            replace hG9 := hG9.mono hxj3.1
            refine Ok.seq (Ok.region (Ok.op rfl (OpOk.step (v := .slice ayown2_0l34 yown2_0l34.length cyown2_0l34) (Yields.load 1 rfl rfl Tryz.underlying36 rfl (by kernel_rfl)) rfl rfl (Ok.bat 2 [1] [(20, .slice ayown2_0l34 yown2_0l34.length cyown2_0l34), (21, .int .i64 e11), (22, .int .i64 (cnuV17 xd x9l34 e11))] ?_))))
            obtain ⟨h015, h115, hF⟩ := hF
            have he15 := get_of (l := yown2_0l34) (default : Int) h115
            generalize hg15 : (yown2_0l34.getD (Int.toNat e11) default) = e15 at he15 hF ⊢
            refine Ok.op rfl (OpOk.indexOwn (e := .int .i64) (q := e11) (el := e15) 2 rfl hLyown2_0l34 rfl rfl Tryz.underlying36 (by kernel_rfl) (by kernel_rfl) h015 he15 rfl fun cs14 _ hr14 hc14 => ?_)
            obtain rfl := hr14
            replace hc14 : ∀ j v, ([.int .i64 e15] : List Value)[j]? = some v → xsyown2_0l34[Int.toNat e11 * 1 + j]? = some v := hc14
            refine Ok.op rfl (OpOk.storeOwn (e := .int .i64) (q := Int.toNat e11) (cells := [.int .i64 e15]) (vs := [.int .i64 (cnuV17 xd x9l34 e11)]) (el' := (cnuV17 xd x9l34 e11)) 2 0 1 rfl hLyown2_0l34 hc14 (by kernel_rfl) rfl rfl rfl (by kernel_rfl) (by kernel_rfl) (by kernel_rfl) (by kernel_rfl) (by kernel_rfl) (show Rep _ _ [.int .i64 (cnuV17 xd x9l34 e11)] _ from rfl) fun xs16 hL16 => ?_)
            rw [show yown2_0l34.length = (yown2_0l34.set (Int.toNat e11) (cnuV17 xd x9l34 e11)).length from (List.length_set ..).symm]
            refine Ok.nil (Ok.thenN (Ok.seq (Ok.region (Ok.batch 4 [(6, .int .i64 (if 1000000 < (w6 ((cnuV17 xd x9l34 e11) + 1)) then 1000000 else (w6 ((cnuV17 xd x9l34 e11) + 1))))] (by kernel_rfl) (Ok.nil (Ok.thenN (Ok.ret (Ok.back (vs := [.int .i64 (if 1000000 < (w6 ((cnuV17 xd x9l34 e11) + 1)) then 1000000 else (w6 ((cnuV17 xd x9l34 e11) + 1)))]) (.inl rfl) rfl (.cons (.tmp rfl) .nil) rfl (Ok.batch 1 [(1, .slice axl_0 xl.length cxl_0), (2, pv b1 0), (5, pv b3 0), (6, .func (.func 61) #[] #[pv b1 0, pv b3 0]), (7, .int .i64 x21l11), (8, pv b7 0), (9, .int .i64 (if 1000000 < (w6 ((cnuV17 xd x9l34 e11) + 1)) then 1000000 else (w6 ((cnuV17 xd x9l34 e11) + 1)))), (19, .slice axd_0 xd.1.length cxd_0), (20, .int .i64 (xd.1.length : Int)), (21, .int .i64 x21l11), (34, .slice a5_5 e6.2.2.2.2.2.length c5_5), (35, .int .i64 (e6.2.2.2.2.2.length : Int)), (36, .int .i64 x36l34)] (by kernel_rfl) (Ok.nil (Ok.blockN (Ok.thenN ?_))))))))))))
            subst hg15
            subst hg11
            refine Ok.reval 9 rfl (show (.int .i64 (if 1000000 < (w6 ((cnuV17 xd x9l34 (e6.2.2.2.2.2.getD (Int.toNat x36l34) default)) + 1)) then 1000000 else (w6 ((cnuV17 xd x9l34 (e6.2.2.2.2.2.getD (Int.toNat x36l34) default)) + 1))) : Value) = .int .i64 (cnuV15 xd xl e6 x9l34 x36l34) from congrArg (Value.int .i64) ((if_t hc13).symm)) (Ok.heapEq (H' := [.blk b7 (.cells #[.int .i64 e6.1, sv e6.2.1, .slice a5_2 e6.2.2.1.length c5_2, sv e6.2.2.2.1, .int .i64 e6.2.2.2.2.1, .slice a5_5 e6.2.2.2.2.2.length c5_5] 74), .blk b3 (.cells #[.slice ayown2_0l34 (cnuV16 xd xl e6 x9l34 x36l34 yown2_0l34).length cyown2_0l34] 36), .own (.slice ayown2_0l34 (cnuV16 xd xl e6 x9l34 x36l34 yown2_0l34).length cyown2_0l34) 3 1 (cnuV16 xd xl e6 x9l34 x36l34 yown2_0l34).length xs16, .blk b1 (.cells #[.slice axd_0 xd.1.length cxd_0, .bool xd.2] 24)]) (econs (rfl) (econs (congrArg (fun l : List Value => Ent.blk b3 (.cells ⟨l⟩ 36)) (lcons (congrArg (fun l : List (Int) => Value.slice ayown2_0l34 l.length cyown2_0l34) ((if_t hc13).symm)) rfl)) (econs (congrArg (fun l : List (Int) => Ent.own (.slice ayown2_0l34 l.length cyown2_0l34) 3 1 l.length xs16) ((if_t hc13).symm)) (econs (rfl) rfl)))) ?_)
            exact fun a W hA hW => ⟨gj3, hxj3, ayown2_0l34, cyown2_0l34, xs16, (Eq.mp (congrArg (fun l : List (Int) => RepL gj3 (.int .i64) xs16 l) ((if_t hc13).symm)) hL16), hA.sub (by kernel_rfl), hW, hF⟩
          ·replace hF := hF.2 hc13
           refine Ok.skip (Ok.blockN (Ok.thenN ?_))
           subst hg11
           refine Ok.reval 9 rfl (show (.int .i64 x9l34 : Value) = .int .i64 (cnuV15 xd xl e6 x9l34 x36l34) from congrArg (Value.int .i64) ((if_f hc13).symm)) (Ok.heapEq (H' := [.blk b7 (.cells #[.int .i64 e6.1, sv e6.2.1, .slice a5_2 e6.2.2.1.length c5_2, sv e6.2.2.2.1, .int .i64 e6.2.2.2.2.1, .slice a5_5 e6.2.2.2.2.2.length c5_5] 74), .blk b3 (.cells #[.slice ayown2_0l34 (cnuV16 xd xl e6 x9l34 x36l34 yown2_0l34).length cyown2_0l34] 36), .own (.slice ayown2_0l34 (cnuV16 xd xl e6 x9l34 x36l34 yown2_0l34).length cyown2_0l34) 3 1 (cnuV16 xd xl e6 x9l34 x36l34 yown2_0l34).length xsyown2_0l34, .blk b1 (.cells #[.slice axd_0 xd.1.length cxd_0, .bool xd.2] 24)]) (econs (rfl) (econs (congrArg (fun l : List Value => Ent.blk b3 (.cells ⟨l⟩ 36)) (lcons (congrArg (fun l : List (Int) => Value.slice ayown2_0l34 l.length cyown2_0l34) ((if_f hc13).symm)) rfl)) (econs (congrArg (fun l : List (Int) => Ent.own (.slice ayown2_0l34 l.length cyown2_0l34) 3 1 l.length xsyown2_0l34) ((if_f hc13).symm)) (econs (rfl) rfl)))) ?_)
           exact fun a W hA hW => ⟨gl34, (Gext.refl w0 gl34), ayown2_0l34, cyown2_0l34, xsyown2_0l34, (Eq.mp (congrArg (fun l : List (Int) => RepL gl34 (.int .i64) xsyown2_0l34 l) ((if_f hc13).symm)) hLyown2_0l34), hA.sub (by kernel_rfl), hW, hF⟩
         ·
          clear hF
          rintro a W ⟨gj41, hxj41, ayown2_0j41, cyown2_0j41, xsyown2_0j41, hLyown2_0j41, hA, hW, hF⟩
          refine (?_ : Ok _ _ _ _ _ _) a W hA hW
          clear hA hW
          replace hRxl_0 := hRxl_0.mono hxj41.1
          replace hRxd_0 := hRxd_0.mono hxj41.1
          replace hR5_5 := hR5_5.mono hxj41.1
          replace hR5_2 := hR5_2.mono hxj41.1
          replace hG7 := hG7.mono hxj41.1
          replace hG8 := hG8.mono hxj41.1
          replace hG9 := hG9.mono hxj41.1
          refine Ok.region (Ok.bat 2 [1, 2, 5, 6, 7, 8, 9, 19, 20, 21, 34, 35] [(36, .int .i64 (w6 (x36l34 + 1)))] ?_)
          refine Ok.nil (Ok.thenN ?_)
          exact fun a W hA hW => ⟨k34, Nat.lt_succ_self _, gj41, (hxl34.trans hxj41), (cnuV15 xd xl e6 x9l34 x36l34), w6 (x36l34 + 1), ayown2_0j41, cyown2_0j41, (cnuV16 xd xl e6 x9l34 x36l34 yown2_0l34), xsyown2_0j41, hLyown2_0j41, hA.sub (by kernel_rfl), hW, hF⟩
        ·replace hF := hF.2 hc9
         refine Ok.exit (Ok.thenE (Ok.thenE (Ok.blockHit (Ok.thenN (Ok.cut (fun a W => ∃ gj51 : Ghost, Gext w0 gl34 gj51 ∧ StA 63 [(1, .slice axl_0 xl.length cxl_0), (2, pv b1 0), (5, pv b3 0), (6, .func (.func 61) #[] #[pv b1 0, pv b3 0]), (7, .int .i64 x21l11), (19, .slice axd_0 xd.1.length cxd_0), (20, .int .i64 (xd.1.length : Int)), (21, .int .i64 x21l11), (57, .bool ((decide (e6.2.2.2.2.1 < 0)) && (citS xd xl x21l11)))] a ∧ StW w0 [.blk b3 (.cells #[.slice ayown2_0l34 yown2_0l34.length cyown2_0l34] 36), .own (.slice ayown2_0l34 yown2_0l34.length cyown2_0l34) 3 1 yown2_0l34.length xsyown2_0l34, .blk b1 (.cells #[.slice axd_0 xd.1.length cxd_0, .bool xd.2] 24)] gj51 W ∧ cnuj51 xd xl e6 yown2_0l34 x21l11 (cnul11 xd xl K k11)) ?_ ?_)))))
         ·
          refine Ok.region (Ok.bat 1 [1, 2, 5, 6, 7, 19, 20, 21] [(49, pv b7 4)] ?_)
          refine Ok.op rfl (OpOk.step (v := .int .i64 e6.2.2.2.2.1) (Yields.load 0 rfl rfl Tryz.underlying3 rfl (by kernel_rfl)) rfl rfl (Ok.bat 2 [1, 2, 5, 6, 7, 19, 20, 21] [(52, .bool (decide (e6.2.2.2.2.1 < 0)))] ?_))
          refine Ok.boolAt 52 (decide (e6.2.2.2.2.1 < 0)) rfl (fun hc28 => ?_) (fun hc28 => ?_)
          ·replace hF := hF.1 hc28
           refine Ok.opYes (j := 3) (d := 52) (want := true) (b := true) rfl (by kernel_rfl) (by kernel_rfl) rfl (OpOk.step (v := .agg #[.slice axd_0 xd.1.length cxd_0, .bool xd.2]) (Yields.loadAgg 3 2 #[.slice axd_0 xd.1.length cxd_0, .bool xd.2] rfl rfl Tryz.underlying24 rfl (by kernel_rfl) (by kernel_rfl) (by kernel_rfl)) rfl rfl (Ok.bat 2 [1, 2, 5, 6, 7, 19, 20, 21] [(52, .bool true), (53, .agg #[.slice axd_0 xd.1.length cxd_0, .bool xd.2]), (54, .slice axl_0 xl.length cxl_0), (55, .int .i64 x21l11)] ?_))
           obtain ⟨hp29, hF⟩ := hF
           refine Ok.opYes (j := 3) (d := 52) (want := true) (b := true) rfl (by kernel_rfl) (by kernel_rfl) rfl (OpOk.callG (v := .bool (citS xd xl x21l11)) enr (fun W hW => cit_c xd xl x21l11 (hRxd_0.mono hW.sees) (hRxl_0.mono hW.sees) hp29) rfl ?_)
           refine Ok.bat 1 [1, 2, 5, 6, 7, 19, 20, 21] [(57, .bool (citS xd xl x21l11))] ?_
           refine Ok.nil (Ok.thenN (Ok.reval 57 rfl (show (.bool (citS xd xl x21l11) : Value) = .bool ((decide (e6.2.2.2.2.1 < 0)) && (citS xd xl x21l11)) from congrArg (Value.bool) (mand_t hc28)) ?_))
           exact fun a W hA hW => ⟨gl34, (Gext.refl w0 gl34), hA.sub (by kernel_rfl), hW.sub (.cons _ (.cons_cons _ (.cons_cons _ (.cons_cons _ .slnil)))), hF⟩
          ·replace hF := hF.2 hc28
           refine Ok.bat 5 [1, 2, 5, 6, 7, 19, 20, 21] [(57, .bool false)] ?_
           refine Ok.nil (Ok.thenN (Ok.reval 57 rfl (show (.bool false : Value) = .bool ((decide (e6.2.2.2.2.1 < 0)) && (citS xd xl x21l11)) from congrArg (Value.bool) (mand_f hc28)) ?_))
           exact fun a W hA hW => ⟨gl34, (Gext.refl w0 gl34), hA.sub (by kernel_rfl), hW.sub (.cons _ (.cons_cons _ (.cons_cons _ (.cons_cons _ .slnil)))), hF⟩
         ·
          clear hF
          rintro a W ⟨gj51, hxj51, hA, hW, hF⟩
          refine (?_ : Ok _ _ _ _ _ _) a W hA hW
          clear hA hW
          replace hRxl_0 := hRxl_0.mono hxj51.1
          replace hRxd_0 := hRxd_0.mono hxj51.1
          replace hLyown2_0l34 := hLyown2_0l34.mono hxj51.1
          replace hG7 := hG7.mono hxj51.1
          replace hG8 := hG8.mono hxj51.1
          replace hG9 := hG9.mono hxj51.1
          refine Ok.cond (b := ((decide (e6.2.2.2.2.1 < 0)) && (citS xd xl x21l11))) rfl (fun hc21 => ?_) (fun hc21 => ?_)
          ·replace hF := hF.1 hc21
           refine Ok.region (Ok.bat 2 [1, 2, 5, 6, 19, 20, 21] [(58, .func (.func 61) #[] #[pv b1 0, pv b3 0]), (59, .int .i64 x21l11)] ?_)
           refine Ok.op rfl (OpOk.inline (args := #[.int .i64 x21l11, .int .i64 1, pv b1 0, pv b3 0]) 27 [(0, .int .i64 x21l11), (1, .int .i64 1), (2, pv b1 0), (3, pv b3 0)] enr Tryz.func61 rfl rfl rfl rfl (Ok.seq (Ok.region (Ok.bat 1 [2] [(0, .int .i64 x21l11), (1, .int .i64 1), (3, pv b3 0)] ?_))))
           refine Ok.nil (Ok.thenN (Ok.cut (fun a W => ∃ gj3 : Ghost, Gext w0 gj51 gj3 ∧ StA 27 [(0, .int .i64 x21l11), (1, .int .i64 (cnuV7 e6)), (3, pv b3 0)] a ∧ StW w0 [.blk b3 (.cells #[.slice ayown2_0l34 yown2_0l34.length cyown2_0l34] 36), .own (.slice ayown2_0l34 yown2_0l34.length cyown2_0l34) 3 1 yown2_0l34.length xsyown2_0l34, .blk b1 (.cells #[.slice axd_0 xd.1.length cxd_0, .bool xd.2] 24)] gj3 W ∧ cnuj3a xd yown2_0l34 x21l11 (cnul11 xd xl K k11)) ?_ ?_))
           ·
            refine Ok.seq (Ok.region (Ok.bat 1 [0, 1, 3] [(10, pv b1 0)] ?_))
            refine Ok.op rfl (OpOk.step (v := .slice axd_0 xd.1.length cxd_0) (Yields.load 2 rfl rfl Tryz.underlying22 rfl (by kernel_rfl)) rfl rfl (Ok.bat 1 [0, 1, 3] [(11, .slice axd_0 xd.1.length cxd_0), (12, .int .i64 x21l11)] ?_))
            refine Ok.op rfl (OpOk.indexRo (e := .pair (.int .i64) (.pair (.str) (.pair (.slice (.pair (.str) (.str))) (.pair (.str) (.pair (.int .i64) (.slice (.int .i64))))))) (i := x21l11) (el := e6) rfl rfl Tryz.underlying22 (by kernel_rfl) hRxd_0 h06 he6 rfl fun q25 o25 cs25 _ hat25 hr25 => ?_)
            obtain ⟨_, _, rfl, rfl, ⟨_, _, rfl, rfl, ⟨_, _, rfl, ⟨a25_2, c25_2, rfl, hm25_2, hr25_2⟩, ⟨_, _, rfl, rfl, ⟨_, _, rfl, rfl, ⟨a25_5, c25_5, rfl, hm25_5, hr25_5⟩⟩⟩⟩⟩⟩ := hr25
            have hR25_2 : Rep gj51 (.slice (.pair (.str) (.str))) [.slice a25_2 e6.2.2.1.length c25_2] e6.2.2.1 := ⟨a25_2, c25_2, rfl, hm25_2, hr25_2⟩
            have hR25_5 : Rep gj51 (.slice (.int .i64)) [.slice a25_5 e6.2.2.2.2.2.length c25_5] e6.2.2.2.2.2 := ⟨a25_5, c25_5, rfl, hm25_5, hr25_5⟩
            replace hat25 : At gj51 q25 o25 [.int .i64 e6.1, sv e6.2.1, .slice a25_2 e6.2.2.1.length c25_2, sv e6.2.2.2.1, .int .i64 e6.2.2.2.2.1, .slice a25_5 e6.2.2.2.2.2.length c25_5] := hat25
            refine Ok.op rfl (OpOk.step (v := .agg #[.int .i64 e6.1, sv e6.2.1, .slice a25_2 e6.2.2.1.length c25_2, sv e6.2.2.2.1, .int .i64 e6.2.2.2.2.1, .slice a25_5 e6.2.2.2.2.2.length c25_5]) (Yields.loadAggRo 0 6 #[.int .i64 e6.1, sv e6.2.1, .slice a25_2 e6.2.2.1.length c25_2, sv e6.2.2.2.1, .int .i64 e6.2.2.2.2.1, .slice a25_5 e6.2.2.2.2.2.length c25_5] hat25 (by kernel_rfl) Tryz.underlying74 rfl (by kernel_rfl) (by kernel_rfl) (by kernel_rfl)) rfl rfl ?_)
            obtain ⟨hp26, hF⟩ := hF
            refine Ok.op rfl (OpOk.callG (v := .tuple #[.int .i64 (ctlS e6 ([118, 97, 108, 117, 101] : Bs)).1, .bool (ctlS e6 ([118, 97, 108, 117, 101] : Bs)).2]) enr (fun W hW => ctl_c e6 ([118, 97, 108, 117, 101] : Bs) (hR25_2.mono hW.sees) (hR25_5.mono hW.sees) (hG7.mono hW.sees) (hG8.mono hW.sees) (hG9.mono hW.sees) hp26) rfl ?_)
            refine Ok.bat 5 [0, 1, 3] [(7, .int .i64 (ctlS e6 ([118, 97, 108, 117, 101] : Bs)).1), (8, .bool (ctlS e6 ([118, 97, 108, 117, 101] : Bs)).2)] ?_
            refine Ok.nil (Ok.thenN (Ok.seq (Ok.region (Ok.bat 1 [0, 1, 3, 7] [(18, .bool (ctlS e6 ([118, 97, 108, 117, 101] : Bs)).2)] ?_))))
            refine Ok.nil (Ok.thenN (Ok.cond (b := (ctlS e6 ([118, 97, 108, 117, 101] : Bs)).2) rfl (fun hc27 => ?_) (fun hc27 => ?_)))
            ·replace hF := hF.1 hc27
             refine Ok.region (Ok.bat 2 [0, 3] [(1, .int .i64 (ctlS e6 ([118, 97, 108, 117, 101] : Bs)).1)] ?_)
             refine Ok.nil (Ok.thenN (Ok.reval 1 rfl (show (.int .i64 (ctlS e6 ([118, 97, 108, 117, 101] : Bs)).1 : Value) = .int .i64 (cnuV7 e6) from congrArg (Value.int .i64) ((if_t hc27).symm)) ?_))
             exact fun a W hA hW => ⟨gj51, (Gext.refl w0 gj51), hA.sub (by kernel_rfl), hW, hF⟩
            ·replace hF := hF.2 hc27
             refine Ok.skip (Ok.thenN (Ok.reval 1 rfl (show (.int .i64 1 : Value) = .int .i64 (cnuV7 e6) from congrArg (Value.int .i64) ((if_f hc27).symm)) ?_))
             exact fun a W hA hW => ⟨gj51, (Gext.refl w0 gj51), hA.sub (by kernel_rfl), hW, hF⟩
           ·
            clear hF
            rintro a W ⟨gj3, hxj3, hA, hW, hF⟩
            refine (?_ : Ok _ _ _ _ _ _) a W hA hW
            clear hA hW
            replace hLyown2_0l34 := hLyown2_0l34.mono hxj3.1
            replace hRxd_0 := hRxd_0.mono hxj3.1
            replace hRxl_0 := hRxl_0.mono hxj3.1
            replace hG7 := hG7.mono hxj3.1
            replace hG8 := hG8.mono hxj3.1
            replace hG9 := hG9.mono hxj3.1
            refine Ok.seq (Ok.region (Ok.op rfl (OpOk.step (v := .slice ayown2_0l34 yown2_0l34.length cyown2_0l34) (Yields.load 0 rfl rfl Tryz.underlying36 rfl (by kernel_rfl)) rfl rfl (Ok.bat 2 [1] [(20, .slice ayown2_0l34 yown2_0l34.length cyown2_0l34), (21, .int .i64 x21l11), (22, .int .i64 (cnuV7 e6))] ?_))))
            obtain ⟨h023, h123, hF⟩ := hF
            have he23 := get_of (l := yown2_0l34) (default : Int) h123
            generalize hg23 : (yown2_0l34.getD (Int.toNat x21l11) default) = e23 at he23 hF ⊢
            refine Ok.op rfl (OpOk.indexOwn (e := .int .i64) (q := x21l11) (el := e23) 1 rfl hLyown2_0l34 rfl rfl Tryz.underlying36 (by kernel_rfl) (by kernel_rfl) h023 he23 rfl fun cs22 _ hr22 hc22 => ?_)
            obtain rfl := hr22
            replace hc22 : ∀ j v, ([.int .i64 e23] : List Value)[j]? = some v → xsyown2_0l34[Int.toNat x21l11 * 1 + j]? = some v := hc22
            refine Ok.op rfl (OpOk.storeOwn (e := .int .i64) (q := Int.toNat x21l11) (cells := [.int .i64 e23]) (vs := [.int .i64 (cnuV7 e6)]) (el' := (cnuV7 e6)) 1 0 1 rfl hLyown2_0l34 hc22 (by kernel_rfl) rfl rfl rfl (by kernel_rfl) (by kernel_rfl) (by kernel_rfl) (by kernel_rfl) (by kernel_rfl) (show Rep _ _ [.int .i64 (cnuV7 e6)] _ from rfl) fun xs24 hL24 => ?_)
            rw [show yown2_0l34.length = (yown2_0l34.set (Int.toNat x21l11) (cnuV7 e6)).length from (List.length_set ..).symm]
            refine Ok.nil (Ok.thenN (Ok.seq (Ok.region (Ok.batch 4 [(6, .int .i64 (if 1000000 < (w6 ((cnuV7 e6) + 1)) then 1000000 else (w6 ((cnuV7 e6) + 1))))] (by kernel_rfl) (Ok.nil (Ok.thenN (Ok.ret (Ok.back (vs := [.int .i64 (if 1000000 < (w6 ((cnuV7 e6) + 1)) then 1000000 else (w6 ((cnuV7 e6) + 1)))]) (.inl rfl) rfl (.cons (.tmp rfl) .nil) rfl (Ok.nil (Ok.blockN (Ok.thenN ?_)))))))))))
            subst hg23
            subst hg6
            exact fun a W hA hW => ⟨gj3, (((hxj24.trans hxl34).trans hxj51).trans hxj3), ayown2_0l34, cyown2_0l34, (yown2_0l34.set (Int.toNat x21l11) (cnuV7 (xd.1.getD (Int.toNat x21l11) default))), xs24, hL24, hA.sub (by kernel_rfl), hW, hF⟩
          ·replace hF := hF.2 hc21
           refine Ok.skip (Ok.blockN (Ok.thenN ?_))
           subst hg6
           exact fun a W hA hW => ⟨gj51, ((hxj24.trans hxl34).trans hxj51), ayown2_0l34, cyown2_0l34, yown2_0l34, xsyown2_0l34, hLyown2_0l34, hA.sub (by kernel_rfl), hW, hF⟩
    ·
     clear hF
     rintro a W ⟨gj18, hxj18, ayown2_0j18, cyown2_0j18, yown2_0j18, xsyown2_0j18, hLyown2_0j18, hA, hW, hF⟩
     refine (?_ : Ok _ _ _ _ _ _) a W hA hW
     clear hA hW
     replace hRxl_0 := hRxl_0.mono hxj18.1
     replace hRxd_0 := hRxd_0.mono hxj18.1
     replace hG7 := hG7.mono hxj18.1
     replace hG8 := hG8.mono hxj18.1
     replace hG9 := hG9.mono hxj18.1
     refine Ok.region (Ok.bat 2 [1, 2, 5, 6, 19, 20] [(21, .int .i64 (w6 (x21l11 + 1)))] ?_)
     refine Ok.nil (Ok.thenN ?_)
     exact fun a W hA hW => ⟨k11, Nat.lt_succ_self _, gj18, (hxl11.trans hxj18), w6 (x21l11 + 1), ayown2_0j18, cyown2_0j18, yown2_0j18, xsyown2_0j18, hLyown2_0j18, hA.sub (by kernel_rfl), hW, hF⟩
   ·replace hF := hF.2 hc4
    refine Ok.exit (Ok.thenE (Ok.thenE (Ok.blockHit (Ok.thenN (Ok.seq (Ok.region (Ok.op rfl (OpOk.step (v := .slice ayown2_0l11 yown2_0l11.length cyown2_0l11) (Yields.load 0 rfl rfl Tryz.underlying36 rfl (by kernel_rfl)) rfl rfl (Ok.batch 1 [(4, .slice ayown2_0l11 yown2_0l11.length cyown2_0l11)] (by kernel_rfl) (Ok.nil (Ok.thenN (Ok.ret (Ok.frz 1 rfl hLyown2_0l11 fun g31 hx31 hRf31 => ?_)))))))))))))
    replace hRxd_0 := hRxd_0.mono hx31.1
    replace hG7 := hG7.mono hx31.1
    replace hG8 := hG8.mono hx31.1
    replace hG9 := hG9.mono hx31.1
    exact Ok.resP (vs := [.slice ayown2_0l11 yown2_0l11.length cyown2_0l11]) [] [] (by decide) rfl (.inl rfl) rfl (.cons (.tmp rfl) .nil) (hxl11.trans hx31) ⟨yown2_0l11, ayown2_0l11, cyown2_0l11, rfl, hRf31, rfl, hF⟩
theorem cnu_F (d : DC) (l : STL) (hp : cnuP d l) : cnuF d l (fun r => r = cnuS d l) := by
 obtain ⟨hG, hl, hkm⟩ := hp
 have h2 := hG.few
 refine ⟨by omega, by omega, d.1.length + 1, ?_⟩
 rw [Int.toNat_natCast, out_zero (l := l)]
 have rows : ∀ (k i : Nat), i + k = d.1.length → cnul11 d l (fun r => r = cnuS d l) (k + 1) (i : Int) (outN d l i 0) := by
  intro k
  induction k with
  | zero =>
   intro i h
   refine ⟨fun h2 => by have := of_decide_eq_true h2; omega, fun _ => ?_⟩
   rw [show i = d.1.length by omega]
   exact out_all hG
  | succ k ih =>
   intro i h
   have hi : i < d.1.length := by omega
   have hx := good_att hG hi
   have next : ∀ (o : List Int), o = outN d l (i + 1) 0 → cnul11 d l (fun r => r = cnuS d l) (k + 1) (w6 ((i : Int) + 1)) o := fun o ho => by
    rw [w64 (by omega), ho]
    exact ih (i + 1) (by omega)
   have hrow := step_row (l := l) hG hi
   -- behind the kids
   have j51 : cnuj51 d l (nodeN d i) (outN d l i (kidsOf d.1 i).length) (i : Int) (cnul11 d l (fun r => r = cnuS d l) (k + 1)) := by
    have hcc : ((decide ((nodeN d i).2.2.2.2.1 < 0)) && (citS d l (i : Int))) = ((decide (par d.1 i < 0)) && citS d l (i : Int)) := rfl
    refine ⟨fun hc => ⟨hx, ?_⟩, fun hc => ?_⟩
    ·have j3 : cnuj3a d (outN d l i (kidsOf d.1 i).length) (i : Int) (cnul11 d l (fun r => r = cnuS d l) (k + 1)) := by
      refine ⟨by omega, by rw [outN_len]; omega, next _ ?_⟩
      rw [hcc] at hc
      rw [if_t hc] at hrow
      rw [← hrow, Int.toNat_natCast]; rfl
     exact ⟨fun _ => j3, fun _ => j3⟩
    ·rw [hcc] at hc
     rw [if_f hc] at hrow
     exact next _ hrow
   -- the kids
   have kids : ∀ (q j : Nat), j + q = (kidsOf d.1 i).length → cnul34 d l (nodeN d i) (i : Int) (cnul11 d l (fun r => r = cnuS d l) (k + 1)) (q + 1) (nx d l i j) (j : Int) (outN d l i j) := by
    intro q
    induction q with
    | zero =>
     intro j hj
     refine ⟨fun h2 => by have h3 := of_decide_eq_true h2; have : (j : Int) < ((kidsOf d.1 i).length : Int) := h3; omega, fun _ => ?_⟩
     rw [show j = (kidsOf d.1 i).length by omega]
     exact ⟨fun _ => ⟨⟨by omega, by omega, hl⟩, j51⟩, fun _ => j51⟩
    | succ q ihq =>
     intro j hj
     have hjl : j < (kidsOf d.1 i).length := by omega
     have hkl : (kidsOf d.1 i).length ≤ maxLen := hkm _ (mem_getD default hi)
     rw [maxLen_eq] at hkl
     obtain ⟨n, e, hn, hpar, hx2⟩ := kid_in hG hi hjl
     have e' : ((nodeN d i).2.2.2.2.2.getD j default) = (n : Int) := e
     have hstep := step_kid (l := l) hG hi hjl
     have j41 : cnuj41 d l (nodeN d i) (nx d l i j) (j : Int) (outN d l i j) (cnul34 d l (nodeN d i) (i : Int) (cnul11 d l (fun r => r = cnuS d l) (k + 1)) (q + 1)) := by
      unfold cnuj41
      rw [w64 (by omega)]
      have e1 : cnuV16 d l (nodeN d i) (nx d l i j) (j : Int) (outN d l i j) = outN d l i (j + 1) := by
       rw [← hstep]
       unfold cnuV16
       rw [Int.toNat_natCast]; rfl
      have e2 : cnuV15 d l (nodeN d i) (nx d l i j) (j : Int) = nx d l i (j + 1) := by
       unfold cnuV15
       rw [Int.toNat_natCast]; rfl
      rw [e1, e2]
      exact ihq (j + 1) (by omega)
     have hcp : citP d l (n : Int) := ⟨by omega, by omega, hl⟩
     refine ⟨fun _ => ⟨by omega, by rw [Int.toNat_natCast]; exact hjl, ?_⟩, fun h2 => by have h3 := of_decide_eq_false h2; have : ¬ (j : Int) < ((kidsOf d.1 i).length : Int) := h3; omega⟩
     rw [Int.toNat_natCast, e']
     refine ⟨hcp, fun hc => ⟨by omega, by omega, good_att hG hn, ?_⟩, fun _ => j41⟩
     have j3 : cnuj3 d l (nodeN d i) (nx d l i j) (j : Int) (outN d l i j) (n : Int) (cnul34 d l (nodeN d i) (i : Int) (cnul11 d l (fun r => r = cnuS d l) (k + 1)) (q + 1)) := ⟨by omega, by rw [outN_len]; omega, j41⟩
     exact ⟨fun _ => j3, fun _ => j3⟩
   have j24 : cnuj24 d l (nodeN d i) (i : Int) (outN d l i 0) (cnul11 d l (fun r => r = cnuS d l) (k + 1)) := ⟨_, kids (kidsOf d.1 i).length 0 (by omega)⟩
   exact ⟨fun _ => ⟨by omega, by omega, hx, fun _ => j24, fun _ => j24⟩, fun h2 => by have := of_decide_eq_false h2; omega⟩
 exact rows d.1.length 0 (by omega)
theorem cnu_c {g : Ghost} {axd_0 : Option Addr} {cxd_0 : Nat} (xd : (List (Int × Bs × (List (Bs × Bs)) × Bs × Int × List (Int))) × Bool) {axl_0 : Option Addr} {cxl_0 : Nat} (xl : List ((Int × Int) × (Int × Int) × (Int × Int) × (Int × Int) × (Int × Int) × (Int × Int) × (Int × Int) × (Int × Int) × (Int × Int) × (Int × Int) × (Int × Int) × (Int × Int) × (Int × Int) × (Int × Int) × (Int × Int) × (Int × Int) × (Int × Int) × (Int × Int) × (Int × Int) × (Int × Int) × (Int × Int) × (Int × Int) × (Int × Int) × (Int × Int) × (Int × Int) × (Int × Int) × (Int × Int) × (Int × Int) × (Int × Int) × (Int × Int) × (Int × Int) × (Int × Int) × (Int × Int) × (Int × Int) × (Int × Int) × (Int × Int) × (Int × Int) × (Int × Int) × (Int × Int) × (Int × Int) × (Int × Int) × (Int × Int) × (Int × Int) × (Int × Int) × (Int × Int) × (Int × Int) × (Int × Int) × (Int × Int) × (Int × Int) × (Int × Int) × (Int × Int) × (Int × Int) × (Int × Int) × (Int × Int) × (Int × Int) × (Int × Int) × (Int × Int) × (Int × Int) × Int × Int)) (hRxd_0 : Rep g (.slice (.pair (.int .i64) (.pair (.str) (.pair (.slice (.pair (.str) (.str))) (.pair (.str) (.pair (.int .i64) (.slice (.int .i64)))))))) [.slice axd_0 xd.1.length cxd_0] xd.1) (hRxl_0 : Rep g (.slice (.pair (.pair (.int .i64) (.int .i64)) (.pair (.pair (.int .i64) (.int .i64)) (.pair (.pair (.int .i64) (.int .i64)) (.pair (.pair (.int .i64) (.int .i64)) (.pair (.pair (.int .i64) (.int .i64)) (.pair (.pair (.int .i64) (.int .i64)) (.pair (.pair (.int .i64) (.int .i64)) (.pair (.pair (.int .i64) (.int .i64)) (.pair (.pair (.int .i64) (.int .i64)) (.pair (.pair (.int .i64) (.int .i64)) (.pair (.pair (.int .i64) (.int .i64)) (.pair (.pair (.int .i64) (.int .i64)) (.pair (.pair (.int .i64) (.int .i64)) (.pair (.pair (.int .i64) (.int .i64)) (.pair (.pair (.int .i64) (.int .i64)) (.pair (.pair (.int .i64) (.int .i64)) (.pair (.pair (.int .i64) (.int .i64)) (.pair (.pair (.int .i64) (.int .i64)) (.pair (.pair (.int .i64) (.int .i64)) (.pair (.pair (.int .i64) (.int .i64)) (.pair (.pair (.int .i64) (.int .i64)) (.pair (.pair (.int .i64) (.int .i64)) (.pair (.pair (.int .i64) (.int .i64)) (.pair (.pair (.int .i64) (.int .i64)) (.pair (.pair (.int .i64) (.int .i64)) (.pair (.pair (.int .i64) (.int .i64)) (.pair (.pair (.int .i64) (.int .i64)) (.pair (.pair (.int .i64) (.int .i64)) (.pair (.pair (.int .i64) (.int .i64)) (.pair (.pair (.int .i64) (.int .i64)) (.pair (.pair (.int .i64) (.int .i64)) (.pair (.pair (.int .i64) (.int .i64)) (.pair (.pair (.int .i64) (.int .i64)) (.pair (.pair (.int .i64) (.int .i64)) (.pair (.pair (.int .i64) (.int .i64)) (.pair (.pair (.int .i64) (.int .i64)) (.pair (.pair (.int .i64) (.int .i64)) (.pair (.pair (.int .i64) (.int .i64)) (.pair (.pair (.int .i64) (.int .i64)) (.pair (.pair (.int .i64) (.int .i64)) (.pair (.pair (.int .i64) (.int .i64)) (.pair (.pair (.int .i64) (.int .i64)) (.pair (.pair (.int .i64) (.int .i64)) (.pair (.pair (.int .i64) (.int .i64)) (.pair (.pair (.int .i64) (.int .i64)) (.pair (.pair (.int .i64) (.int .i64)) (.pair (.pair (.int .i64) (.int .i64)) (.pair (.pair (.int .i64) (.int .i64)) (.pair (.pair (.int .i64) (.int .i64)) (.pair (.pair (.int .i64) (.int .i64)) (.pair (.pair (.int .i64) (.int .i64)) (.pair (.pair (.int .i64) (.int .i64)) (.pair (.pair (.int .i64) (.int .i64)) (.pair (.pair (.int .i64) (.int .i64)) (.pair (.pair (.int .i64) (.int .i64)) (.pair (.pair (.int .i64) (.int .i64)) (.pair (.pair (.int .i64) (.int .i64)) (.pair (.pair (.int .i64) (.int .i64)) (.pair (.int .i64) (.int .i64))))))))))))))))))))))))))))))))))))))))))))))))))))))))))))) [.slice axl_0 xl.length cxl_0] xl) (hG7 : GlobL g 7 (.int .u64) DPow) (hG8 : SomeIf g 8) (hG9 : SomeIf g 9)  (hp : cnuP xd xl) : CallsH Tryz.prog 33 #[.agg #[.slice axd_0 xd.1.length cxd_0, .bool xd.2], .slice axl_0 xl.length cxl_0] g [] (fun g' H' v => ∃ (ar0_0 : Option Addr) (cr0_0 : Nat), v = .slice ar0_0 (cnuS xd xl).length cr0_0 ∧ Rep g' (.slice (.int .i64)) [.slice ar0_0 (cnuS xd xl).length cr0_0] (cnuS xd xl) ∧ H' = []) :=
 (cnu_ok xd xl hRxd_0 hRxl_0 hG7 hG8 hG9 _ (cnu_F xd xl hp)).mono (by rintro g' H' v _ ⟨r0, ar0_0, cr0_0, rfl, hRr0_0, rfl, hK⟩; subst hK; exact ⟨ar0_0, cr0_0, rfl, hRr0_0, rfl⟩)
/-! bounds -/
theorem own12_in {next : Int} {x : ND} (h : -1000000 ≤ next ∧ next ≤ 1000000) : -1000000 ≤ own12 next x ∧ own12 next x ≤ 1000000 := by
 unfold own12
 split
 ·rename_i hc; exact told_in hc
 ·exact h
theorem min1_in {n : Int} (h : -1000000 ≤ n ∧ n ≤ 1000000) : -1000000 ≤ min1 n ∧ min1 n ≤ 1000000 := by
 unfold min1
 rw [w64 (by omega)]
 split <;> omega
theorem sta0_in (x : ND) : -1000000 ≤ sta0 x ∧ sta0 x ≤ 1000000 := by
 unfold sta0
 split
 ·omega
 ·rename_i hc; exact told_in (by simpa using hc)
theorem nx_in (d : DC) (l : STL) (p : Nat) : ∀ j, -1000000 ≤ nx d l p j ∧ nx d l p j ≤ 1000000
 | 0 => sta0_in _
 | j + 1 => by
  rw [nx]
  split
  ·exact min1_in (own12_in (nx_in d l p j))
  ·exact nx_in d l p j
theorem numF_in (d : DC) (l : STL) (n : Nat) : -1000000 ≤ numF d l n ∧ numF d l n ≤ 1000000 := by
 unfold numF
 split
 ·split
  ·exact own12_in (by omega)
  ·exact own12_in (nx_in ..)
 ·omega
def cNuF (xd : DC) (xl : List (STE)) (K : (List (Int)) → Int → Prop) : Prop :=
 sfitP xd xl ∧ ((((sfitS xd xl) != 0)) = true → K ([]) (sfitS xd xl)) ∧ ((((sfitS xd xl) != 0)) = false → cnuP xd xl ∧ K (cnuS xd xl) 0)
theorem cNu_ok {g : Ghost} {axd_0 : Option Addr} {cxd_0 : Nat} (xd : DC) {axl_0 : Option Addr} {cxl_0 : Nat} (xl : List (STE)) (hRxd_0 : Rep g (.slice (.pair (.int .i64) (.pair (.str) (.pair (.slice (.pair (.str) (.str))) (.pair (.str) (.pair (.int .i64) (.slice (.int .i64)))))))) [.slice axd_0 xd.1.length cxd_0] xd.1) (hRxl_0 : Rep g (.slice (.pair (.pair (.int .i64) (.int .i64)) (.pair (.pair (.int .i64) (.int .i64)) (.pair (.pair (.int .i64) (.int .i64)) (.pair (.pair (.int .i64) (.int .i64)) (.pair (.pair (.int .i64) (.int .i64)) (.pair (.pair (.int .i64) (.int .i64)) (.pair (.pair (.int .i64) (.int .i64)) (.pair (.pair (.int .i64) (.int .i64)) (.pair (.pair (.int .i64) (.int .i64)) (.pair (.pair (.int .i64) (.int .i64)) (.pair (.pair (.int .i64) (.int .i64)) (.pair (.pair (.int .i64) (.int .i64)) (.pair (.pair (.int .i64) (.int .i64)) (.pair (.pair (.int .i64) (.int .i64)) (.pair (.pair (.int .i64) (.int .i64)) (.pair (.pair (.int .i64) (.int .i64)) (.pair (.pair (.int .i64) (.int .i64)) (.pair (.pair (.int .i64) (.int .i64)) (.pair (.pair (.int .i64) (.int .i64)) (.pair (.pair (.int .i64) (.int .i64)) (.pair (.pair (.int .i64) (.int .i64)) (.pair (.pair (.int .i64) (.int .i64)) (.pair (.pair (.int .i64) (.int .i64)) (.pair (.pair (.int .i64) (.int .i64)) (.pair (.pair (.int .i64) (.int .i64)) (.pair (.pair (.int .i64) (.int .i64)) (.pair (.pair (.int .i64) (.int .i64)) (.pair (.pair (.int .i64) (.int .i64)) (.pair (.pair (.int .i64) (.int .i64)) (.pair (.pair (.int .i64) (.int .i64)) (.pair (.pair (.int .i64) (.int .i64)) (.pair (.pair (.int .i64) (.int .i64)) (.pair (.pair (.int .i64) (.int .i64)) (.pair (.pair (.int .i64) (.int .i64)) (.pair (.pair (.int .i64) (.int .i64)) (.pair (.pair (.int .i64) (.int .i64)) (.pair (.pair (.int .i64) (.int .i64)) (.pair (.pair (.int .i64) (.int .i64)) (.pair (.pair (.int .i64) (.int .i64)) (.pair (.pair (.int .i64) (.int .i64)) (.pair (.pair (.int .i64) (.int .i64)) (.pair (.pair (.int .i64) (.int .i64)) (.pair (.pair (.int .i64) (.int .i64)) (.pair (.pair (.int .i64) (.int .i64)) (.pair (.pair (.int .i64) (.int .i64)) (.pair (.pair (.int .i64) (.int .i64)) (.pair (.pair (.int .i64) (.int .i64)) (.pair (.pair (.int .i64) (.int .i64)) (.pair (.pair (.int .i64) (.int .i64)) (.pair (.pair (.int .i64) (.int .i64)) (.pair (.pair (.int .i64) (.int .i64)) (.pair (.pair (.int .i64) (.int .i64)) (.pair (.pair (.int .i64) (.int .i64)) (.pair (.pair (.int .i64) (.int .i64)) (.pair (.pair (.int .i64) (.int .i64)) (.pair (.pair (.int .i64) (.int .i64)) (.pair (.pair (.int .i64) (.int .i64)) (.pair (.pair (.int .i64) (.int .i64)) (.pair (.int .i64) (.int .i64))))))))))))))))))))))))))))))))))))))))))))))))))))))))))))) [.slice axl_0 xl.length cxl_0] xl) (hG2 : SomeInt g 2) (hG7 : GlobL g 7 (.int .u64) DPow) (hG8 : SomeIf g 8) (hG9 : SomeIf g 9) (K : (List (Int)) → Int → Prop)
  (hF : cNuF xd xl K) : CallsH Tryz.prog 11 #[.agg #[.slice axd_0 xd.1.length cxd_0, .bool xd.2], .slice axl_0 xl.length cxl_0] g [] (fun g' H' v => ∃ (r0 : List (Int)), ∃ (r1 : Int), ∃ (ar0_0 : Option Addr) (cr0_0 : Nat), v = .tuple #[.slice ar0_0 r0.length cr0_0, .int .i64 r1] ∧ Rep g' (.slice (.int .i64)) [.slice ar0_0 r0.length cr0_0] r0 ∧ H' = [] ∧ K r0 r1) := by
 refine CallsH.enter 16 [(0, .agg #[.slice axd_0 xd.1.length cxd_0, .bool xd.2]), (1, .slice axl_0 xl.length cxl_0)] Tryz.func11 rfl (by kernel_rfl) (by kernel_rfl) (by kernel_rfl) fun w0 => ?_
 refine Ok.seq (Ok.region (Ok.op rfl (OpOk.box (v := .agg #[.slice axd_0 xd.1.length cxd_0, .bool xd.2]) (cs := #[.slice axd_0 xd.1.length cxd_0, .bool xd.2]) rfl (by kernel_rfl) rfl fun b1 => ?_)))
 refine Ok.batch 2 [(1, .slice axl_0 xl.length cxl_0), (2, pv b1 0)] (by kernel_rfl) (Ok.nil (Ok.thenN (Ok.seq (Ok.seq (Ok.region (Ok.op rfl (OpOk.step (v := .agg #[.slice axd_0 xd.1.length cxd_0, .bool xd.2]) (Yields.loadAgg 0 2 #[.slice axd_0 xd.1.length cxd_0, .bool xd.2] rfl rfl Tryz.underlying24 rfl (by kernel_rfl) (by kernel_rfl) (by kernel_rfl)) rfl rfl (Ok.bat 1 [1, 2] [(7, .agg #[.slice axd_0 xd.1.length cxd_0, .bool xd.2]), (8, .slice axl_0 xl.length cxl_0)] ?_))))))))
 obtain ⟨hp2, hF⟩ := hF
 refine Ok.op rfl (OpOk.callG (v := .int .i64 (sfitS xd xl)) enr (fun W hW => sfit_c xd xl (hRxd_0.mono hW.sees) (hRxl_0.mono hW.sees) (hG2.mono hW.sees) hp2) rfl ?_)
 refine Ok.bat 1 [1, 2] [(6, .int .i64 (sfitS xd xl))] ?_
 refine Ok.nil (Ok.thenN (Ok.seq (Ok.region (Ok.bat 2 [1, 2, 6] [(11, .bool ((sfitS xd xl) != 0))] ?_))))
 refine Ok.nil (Ok.thenN (Ok.cond (b := ((sfitS xd xl) != 0)) rfl (fun hc3 => ?_) (fun hc3 => ?_)))
 ·replace hF := hF.1 hc3
  refine Ok.seq (Ok.region (Ok.batch 3 [(4, .slice none 0 0), (5, .int .i64 (sfitS xd xl))] (by kernel_rfl) (Ok.nil (Ok.thenN (Ok.ret (Ok.thenR ?_))))))
  exact Ok.resP (vs := [.slice none 0 0, .int .i64 (sfitS xd xl)]) [] [] (by decide) rfl (.inl rfl) rfl (.cons (.tmp rfl) (.cons (.tmp rfl) .nil)) (Gext.refl w0 g) ⟨([]), (sfitS xd xl), none, 0, rfl, Rep.nil, rfl, hF⟩
 ·replace hF := hF.2 hc3
  refine Ok.skip (Ok.thenN (Ok.seq (Ok.region (Ok.op rfl (OpOk.step (v := .agg #[.slice axd_0 xd.1.length cxd_0, .bool xd.2]) (Yields.loadAgg 0 2 #[.slice axd_0 xd.1.length cxd_0, .bool xd.2] rfl rfl Tryz.underlying24 rfl (by kernel_rfl) (by kernel_rfl) (by kernel_rfl)) rfl rfl (Ok.batch 1 [(13, .agg #[.slice axd_0 xd.1.length cxd_0, .bool xd.2]), (14, .slice axl_0 xl.length cxl_0)] (by kernel_rfl) ?_))))))
  obtain ⟨hp4, hF⟩ := hF
  refine Ok.op rfl (OpOk.callH [] _ enr rfl (cnu_c xd xl hRxd_0 hRxl_0 hG7 hG8 hG9 hp4) rfl fun g5 _ _ hx5 hV5 => ?_)
  obtain ⟨a5_0, c5_0, rfl, hR5_0, rfl⟩ := hV5
  replace hRxd_0 := hRxd_0.mono hx5.1
  replace hRxl_0 := hRxl_0.mono hx5.1
  replace hG2 := hG2.mono hx5.1
  replace hG7 := hG7.mono hx5.1
  replace hG8 := hG8.mono hx5.1
  replace hG9 := hG9.mono hx5.1
  refine Ok.batch 2 [(4, .slice a5_0 (cnuS xd xl).length c5_0), (5, .int .i64 0)] (by kernel_rfl) (Ok.nil (Ok.thenN (Ok.ret ?_)))
  exact Ok.resP (vs := [.slice a5_0 (cnuS xd xl).length c5_0, .int .i64 0]) [] [] (by decide) rfl (.inl rfl) rfl (.cons (.tmp rfl) (.cons (.tmp rfl) .nil)) hx5 ⟨(cnuS xd xl), 0, a5_0, c5_0, rfl, hR5_0, rfl, hF⟩
noncomputable def cNuS (d : DC) (l : STL) : List Int × Int := if (sfitS d l != 0) = true then ([], sfitS d l) else (cnuS d l, 0)
def cNuP (d : DC) (l : STL) : Prop := sfitP d l
theorem fit_good {d : DC} {l : STL} (hp : sfitP d l) (h : (sfitS d l != 0) = false) : cnuP d l := by
 have h : sfitS d l = 0 := by simpa using h
 unfold sfitS at h
 split at h
 ·rename_i hz; rw [h] at hz; cases hz
 ·rename_i hz
  have hz : dchkS d = 0 := by simpa using hz
  split at h
  ·cases h
  ·rename_i hq
   have hq : ((l.length : Int) = (d.1.length : Int)) := by simpa using hq
   exact ⟨(dchk_sp d hp.1).2 hz, by omega, hp.1⟩
theorem cNu_F (d : DC) (l : STL) (hp : cNuP d l) : cNuF d l (fun a b => (a, b) = cNuS d l) :=
 ⟨hp, fun h => by unfold cNuS; rw [if_t h], fun h => ⟨fit_good hp h, by unfold cNuS; rw [if_f h]⟩⟩
theorem cNu_c {g : Ghost} {axd_0 : Option Addr} {cxd_0 : Nat} (xd : (List (Int × Bs × (List (Bs × Bs)) × Bs × Int × List (Int))) × Bool) {axl_0 : Option Addr} {cxl_0 : Nat} (xl : List ((Int × Int) × (Int × Int) × (Int × Int) × (Int × Int) × (Int × Int) × (Int × Int) × (Int × Int) × (Int × Int) × (Int × Int) × (Int × Int) × (Int × Int) × (Int × Int) × (Int × Int) × (Int × Int) × (Int × Int) × (Int × Int) × (Int × Int) × (Int × Int) × (Int × Int) × (Int × Int) × (Int × Int) × (Int × Int) × (Int × Int) × (Int × Int) × (Int × Int) × (Int × Int) × (Int × Int) × (Int × Int) × (Int × Int) × (Int × Int) × (Int × Int) × (Int × Int) × (Int × Int) × (Int × Int) × (Int × Int) × (Int × Int) × (Int × Int) × (Int × Int) × (Int × Int) × (Int × Int) × (Int × Int) × (Int × Int) × (Int × Int) × (Int × Int) × (Int × Int) × (Int × Int) × (Int × Int) × (Int × Int) × (Int × Int) × (Int × Int) × (Int × Int) × (Int × Int) × (Int × Int) × (Int × Int) × (Int × Int) × (Int × Int) × (Int × Int) × (Int × Int) × Int × Int)) (hRxd_0 : Rep g (.slice (.pair (.int .i64) (.pair (.str) (.pair (.slice (.pair (.str) (.str))) (.pair (.str) (.pair (.int .i64) (.slice (.int .i64)))))))) [.slice axd_0 xd.1.length cxd_0] xd.1) (hRxl_0 : Rep g (.slice (.pair (.pair (.int .i64) (.int .i64)) (.pair (.pair (.int .i64) (.int .i64)) (.pair (.pair (.int .i64) (.int .i64)) (.pair (.pair (.int .i64) (.int .i64)) (.pair (.pair (.int .i64) (.int .i64)) (.pair (.pair (.int .i64) (.int .i64)) (.pair (.pair (.int .i64) (.int .i64)) (.pair (.pair (.int .i64) (.int .i64)) (.pair (.pair (.int .i64) (.int .i64)) (.pair (.pair (.int .i64) (.int .i64)) (.pair (.pair (.int .i64) (.int .i64)) (.pair (.pair (.int .i64) (.int .i64)) (.pair (.pair (.int .i64) (.int .i64)) (.pair (.pair (.int .i64) (.int .i64)) (.pair (.pair (.int .i64) (.int .i64)) (.pair (.pair (.int .i64) (.int .i64)) (.pair (.pair (.int .i64) (.int .i64)) (.pair (.pair (.int .i64) (.int .i64)) (.pair (.pair (.int .i64) (.int .i64)) (.pair (.pair (.int .i64) (.int .i64)) (.pair (.pair (.int .i64) (.int .i64)) (.pair (.pair (.int .i64) (.int .i64)) (.pair (.pair (.int .i64) (.int .i64)) (.pair (.pair (.int .i64) (.int .i64)) (.pair (.pair (.int .i64) (.int .i64)) (.pair (.pair (.int .i64) (.int .i64)) (.pair (.pair (.int .i64) (.int .i64)) (.pair (.pair (.int .i64) (.int .i64)) (.pair (.pair (.int .i64) (.int .i64)) (.pair (.pair (.int .i64) (.int .i64)) (.pair (.pair (.int .i64) (.int .i64)) (.pair (.pair (.int .i64) (.int .i64)) (.pair (.pair (.int .i64) (.int .i64)) (.pair (.pair (.int .i64) (.int .i64)) (.pair (.pair (.int .i64) (.int .i64)) (.pair (.pair (.int .i64) (.int .i64)) (.pair (.pair (.int .i64) (.int .i64)) (.pair (.pair (.int .i64) (.int .i64)) (.pair (.pair (.int .i64) (.int .i64)) (.pair (.pair (.int .i64) (.int .i64)) (.pair (.pair (.int .i64) (.int .i64)) (.pair (.pair (.int .i64) (.int .i64)) (.pair (.pair (.int .i64) (.int .i64)) (.pair (.pair (.int .i64) (.int .i64)) (.pair (.pair (.int .i64) (.int .i64)) (.pair (.pair (.int .i64) (.int .i64)) (.pair (.pair (.int .i64) (.int .i64)) (.pair (.pair (.int .i64) (.int .i64)) (.pair (.pair (.int .i64) (.int .i64)) (.pair (.pair (.int .i64) (.int .i64)) (.pair (.pair (.int .i64) (.int .i64)) (.pair (.pair (.int .i64) (.int .i64)) (.pair (.pair (.int .i64) (.int .i64)) (.pair (.pair (.int .i64) (.int .i64)) (.pair (.pair (.int .i64) (.int .i64)) (.pair (.pair (.int .i64) (.int .i64)) (.pair (.pair (.int .i64) (.int .i64)) (.pair (.pair (.int .i64) (.int .i64)) (.pair (.int .i64) (.int .i64))))))))))))))))))))))))))))))))))))))))))))))))))))))))))))) [.slice axl_0 xl.length cxl_0] xl) (hG2 : SomeInt g 2) (hG7 : GlobL g 7 (.int .u64) DPow) (hG8 : SomeIf g 8) (hG9 : SomeIf g 9)  (hp : cNuP xd xl) : CallsH Tryz.prog 11 #[.agg #[.slice axd_0 xd.1.length cxd_0, .bool xd.2], .slice axl_0 xl.length cxl_0] g [] (fun g' H' v => ∃ (ar0_0 : Option Addr) (cr0_0 : Nat), v = .tuple #[.slice ar0_0 ((cNuS xd xl).1).length cr0_0, .int .i64 (cNuS xd xl).2] ∧ Rep g' (.slice (.int .i64)) [.slice ar0_0 ((cNuS xd xl).1).length cr0_0] (cNuS xd xl).1 ∧ H' = []) :=
 (cNu_ok xd xl hRxd_0 hRxl_0 hG2 hG7 hG8 hG9 _ (cNu_F xd xl hp)).mono (by rintro g' H' v _ ⟨r0, r1, ar0_0, cr0_0, rfl, hRr0_0, rfl, hK⟩; obtain ⟨rfl, rfl⟩ : r0 = (cNuS xd xl).1 ∧ r1 = (cNuS xd xl).2 := ⟨congrArg (fun z => z.1) hK, congrArg (fun z => z.2) hK⟩; exact ⟨ar0_0, cr0_0, rfl, hRr0_0, rfl⟩)
def cMaV2 (xd : DC) (xl : List (STE)) (x24l19 : Int) (yown4_0l19 : List Bs) : List Bs :=
 (if (!(citS xd xl x24l19)) = true then yown4_0l19 else (if ((xl.getD (Int.toNat x24l19) default).2.2.2.2.2.2.2.2.2.2.2.2.2.2.2.2.2.2.2.2.2.2.2.2.2.2.2.2.2.2.2.2.2.2.2.2.2.2.2.2.2.2.2.2.2.2.2.2.2.2.2.2.2.2.2.2.2.1.2 == 1) = true then (yown4_0l19.set (Int.toNat x24l19) (cmarkM 1 ((cnuS xd xl).getD (Int.toNat x24l19) default))) else (if ((xl.getD (Int.toNat x24l19) default).2.2.2.2.2.2.2.2.2.2.2.2.2.2.2.2.2.2.2.2.2.2.2.2.2.2.2.2.2.2.2.2.2.2.2.2.2.2.2.2.2.2.2.2.2.2.2.2.2.2.2.2.2.2.2.2.2.1.2 == 2) = true then (yown4_0l19.set (Int.toNat x24l19) ((cmarkM 2 ((cnuS xd xl).getD (Int.toNat x24l19) default)) ++ ([46] : Bs))) else yown4_0l19)))
def cMaj26 (xd : DC) (xl : List (STE)) (x24l19 : Int) (yown4_0l19 : List Bs) (C19 : Int → (List Bs) → Prop) : Prop :=
 C19 (w6 (x24l19 + 1)) (cMaV2 xd xl x24l19 yown4_0l19)
def cMal19b (xd : DC) (xl : List (STE)) (K : (List Bs) → Int → Prop) (x24l19 : Int) (yown4_0l19 : List Bs) (C19 : Int → (List Bs) → Prop) : Prop :=
 ((decide (x24l19 < ((cnuS xd xl).length : Int))) = true → (0 : Int) ≤ x24l19 ∧ Int.toNat x24l19 < (cnuS xd xl).length ∧ citP xd xl x24l19 ∧ ((!(citS xd xl x24l19)) = true → cMaj26 xd xl x24l19 yown4_0l19 C19) ∧ ((!(citS xd xl x24l19)) = false → (0 : Int) ≤ x24l19 ∧ Int.toNat x24l19 < xl.length ∧ ((((xl.getD (Int.toNat x24l19) default).2.2.2.2.2.2.2.2.2.2.2.2.2.2.2.2.2.2.2.2.2.2.2.2.2.2.2.2.2.2.2.2.2.2.2.2.2.2.2.2.2.2.2.2.2.2.2.2.2.2.2.2.2.2.2.2.2.1.2 == 1)) = true → cmarkP 1 ((cnuS xd xl).getD (Int.toNat x24l19) default) ∧ (0 : Int) ≤ x24l19 ∧ Int.toNat x24l19 < yown4_0l19.length ∧ cMaj26 xd xl x24l19 yown4_0l19 C19) ∧ ((((xl.getD (Int.toNat x24l19) default).2.2.2.2.2.2.2.2.2.2.2.2.2.2.2.2.2.2.2.2.2.2.2.2.2.2.2.2.2.2.2.2.2.2.2.2.2.2.2.2.2.2.2.2.2.2.2.2.2.2.2.2.2.2.2.2.2.1.2 == 1)) = false → ((((xl.getD (Int.toNat x24l19) default).2.2.2.2.2.2.2.2.2.2.2.2.2.2.2.2.2.2.2.2.2.2.2.2.2.2.2.2.2.2.2.2.2.2.2.2.2.2.2.2.2.2.2.2.2.2.2.2.2.2.2.2.2.2.2.2.2.1.2 == 2)) = true → cmarkP 2 ((cnuS xd xl).getD (Int.toNat x24l19) default) ∧ (cmarkM 2 ((cnuS xd xl).getD (Int.toNat x24l19) default)).length + ([46] : Bs).length ≤ maxLen ∧ (0 : Int) ≤ x24l19 ∧ Int.toNat x24l19 < yown4_0l19.length ∧ cMaj26 xd xl x24l19 yown4_0l19 C19) ∧ ((((xl.getD (Int.toNat x24l19) default).2.2.2.2.2.2.2.2.2.2.2.2.2.2.2.2.2.2.2.2.2.2.2.2.2.2.2.2.2.2.2.2.2.2.2.2.2.2.2.2.2.2.2.2.2.2.2.2.2.2.2.2.2.2.2.2.2.1.2 == 2)) = false → cMaj26 xd xl x24l19 yown4_0l19 C19)))) ∧ ((decide (x24l19 < ((cnuS xd xl).length : Int))) = false → K yown4_0l19 0)
def cMal19 (xd : DC) (xl : List (STE)) (K : (List Bs) → Int → Prop) : Nat → Int → (List Bs) → Prop
 | 0, _, _ => False
 | k + 1, x24l19, yown4_0l19 => cMal19b xd xl K x24l19 yown4_0l19 (cMal19 xd xl K k)
def cMaF (xd : DC) (xl : List (STE)) (K : (List Bs) → Int → Prop) : Prop :=
 sfitP xd xl ∧ ((((sfitS xd xl) != 0)) = true → K ([]) (sfitS xd xl)) ∧ ((((sfitS xd xl) != 0)) = false → (0 : Int) ≤ (xd.1.length : Int) ∧ (xd.1.length : Int) ≤ 8796093022208 ∧ cnuP xd xl ∧ ∃ k, cMal19 xd xl K k 0 (List.replicate (Int.toNat (xd.1.length : Int)) ([] : Bs)))
theorem cMa_ok {g : Ghost} {axd_0 : Option Addr} {cxd_0 : Nat} (xd : DC) {axl_0 : Option Addr} {cxl_0 : Nat} (xl : List (STE)) (hRxd_0 : Rep g (.slice (.pair (.int .i64) (.pair (.str) (.pair (.slice (.pair (.str) (.str))) (.pair (.str) (.pair (.int .i64) (.slice (.int .i64)))))))) [.slice axd_0 xd.1.length cxd_0] xd.1) (hRxl_0 : Rep g (.slice (.pair (.pair (.int .i64) (.int .i64)) (.pair (.pair (.int .i64) (.int .i64)) (.pair (.pair (.int .i64) (.int .i64)) (.pair (.pair (.int .i64) (.int .i64)) (.pair (.pair (.int .i64) (.int .i64)) (.pair (.pair (.int .i64) (.int .i64)) (.pair (.pair (.int .i64) (.int .i64)) (.pair (.pair (.int .i64) (.int .i64)) (.pair (.pair (.int .i64) (.int .i64)) (.pair (.pair (.int .i64) (.int .i64)) (.pair (.pair (.int .i64) (.int .i64)) (.pair (.pair (.int .i64) (.int .i64)) (.pair (.pair (.int .i64) (.int .i64)) (.pair (.pair (.int .i64) (.int .i64)) (.pair (.pair (.int .i64) (.int .i64)) (.pair (.pair (.int .i64) (.int .i64)) (.pair (.pair (.int .i64) (.int .i64)) (.pair (.pair (.int .i64) (.int .i64)) (.pair (.pair (.int .i64) (.int .i64)) (.pair (.pair (.int .i64) (.int .i64)) (.pair (.pair (.int .i64) (.int .i64)) (.pair (.pair (.int .i64) (.int .i64)) (.pair (.pair (.int .i64) (.int .i64)) (.pair (.pair (.int .i64) (.int .i64)) (.pair (.pair (.int .i64) (.int .i64)) (.pair (.pair (.int .i64) (.int .i64)) (.pair (.pair (.int .i64) (.int .i64)) (.pair (.pair (.int .i64) (.int .i64)) (.pair (.pair (.int .i64) (.int .i64)) (.pair (.pair (.int .i64) (.int .i64)) (.pair (.pair (.int .i64) (.int .i64)) (.pair (.pair (.int .i64) (.int .i64)) (.pair (.pair (.int .i64) (.int .i64)) (.pair (.pair (.int .i64) (.int .i64)) (.pair (.pair (.int .i64) (.int .i64)) (.pair (.pair (.int .i64) (.int .i64)) (.pair (.pair (.int .i64) (.int .i64)) (.pair (.pair (.int .i64) (.int .i64)) (.pair (.pair (.int .i64) (.int .i64)) (.pair (.pair (.int .i64) (.int .i64)) (.pair (.pair (.int .i64) (.int .i64)) (.pair (.pair (.int .i64) (.int .i64)) (.pair (.pair (.int .i64) (.int .i64)) (.pair (.pair (.int .i64) (.int .i64)) (.pair (.pair (.int .i64) (.int .i64)) (.pair (.pair (.int .i64) (.int .i64)) (.pair (.pair (.int .i64) (.int .i64)) (.pair (.pair (.int .i64) (.int .i64)) (.pair (.pair (.int .i64) (.int .i64)) (.pair (.pair (.int .i64) (.int .i64)) (.pair (.pair (.int .i64) (.int .i64)) (.pair (.pair (.int .i64) (.int .i64)) (.pair (.pair (.int .i64) (.int .i64)) (.pair (.pair (.int .i64) (.int .i64)) (.pair (.pair (.int .i64) (.int .i64)) (.pair (.pair (.int .i64) (.int .i64)) (.pair (.pair (.int .i64) (.int .i64)) (.pair (.pair (.int .i64) (.int .i64)) (.pair (.int .i64) (.int .i64))))))))))))))))))))))))))))))))))))))))))))))))))))))))))))) [.slice axl_0 xl.length cxl_0] xl) (hG2 : SomeInt g 2) (hG7 : GlobL g 7 (.int .u64) DPow) (hG8 : SomeIf g 8) (hG9 : SomeIf g 9) (K : (List Bs) → Int → Prop)
  (hF : cMaF xd xl K) : CallsH Tryz.prog 12 #[.agg #[.slice axd_0 xd.1.length cxd_0, .bool xd.2], .slice axl_0 xl.length cxl_0] g [] (fun g' H' v => ∃ (r0 : List Bs), ∃ (r1 : Int), ∃ (ar0_0 : Option Addr) (cr0_0 : Nat), v = .tuple #[.slice ar0_0 r0.length cr0_0, .int .i64 r1] ∧ Rep g' (.slice (.str)) [.slice ar0_0 r0.length cr0_0] r0 ∧ H' = [] ∧ K r0 r1) := by
 refine CallsH.enter 57 [(0, .agg #[.slice axd_0 xd.1.length cxd_0, .bool xd.2]), (1, .slice axl_0 xl.length cxl_0)] Tryz.func12 rfl (by kernel_rfl) (by kernel_rfl) (by kernel_rfl) fun w0 => ?_
 refine Ok.seq (Ok.region (Ok.op rfl (OpOk.box (v := .agg #[.slice axd_0 xd.1.length cxd_0, .bool xd.2]) (cs := #[.slice axd_0 xd.1.length cxd_0, .bool xd.2]) rfl (by kernel_rfl) rfl fun b1 => ?_)))
 refine Ok.batch 2 [(1, .slice axl_0 xl.length cxl_0), (2, pv b1 0)] (by kernel_rfl) (Ok.nil (Ok.thenN (Ok.seq (Ok.seq (Ok.region (Ok.op rfl (OpOk.step (v := .agg #[.slice axd_0 xd.1.length cxd_0, .bool xd.2]) (Yields.loadAgg 0 2 #[.slice axd_0 xd.1.length cxd_0, .bool xd.2] rfl rfl Tryz.underlying24 rfl (by kernel_rfl) (by kernel_rfl) (by kernel_rfl)) rfl rfl (Ok.bat 1 [1, 2] [(10, .agg #[.slice axd_0 xd.1.length cxd_0, .bool xd.2]), (11, .slice axl_0 xl.length cxl_0)] ?_))))))))
 obtain ⟨hp2, hF⟩ := hF
 refine Ok.op rfl (OpOk.callG (v := .int .i64 (sfitS xd xl)) enr (fun W hW => sfit_c xd xl (hRxd_0.mono hW.sees) (hRxl_0.mono hW.sees) (hG2.mono hW.sees) hp2) rfl ?_)
 refine Ok.bat 1 [1, 2] [(6, .int .i64 (sfitS xd xl))] ?_
 refine Ok.nil (Ok.thenN (Ok.seq (Ok.region (Ok.bat 2 [1, 2, 6] [(14, .bool ((sfitS xd xl) != 0))] ?_))))
 refine Ok.nil (Ok.thenN (Ok.cond (b := ((sfitS xd xl) != 0)) rfl (fun hc3 => ?_) (fun hc3 => ?_)))
 ·replace hF := hF.1 hc3
  refine Ok.seq (Ok.region (Ok.batch 3 [(4, .slice none 0 0), (5, .int .i64 (sfitS xd xl))] (by kernel_rfl) (Ok.nil (Ok.thenN (Ok.ret (Ok.thenR ?_))))))
  exact Ok.resP (vs := [.slice none 0 0, .int .i64 (sfitS xd xl)]) [] [] (by decide) rfl (.inl rfl) rfl (.cons (.tmp rfl) (.cons (.tmp rfl) .nil)) (Gext.refl w0 g) ⟨([]), (sfitS xd xl), none, 0, rfl, Rep.nil, rfl, hF⟩
 ·replace hF := hF.2 hc3
  refine Ok.skip (Ok.thenN (Ok.seq (Ok.region (Ok.bat 1 [1, 2] [(16, pv b1 0)] ?_))))
  refine Ok.op rfl (OpOk.step (v := .slice axd_0 xd.1.length cxd_0) (Yields.load 0 rfl rfl Tryz.underlying22 rfl (by kernel_rfl)) rfl rfl (Ok.bat 1 [1, 2] [(18, .int .i64 (xd.1.length : Int))] ?_))
  obtain ⟨h04, h14, hF⟩ := hF
  refine Ok.op rfl (OpOk.makeZero (e := .str) (E := 9) (nn := (xd.1.length : Int)) (y := ([] : Bs)) (z := sv ([] : Bs)) 16 8796093022208 rfl rfl Tryz.underlying28 (by kernel_rfl) (by kernel_rfl) (by kernel_rfl) rfl h04 h14 rfl fun a4 c4 xs4 hL4 => ?_)
  refine Ok.bat 1 [1, 2] [(7, .slice a4 (List.replicate (Int.toNat (xd.1.length : Int)) ([] : Bs)).length c4)] ?_
  refine Ok.nil (Ok.thenN (Ok.seq (Ok.seq (Ok.region (Ok.op rfl (OpOk.step (v := .agg #[.slice axd_0 xd.1.length cxd_0, .bool xd.2]) (Yields.loadAgg 1 2 #[.slice axd_0 xd.1.length cxd_0, .bool xd.2] rfl rfl Tryz.underlying24 rfl (by kernel_rfl) (by kernel_rfl) (by kernel_rfl)) rfl rfl (Ok.bat 1 [1, 2, 7] [(20, .agg #[.slice axd_0 xd.1.length cxd_0, .bool xd.2]), (21, .slice axl_0 xl.length cxl_0)] ?_)))))))
  obtain ⟨hp5, hF⟩ := hF
  refine Ok.op rfl (OpOk.callH [] _ enr rfl (cnu_c xd xl hRxd_0 hRxl_0 hG7 hG8 hG9 hp5) rfl fun g6 _ _ hx6 hV6 => ?_)
  obtain ⟨a6_0, c6_0, rfl, hR6_0, rfl⟩ := hV6
  replace hRxl_0 := hRxl_0.mono hx6.1
  replace hL4 := hL4.mono hx6.1
  replace hRxd_0 := hRxd_0.mono hx6.1
  replace hG2 := hG2.mono hx6.1
  replace hG7 := hG7.mono hx6.1
  replace hG8 := hG8.mono hx6.1
  replace hG9 := hG9.mono hx6.1
  refine Ok.bat 2 [1, 2, 7] [(22, .slice a6_0 (cnuS xd xl).length c6_0), (23, .int .i64 ((cnuS xd xl).length : Int)), (24, .int .i64 0)] ?_
  refine Ok.nil (Ok.thenN (Ok.block ?_))
  obtain ⟨k, hF⟩ := hF
  refine Ok.loop (fun k a W => ∃ gl19 : Ghost, Gext w0 g6 gl19 ∧ ∃ (x24l19 : Int) (ayown4_0l19 : Option Addr) (cyown4_0l19 : Nat) (yown4_0l19 : List Bs) (xsyown4_0l19 : List Value), RepL gl19 (.str) xsyown4_0l19 yown4_0l19 ∧ StA 57 [(1, .slice axl_0 xl.length cxl_0), (2, pv b1 0), (7, .slice ayown4_0l19 yown4_0l19.length cyown4_0l19), (22, .slice a6_0 (cnuS xd xl).length c6_0), (23, .int .i64 ((cnuS xd xl).length : Int)), (24, .int .i64 x24l19)] a ∧ StW w0 [.own (.slice ayown4_0l19 yown4_0l19.length cyown4_0l19) 9 1 yown4_0l19.length xsyown4_0l19, .blk b1 (.cells #[.slice axd_0 xd.1.length cxd_0, .bool xd.2] 24)] gl19 W ∧ cMal19 xd xl K k x24l19 yown4_0l19) k ?_ ?_
  ·
   exact fun a W hA hW => ⟨g6, (Gext.refl w0 g6), 0, a4, c4, (List.replicate (Int.toNat (xd.1.length : Int)) ([] : Bs)), xs4, hL4, hA.sub (by kernel_rfl), hW, hF⟩
  ·
   clear hF
   rintro k19 a W ⟨gl19, hxl19, x24l19, ayown4_0l19, cyown4_0l19, yown4_0l19, xsyown4_0l19, hLyown4_0l19, hA, hW, hF⟩
   cases k19 with
   | zero => exact (hF : False).elim
   | succ k19 =>
    refine (?_ : Ok _ _ _ _ _ _) a W hA hW
    clear hA hW
    replace hRxl_0 := hRxl_0.mono hxl19.1
    replace hR6_0 := hR6_0.mono hxl19.1
    replace hRxd_0 := hRxd_0.mono hxl19.1
    replace hG2 := hG2.mono hxl19.1
    replace hG7 := hG7.mono hxl19.1
    replace hG8 := hG8.mono hxl19.1
    replace hG9 := hG9.mono hxl19.1
    refine Ok.seq (Ok.region (Ok.bat 1 [1, 2, 7, 22, 23, 24] [(25, .bool (decide (x24l19 < ((cnuS xd xl).length : Int))))] ?_))
    refine Ok.nil (Ok.thenN (Ok.seq (Ok.cond (b := decide (x24l19 < ((cnuS xd xl).length : Int))) rfl (fun hc7 => ?_) (fun hc7 => ?_))))
    ·replace hF := hF.1 hc7
     refine Ok.skip (Ok.thenN (Ok.cut (fun a W => ∃ gj26 : Ghost, Gext w0 gl19 gj26 ∧ ∃ (ayown4_0j26 : Option Addr) (cyown4_0j26 : Nat) (xsyown4_0j26 : List Value), RepL gj26 (.str) xsyown4_0j26 (cMaV2 xd xl x24l19 yown4_0l19) ∧ StA 57 [(1, .slice axl_0 xl.length cxl_0), (2, pv b1 0), (7, .slice ayown4_0j26 (cMaV2 xd xl x24l19 yown4_0l19).length cyown4_0j26), (22, .slice a6_0 (cnuS xd xl).length c6_0), (23, .int .i64 ((cnuS xd xl).length : Int)), (24, .int .i64 x24l19)] a ∧ StW w0 [.own (.slice ayown4_0j26 (cMaV2 xd xl x24l19 yown4_0l19).length cyown4_0j26) 9 1 (cMaV2 xd xl x24l19 yown4_0l19).length xsyown4_0j26, .blk b1 (.cells #[.slice axd_0 xd.1.length cxd_0, .bool xd.2] 24)] gj26 W ∧ cMaj26 xd xl x24l19 yown4_0l19 (cMal19 xd xl K k19)) ?_ ?_))
     ·
      refine Ok.block (Ok.seq (Ok.region (Ok.bat 1 [1, 2, 7, 22, 23, 24] [(26, .int .i64 x24l19)] ?_)))
      obtain ⟨h09, h19, hF⟩ := hF
      have he9 := get_of (l := (cnuS xd xl)) (default : Int) h19
      generalize hg9 : ((cnuS xd xl).getD (Int.toNat x24l19) default) = e9 at he9 hF ⊢
      refine Ok.op rfl (OpOk.indexRo (e := .int .i64) (i := x24l19) (el := e9) rfl rfl Tryz.underlying36 (by kernel_rfl) hR6_0 h09 he9 rfl fun q8 o8 cs8 _ hat8 hr8 => ?_)
      obtain rfl := hr8
      replace hat8 : At gl19 q8 o8 [.int .i64 e9] := hat8
      refine Ok.op rfl (OpOk.step (v := .int .i64 e9) (Yields.loadRo 0 hat8 (by kernel_rfl) Tryz.underlying3 rfl (by kernel_rfl)) rfl rfl (Ok.bat 2 [1, 2, 7, 22, 23, 24] [(8, .int .i64 x24l19), (9, .int .i64 e9)] ?_))
      refine Ok.nil (Ok.thenN (Ok.seq (Ok.seq (Ok.region (Ok.op rfl (OpOk.step (v := .agg #[.slice axd_0 xd.1.length cxd_0, .bool xd.2]) (Yields.loadAgg 1 2 #[.slice axd_0 xd.1.length cxd_0, .bool xd.2] rfl rfl Tryz.underlying24 rfl (by kernel_rfl) (by kernel_rfl) (by kernel_rfl)) rfl rfl (Ok.bat 2 [1, 2, 7, 8, 9, 22, 23, 24] [(29, .agg #[.slice axd_0 xd.1.length cxd_0, .bool xd.2]), (30, .slice axl_0 xl.length cxl_0), (31, .int .i64 x24l19)] ?_)))))))
      obtain ⟨hp10, hF⟩ := hF
      refine Ok.op rfl (OpOk.callG (v := .bool (citS xd xl x24l19)) enr (fun W hW => cit_c xd xl x24l19 (hRxd_0.mono hW.sees) (hRxl_0.mono hW.sees) hp10) rfl ?_)
      refine Ok.bat 1 [1, 2, 7, 8, 9, 22, 23, 24] [(33, .bool (!(citS xd xl x24l19)))] ?_
      refine Ok.nil (Ok.thenN (Ok.cond (b := !(citS xd xl x24l19)) rfl (fun hc11 => ?_) (fun hc11 => ?_)))
      ·replace hF := hF.1 hc11
       refine Ok.exit (Ok.thenE (Ok.blockHit (Ok.thenN ?_)))
       subst hg9
       refine Ok.reval 7 rfl (show (.slice ayown4_0l19 yown4_0l19.length cyown4_0l19 : Value) = .slice ayown4_0l19 (cMaV2 xd xl x24l19 yown4_0l19).length cyown4_0l19 from congrArg (fun l : List Bs => Value.slice ayown4_0l19 l.length cyown4_0l19) ((if_t hc11).symm)) ?_
       refine Ok.heapEq (H' := [.own (.slice ayown4_0l19 (cMaV2 xd xl x24l19 yown4_0l19).length cyown4_0l19) 9 1 (cMaV2 xd xl x24l19 yown4_0l19).length xsyown4_0l19, .blk b1 (.cells #[.slice axd_0 xd.1.length cxd_0, .bool xd.2] 24)]) (econs (congrArg (fun l : List Bs => Ent.own (.slice ayown4_0l19 l.length cyown4_0l19) 9 1 l.length xsyown4_0l19) ((if_t hc11).symm)) (econs (rfl) rfl)) ?_
       exact fun a W hA hW => ⟨gl19, (Gext.refl w0 gl19), ayown4_0l19, cyown4_0l19, xsyown4_0l19, (Eq.mp (congrArg (fun l : List Bs => RepL gl19 (.str) xsyown4_0l19 l) ((if_t hc11).symm)) hLyown4_0l19), hA.sub (by kernel_rfl), hW, hF⟩
      ·replace hF := hF.2 hc11
       refine Ok.skip (Ok.thenN (Ok.seq (Ok.region (Ok.bat 2 [1, 2, 7, 8, 9, 22, 23, 24] [(34, .slice axl_0 xl.length cxl_0), (35, .int .i64 x24l19)] ?_))))
       obtain ⟨h013, h113, hF⟩ := hF
       have he13 := get_of (l := xl) (default : STE) h113
       generalize hg13 : (xl.getD (Int.toNat x24l19) default) = e13 at he13 hF ⊢
       refine Ok.op rfl (OpOk.indexRo (e := .pair (.pair (.int .i64) (.int .i64)) (.pair (.pair (.int .i64) (.int .i64)) (.pair (.pair (.int .i64) (.int .i64)) (.pair (.pair (.int .i64) (.int .i64)) (.pair (.pair (.int .i64) (.int .i64)) (.pair (.pair (.int .i64) (.int .i64)) (.pair (.pair (.int .i64) (.int .i64)) (.pair (.pair (.int .i64) (.int .i64)) (.pair (.pair (.int .i64) (.int .i64)) (.pair (.pair (.int .i64) (.int .i64)) (.pair (.pair (.int .i64) (.int .i64)) (.pair (.pair (.int .i64) (.int .i64)) (.pair (.pair (.int .i64) (.int .i64)) (.pair (.pair (.int .i64) (.int .i64)) (.pair (.pair (.int .i64) (.int .i64)) (.pair (.pair (.int .i64) (.int .i64)) (.pair (.pair (.int .i64) (.int .i64)) (.pair (.pair (.int .i64) (.int .i64)) (.pair (.pair (.int .i64) (.int .i64)) (.pair (.pair (.int .i64) (.int .i64)) (.pair (.pair (.int .i64) (.int .i64)) (.pair (.pair (.int .i64) (.int .i64)) (.pair (.pair (.int .i64) (.int .i64)) (.pair (.pair (.int .i64) (.int .i64)) (.pair (.pair (.int .i64) (.int .i64)) (.pair (.pair (.int .i64) (.int .i64)) (.pair (.pair (.int .i64) (.int .i64)) (.pair (.pair (.int .i64) (.int .i64)) (.pair (.pair (.int .i64) (.int .i64)) (.pair (.pair (.int .i64) (.int .i64)) (.pair (.pair (.int .i64) (.int .i64)) (.pair (.pair (.int .i64) (.int .i64)) (.pair (.pair (.int .i64) (.int .i64)) (.pair (.pair (.int .i64) (.int .i64)) (.pair (.pair (.int .i64) (.int .i64)) (.pair (.pair (.int .i64) (.int .i64)) (.pair (.pair (.int .i64) (.int .i64)) (.pair (.pair (.int .i64) (.int .i64)) (.pair (.pair (.int .i64) (.int .i64)) (.pair (.pair (.int .i64) (.int .i64)) (.pair (.pair (.int .i64) (.int .i64)) (.pair (.pair (.int .i64) (.int .i64)) (.pair (.pair (.int .i64) (.int .i64)) (.pair (.pair (.int .i64) (.int .i64)) (.pair (.pair (.int .i64) (.int .i64)) (.pair (.pair (.int .i64) (.int .i64)) (.pair (.pair (.int .i64) (.int .i64)) (.pair (.pair (.int .i64) (.int .i64)) (.pair (.pair (.int .i64) (.int .i64)) (.pair (.pair (.int .i64) (.int .i64)) (.pair (.pair (.int .i64) (.int .i64)) (.pair (.pair (.int .i64) (.int .i64)) (.pair (.pair (.int .i64) (.int .i64)) (.pair (.pair (.int .i64) (.int .i64)) (.pair (.pair (.int .i64) (.int .i64)) (.pair (.pair (.int .i64) (.int .i64)) (.pair (.pair (.int .i64) (.int .i64)) (.pair (.pair (.int .i64) (.int .i64)) (.pair (.int .i64) (.int .i64)))))))))))))))))))))))))))))))))))))))))))))))))))))))))))) (i := x24l19) (el := e13) rfl rfl Tryz.underlying34 (by kernel_rfl) hRxl_0 h013 he13 rfl fun q12 o12 cs12 _ hat12 hr12 => ?_)
       obtain rfl : cs12 = (cel46 e13) := Rep.flatEq (by kernel_rfl) hr12 (by kernel_rfl)
       replace hat12 : At gl19 q12 o12 (cel46 e13) := hat12
       refine Ok.bat 2 [1, 2, 7, 8, 9, 22, 23, 24] [(38, .pointer (some ⟨q12, o12 + 115, none⟩))] ?_
       refine Ok.op rfl (OpOk.step (v := .int .i64 e13.2.2.2.2.2.2.2.2.2.2.2.2.2.2.2.2.2.2.2.2.2.2.2.2.2.2.2.2.2.2.2.2.2.2.2.2.2.2.2.2.2.2.2.2.2.2.2.2.2.2.2.2.2.2.2.2.2.1.2) (Yields.loadRo 115 hat12 (by kernel_rfl) Tryz.underlying3 rfl (by kernel_rfl)) rfl rfl (Ok.nil (Ok.thenN (Ok.block (Ok.seq (Ok.region (Ok.bat 2 [1, 2, 7, 8, 9, 22, 23, 24] [(39, .int .i64 e13.2.2.2.2.2.2.2.2.2.2.2.2.2.2.2.2.2.2.2.2.2.2.2.2.2.2.2.2.2.2.2.2.2.2.2.2.2.2.2.2.2.2.2.2.2.2.2.2.2.2.2.2.2.2.2.2.2.1.2), (40, .bool (e13.2.2.2.2.2.2.2.2.2.2.2.2.2.2.2.2.2.2.2.2.2.2.2.2.2.2.2.2.2.2.2.2.2.2.2.2.2.2.2.2.2.2.2.2.2.2.2.2.2.2.2.2.2.2.2.2.2.1.2 == 1))] ?_)))))))
       refine Ok.nil (Ok.thenN (Ok.cond (b := (e13.2.2.2.2.2.2.2.2.2.2.2.2.2.2.2.2.2.2.2.2.2.2.2.2.2.2.2.2.2.2.2.2.2.2.2.2.2.2.2.2.2.2.2.2.2.2.2.2.2.2.2.2.2.2.2.2.2.1.2 == 1)) rfl (fun hc14 => ?_) (fun hc14 => ?_)))
       ·replace hF := hF.1 hc14
        refine Ok.region (Ok.bat 3 [1, 2, 7, 22, 23, 24] [(42, .slice ayown4_0l19 yown4_0l19.length cyown4_0l19), (43, .int .i64 x24l19), (44, .int .i64 e9)] ?_)
        obtain ⟨hp15, hF⟩ := hF
        refine Ok.op rfl (OpOk.callG (v := sv (cmarkM 1 e9)) enr (fun W hW => cmark_c 1 e9 (hG7.mono hW.sees) hp15) rfl ?_)
        obtain ⟨h017, h117, hF⟩ := hF
        have he17 := get_of (l := yown4_0l19) (default : Bs) h117
        generalize hg17 : (yown4_0l19.getD (Int.toNat x24l19) default) = e17 at he17 hF ⊢
        refine Ok.op rfl (OpOk.indexOwn (e := .str) (q := x24l19) (el := e17) 0 rfl hLyown4_0l19 rfl rfl Tryz.underlying28 (by kernel_rfl) (by kernel_rfl) h017 he17 rfl fun cs16 _ hr16 hc16 => ?_)
        obtain rfl := hr16
        replace hc16 : ∀ j v, ([sv e17] : List Value)[j]? = some v → xsyown4_0l19[Int.toNat x24l19 * 1 + j]? = some v := hc16
        refine Ok.op rfl (OpOk.storeOwn (e := .str) (q := Int.toNat x24l19) (cells := [sv e17]) (vs := [sv (cmarkM 1 e9)]) (el' := (cmarkM 1 e9)) 0 0 1 rfl hLyown4_0l19 hc16 (by kernel_rfl) rfl rfl rfl (by kernel_rfl) (by kernel_rfl) (by kernel_rfl) (by kernel_rfl) (by kernel_rfl) (show Rep _ _ [sv (cmarkM 1 e9)] _ from rfl) fun xs18 hL18 => ?_)
        rw [show yown4_0l19.length = (yown4_0l19.set (Int.toNat x24l19) (cmarkM 1 e9)).length from (List.length_set ..).symm]
        refine Ok.nil (Ok.blockN (Ok.blockN (Ok.thenN ?_)))
        subst hg17
        subst hg13
        subst hg9
        refine Ok.reval 7 rfl (show (.slice ayown4_0l19 (yown4_0l19.set (Int.toNat x24l19) (cmarkM 1 ((cnuS xd xl).getD (Int.toNat x24l19) default))).length cyown4_0l19 : Value) = .slice ayown4_0l19 (cMaV2 xd xl x24l19 yown4_0l19).length cyown4_0l19 from congrArg (fun l : List Bs => Value.slice ayown4_0l19 l.length cyown4_0l19) ((Eq.trans ((if_t hc14).symm) ((if_f hc11).symm)))) ?_
        refine Ok.heapEq (H' := [.own (.slice ayown4_0l19 (cMaV2 xd xl x24l19 yown4_0l19).length cyown4_0l19) 9 1 (cMaV2 xd xl x24l19 yown4_0l19).length xs18, .blk b1 (.cells #[.slice axd_0 xd.1.length cxd_0, .bool xd.2] 24)]) (econs (congrArg (fun l : List Bs => Ent.own (.slice ayown4_0l19 l.length cyown4_0l19) 9 1 l.length xs18) ((Eq.trans ((if_t hc14).symm) ((if_f hc11).symm)))) (econs (rfl) rfl)) ?_
        exact fun a W hA hW => ⟨gl19, (Gext.refl w0 gl19), ayown4_0l19, cyown4_0l19, xs18, (Eq.mp (congrArg (fun l : List Bs => RepL gl19 (.str) xs18 l) ((Eq.trans ((if_t hc14).symm) ((if_f hc11).symm)))) hL18), hA.sub (by kernel_rfl), hW, hF⟩
       ·replace hF := hF.2 hc14
        refine Ok.seq (Ok.region (Ok.bat 2 [1, 2, 7, 8, 9, 22, 23, 24] [(47, .bool (e13.2.2.2.2.2.2.2.2.2.2.2.2.2.2.2.2.2.2.2.2.2.2.2.2.2.2.2.2.2.2.2.2.2.2.2.2.2.2.2.2.2.2.2.2.2.2.2.2.2.2.2.2.2.2.2.2.2.1.2 == 2))] ?_))
        refine Ok.nil (Ok.thenN (Ok.cond (b := (e13.2.2.2.2.2.2.2.2.2.2.2.2.2.2.2.2.2.2.2.2.2.2.2.2.2.2.2.2.2.2.2.2.2.2.2.2.2.2.2.2.2.2.2.2.2.2.2.2.2.2.2.2.2.2.2.2.2.1.2 == 2)) rfl (fun hc19 => ?_) (fun hc19 => ?_)))
        ·replace hF := hF.1 hc19
         refine Ok.region (Ok.bat 3 [1, 2, 7, 22, 23, 24] [(49, .slice ayown4_0l19 yown4_0l19.length cyown4_0l19), (50, .int .i64 x24l19), (51, .int .i64 e9)] ?_)
         obtain ⟨hp20, hF⟩ := hF
         refine Ok.op rfl (OpOk.callG (v := sv (cmarkM 2 e9)) enr (fun W hW => cmark_c 2 e9 (hG7.mono hW.sees) hp20) rfl ?_)
         obtain ⟨hv, hF⟩ := hF
         refine Ok.op rfl (OpOk.step (v := sv ((cmarkM 2 e9) ++ ([46] : Bs))) (Yields.strAdd rfl rfl hv) rfl rfl ?_)
         obtain ⟨h022, h122, hF⟩ := hF
         have he22 := get_of (l := yown4_0l19) (default : Bs) h122
         generalize hg22 : (yown4_0l19.getD (Int.toNat x24l19) default) = e22 at he22 hF ⊢
         refine Ok.op rfl (OpOk.indexOwn (e := .str) (q := x24l19) (el := e22) 0 rfl hLyown4_0l19 rfl rfl Tryz.underlying28 (by kernel_rfl) (by kernel_rfl) h022 he22 rfl fun cs21 _ hr21 hc21 => ?_)
         obtain rfl := hr21
         replace hc21 : ∀ j v, ([sv e22] : List Value)[j]? = some v → xsyown4_0l19[Int.toNat x24l19 * 1 + j]? = some v := hc21
         refine Ok.op rfl (OpOk.storeOwn (e := .str) (q := Int.toNat x24l19) (cells := [sv e22]) (vs := [sv ((cmarkM 2 e9) ++ ([46] : Bs))]) (el' := (cmarkM 2 e9) ++ ([46] : Bs)) 0 0 1 rfl hLyown4_0l19 hc21 (by kernel_rfl) rfl rfl rfl (by kernel_rfl) (by kernel_rfl) (by kernel_rfl) (by kernel_rfl) (by kernel_rfl) (show Rep _ _ [sv ((cmarkM 2 e9) ++ ([46] : Bs))] _ from rfl) fun xs23 hL23 => ?_)
         rw [show yown4_0l19.length = (yown4_0l19.set (Int.toNat x24l19) ((cmarkM 2 e9) ++ ([46] : Bs))).length from (List.length_set ..).symm]
         refine Ok.nil (Ok.blockN (Ok.blockN (Ok.thenN ?_)))
         subst hg22
         subst hg13
         subst hg9
         refine Ok.reval 7 rfl (show (.slice ayown4_0l19 (yown4_0l19.set (Int.toNat x24l19) ((cmarkM 2 ((cnuS xd xl).getD (Int.toNat x24l19) default)) ++ ([46] : Bs))).length cyown4_0l19 : Value) = .slice ayown4_0l19 (cMaV2 xd xl x24l19 yown4_0l19).length cyown4_0l19 from congrArg (fun l : List Bs => Value.slice ayown4_0l19 l.length cyown4_0l19) ((Eq.trans ((Eq.trans ((if_t hc19).symm) ((if_f hc14).symm))) ((if_f hc11).symm)))) ?_
         refine Ok.heapEq (H' := [.own (.slice ayown4_0l19 (cMaV2 xd xl x24l19 yown4_0l19).length cyown4_0l19) 9 1 (cMaV2 xd xl x24l19 yown4_0l19).length xs23, .blk b1 (.cells #[.slice axd_0 xd.1.length cxd_0, .bool xd.2] 24)]) (econs (congrArg (fun l : List Bs => Ent.own (.slice ayown4_0l19 l.length cyown4_0l19) 9 1 l.length xs23) ((Eq.trans ((Eq.trans ((if_t hc19).symm) ((if_f hc14).symm))) ((if_f hc11).symm)))) (econs (rfl) rfl)) ?_
         exact fun a W hA hW => ⟨gl19, (Gext.refl w0 gl19), ayown4_0l19, cyown4_0l19, xs23, (Eq.mp (congrArg (fun l : List Bs => RepL gl19 (.str) xs23 l) ((Eq.trans ((Eq.trans ((if_t hc19).symm) ((if_f hc14).symm))) ((if_f hc11).symm)))) hL23), hA.sub (by kernel_rfl), hW, hF⟩
        ·replace hF := hF.2 hc19
         refine Ok.skip (Ok.blockN (Ok.blockN (Ok.thenN ?_)))
         subst hg13
         subst hg9
         refine Ok.reval 7 rfl (show (.slice ayown4_0l19 yown4_0l19.length cyown4_0l19 : Value) = .slice ayown4_0l19 (cMaV2 xd xl x24l19 yown4_0l19).length cyown4_0l19 from congrArg (fun l : List Bs => Value.slice ayown4_0l19 l.length cyown4_0l19) ((Eq.trans ((Eq.trans ((if_f hc19).symm) ((if_f hc14).symm))) ((if_f hc11).symm)))) ?_
         refine Ok.heapEq (H' := [.own (.slice ayown4_0l19 (cMaV2 xd xl x24l19 yown4_0l19).length cyown4_0l19) 9 1 (cMaV2 xd xl x24l19 yown4_0l19).length xsyown4_0l19, .blk b1 (.cells #[.slice axd_0 xd.1.length cxd_0, .bool xd.2] 24)]) (econs (congrArg (fun l : List Bs => Ent.own (.slice ayown4_0l19 l.length cyown4_0l19) 9 1 l.length xsyown4_0l19) ((Eq.trans ((Eq.trans ((if_f hc19).symm) ((if_f hc14).symm))) ((if_f hc11).symm)))) (econs (rfl) rfl)) ?_
         exact fun a W hA hW => ⟨gl19, (Gext.refl w0 gl19), ayown4_0l19, cyown4_0l19, xsyown4_0l19, (Eq.mp (congrArg (fun l : List Bs => RepL gl19 (.str) xsyown4_0l19 l) ((Eq.trans ((Eq.trans ((if_f hc19).symm) ((if_f hc14).symm))) ((if_f hc11).symm)))) hLyown4_0l19), hA.sub (by kernel_rfl), hW, hF⟩
     ·
      clear hF
      rintro a W ⟨gj26, hxj26, ayown4_0j26, cyown4_0j26, xsyown4_0j26, hLyown4_0j26, hA, hW, hF⟩
      refine (?_ : Ok _ _ _ _ _ _) a W hA hW
      clear hA hW
      replace hRxl_0 := hRxl_0.mono hxj26.1
      replace hR6_0 := hR6_0.mono hxj26.1
      replace hRxd_0 := hRxd_0.mono hxj26.1
      replace hG2 := hG2.mono hxj26.1
      replace hG7 := hG7.mono hxj26.1
      replace hG8 := hG8.mono hxj26.1
      replace hG9 := hG9.mono hxj26.1
      refine Ok.region (Ok.bat 2 [1, 2, 7, 22, 23] [(24, .int .i64 (w6 (x24l19 + 1)))] ?_)
      refine Ok.nil (Ok.thenN ?_)
      exact fun a W hA hW => ⟨k19, Nat.lt_succ_self _, gj26, (hxl19.trans hxj26), w6 (x24l19 + 1), ayown4_0j26, cyown4_0j26, (cMaV2 xd xl x24l19 yown4_0l19), xsyown4_0j26, hLyown4_0j26, hA.sub (by kernel_rfl), hW, hF⟩
    ·replace hF := hF.2 hc7
     refine Ok.exit (Ok.thenE (Ok.thenE (Ok.blockHit (Ok.thenN (Ok.seq (Ok.region (Ok.batch 3 [(4, .slice ayown4_0l19 yown4_0l19.length cyown4_0l19), (5, .int .i64 0)] (by kernel_rfl) (Ok.nil (Ok.thenN (Ok.ret (Ok.frz 0 rfl hLyown4_0l19 fun g24 hx24 hRf24 => ?_)))))))))))
     replace hRxd_0 := hRxd_0.mono hx24.1
     replace hG2 := hG2.mono hx24.1
     replace hG7 := hG7.mono hx24.1
     replace hG8 := hG8.mono hx24.1
     replace hG9 := hG9.mono hx24.1
     exact Ok.resP (vs := [.slice ayown4_0l19 yown4_0l19.length cyown4_0l19, .int .i64 0]) [] [] (by decide) rfl (.inl rfl) rfl (.cons (.tmp rfl) (.cons (.tmp rfl) .nil)) ((hx6.trans hxl19).trans hx24) ⟨yown4_0l19, 0, ayown4_0l19, cyown4_0l19, rfl, hRf24, rfl, hF⟩
def lisN (s : STE) : Int := ((a59 s).getD 57 default).2
def mar1 (d : DC) (l : STL) (n : Nat) : Bs := if citS d l (n : Int) = true then (if (lisN (l.getD n default) == 1) = true then cmarkM 1 (numF d l n) else if (lisN (l.getD n default) == 2) = true then cmarkM 2 (numF d l n) ++ [46] else []) else []
noncomputable def cMaS (d : DC) (l : STL) : List Bs × Int := if (sfitS d l != 0) = true then ([], sfitS d l) else ((List.range d.1.length).map (mar1 d l), 0)
def cMaP (d : DC) (l : STL) : Prop := sfitP d l
theorem mark2 (n : Int) : cmarkM 2 n = Lib.itoa n := rfl
theorem cnu_get {d : DC} {l : STL} {n : Nat} (h : n < d.1.length) : (cnuS d l).getD n default = numF d l n := by
 unfold cnuS
 rw [List.getD_eq_getElem?_getD, List.getElem?_map, List.getElem?_range h]; rfl
theorem cMa_F (d : DC) (l : STL) (hp : cMaP d l) : cMaF d l (fun a b => (a, b) = cMaS d l) := by
 refine ⟨hp, fun h => by unfold cMaS; rw [if_t h], fun h => ?_⟩
 have hc := fit_good hp h
 have hc0 := hc
 obtain ⟨hG, hl, -⟩ := hc
 have h2 := hG.few
 have hcl : (cnuS d l).length = d.1.length := by unfold cnuS; simp
 have hR : cMaS d l = ((List.range d.1.length).map (mar1 d l), 0) := by unfold cMaS; rw [if_f h]
 refine ⟨by omega, by omega, hc0, d.1.length + 1, ?_⟩
 have loop : ∀ (k i : Nat) (acc : List Bs), i + k = d.1.length → acc = (List.range i).map (mar1 d l) ++ List.replicate k [] → cMal19 d l (fun a b => (a, b) = cMaS d l) (k + 1) (i : Int) acc := by
  intro k
  induction k with
  | zero =>
   intro i acc h ha
   refine ⟨fun h2 => by have := of_decide_eq_true h2; omega, fun _ => ?_⟩
   rw [hR, ha, List.replicate_zero, List.append_nil, show i = d.1.length by omega]
  | succ k ih =>
   intro i acc h ha
   have hal : acc.length = d.1.length := by rw [ha]; simp; omega
   have hg := cnu_get (d := d) (l := l) (show i < d.1.length by omega)
   have hb := numF_in d l i
   have set1 : ∀ v, v = mar1 d l i → acc.set i v = (List.range (i + 1)).map (mar1 d l) ++ List.replicate k [] := fun v hv => by
    rw [ha, hv, List.replicate_succ, List.set_append_right _ _ (by simp), List.range_succ, List.map_append, List.append_assoc]
    simp
   have set0 : mar1 d l i = [] → acc = (List.range (i + 1)).map (mar1 d l) ++ List.replicate k [] := fun hv => by
    rw [ha, List.replicate_succ, List.range_succ, List.map_append, List.append_assoc, List.map_cons, List.map_nil, hv]; rfl
   have hli : ((l.getD i default).2.2.2.2.2.2.2.2.2.2.2.2.2.2.2.2.2.2.2.2.2.2.2.2.2.2.2.2.2.2.2.2.2.2.2.2.2.2.2.2.2.2.2.2.2.2.2.2.2.2.2.2.2.2.2.2.2.1.2) = lisN (l.getD i default) := rfl
   have e : cMaV2 d l (i : Int) acc = (List.range (i + 1)).map (mar1 d l) ++ List.replicate k [] := by
    unfold cMaV2
    rw [Int.toNat_natCast, hg, hli]
    unfold mar1 at set1 set0
    cases hc : citS d l (i : Int)
    ·rw [if_t (c := !false) rfl]; exact set0 (by rw [hc]; rfl)
    ·rw [if_f (c := !true) rfl]
     cases h1 : (lisN (l.getD i default) == 1)
     ·rw [if_f rfl]
      cases h2 : (lisN (l.getD i default) == 2)
      ·rw [if_f rfl]; exact set0 (by rw [hc, h1, h2]; rfl)
      ·rw [if_t rfl]; exact set1 _ (by rw [hc, h1, h2]; rfl)
     ·rw [if_t rfl]; exact set1 _ (by rw [hc, h1]; rfl)
   have j26 : cMaj26 d l (i : Int) acc (cMal19 d l (fun a b => (a, b) = cMaS d l) (k + 1)) := by
    unfold cMaj26
    rw [w64 (by omega)]
    exact ih (i + 1) _ (by omega) e
   have hm := itoa_small (n := numF d l i) (by omega)
   refine ⟨fun _ => ⟨by omega, by omega, ⟨by omega, by omega, hl⟩, fun _ => j26, fun _ => ⟨by omega, by omega, fun _ => ⟨?_, by omega, by omega, j26⟩, fun _ => ⟨fun _ => ⟨?_, ?_, by omega, by omega, j26⟩, fun _ => j26⟩⟩⟩, fun h2 => by have := of_decide_eq_false h2; omega⟩
   ·rw [Int.toNat_natCast, hg]; exact hb
   ·rw [Int.toNat_natCast, hg]; exact hb
   ·rw [Int.toNat_natCast, hg, mark2, maxLen_eq]
    simp only [List.length_cons, List.length_nil]; omega
 exact loop d.1.length 0 _ (by omega) (by rw [Int.toNat_natCast]; rfl)
theorem cMa_c {g : Ghost} {axd_0 : Option Addr} {cxd_0 : Nat} (xd : (List (Int × Bs × (List (Bs × Bs)) × Bs × Int × List (Int))) × Bool) {axl_0 : Option Addr} {cxl_0 : Nat} (xl : List ((Int × Int) × (Int × Int) × (Int × Int) × (Int × Int) × (Int × Int) × (Int × Int) × (Int × Int) × (Int × Int) × (Int × Int) × (Int × Int) × (Int × Int) × (Int × Int) × (Int × Int) × (Int × Int) × (Int × Int) × (Int × Int) × (Int × Int) × (Int × Int) × (Int × Int) × (Int × Int) × (Int × Int) × (Int × Int) × (Int × Int) × (Int × Int) × (Int × Int) × (Int × Int) × (Int × Int) × (Int × Int) × (Int × Int) × (Int × Int) × (Int × Int) × (Int × Int) × (Int × Int) × (Int × Int) × (Int × Int) × (Int × Int) × (Int × Int) × (Int × Int) × (Int × Int) × (Int × Int) × (Int × Int) × (Int × Int) × (Int × Int) × (Int × Int) × (Int × Int) × (Int × Int) × (Int × Int) × (Int × Int) × (Int × Int) × (Int × Int) × (Int × Int) × (Int × Int) × (Int × Int) × (Int × Int) × (Int × Int) × (Int × Int) × (Int × Int) × (Int × Int) × Int × Int)) (hRxd_0 : Rep g (.slice (.pair (.int .i64) (.pair (.str) (.pair (.slice (.pair (.str) (.str))) (.pair (.str) (.pair (.int .i64) (.slice (.int .i64)))))))) [.slice axd_0 xd.1.length cxd_0] xd.1) (hRxl_0 : Rep g (.slice (.pair (.pair (.int .i64) (.int .i64)) (.pair (.pair (.int .i64) (.int .i64)) (.pair (.pair (.int .i64) (.int .i64)) (.pair (.pair (.int .i64) (.int .i64)) (.pair (.pair (.int .i64) (.int .i64)) (.pair (.pair (.int .i64) (.int .i64)) (.pair (.pair (.int .i64) (.int .i64)) (.pair (.pair (.int .i64) (.int .i64)) (.pair (.pair (.int .i64) (.int .i64)) (.pair (.pair (.int .i64) (.int .i64)) (.pair (.pair (.int .i64) (.int .i64)) (.pair (.pair (.int .i64) (.int .i64)) (.pair (.pair (.int .i64) (.int .i64)) (.pair (.pair (.int .i64) (.int .i64)) (.pair (.pair (.int .i64) (.int .i64)) (.pair (.pair (.int .i64) (.int .i64)) (.pair (.pair (.int .i64) (.int .i64)) (.pair (.pair (.int .i64) (.int .i64)) (.pair (.pair (.int .i64) (.int .i64)) (.pair (.pair (.int .i64) (.int .i64)) (.pair (.pair (.int .i64) (.int .i64)) (.pair (.pair (.int .i64) (.int .i64)) (.pair (.pair (.int .i64) (.int .i64)) (.pair (.pair (.int .i64) (.int .i64)) (.pair (.pair (.int .i64) (.int .i64)) (.pair (.pair (.int .i64) (.int .i64)) (.pair (.pair (.int .i64) (.int .i64)) (.pair (.pair (.int .i64) (.int .i64)) (.pair (.pair (.int .i64) (.int .i64)) (.pair (.pair (.int .i64) (.int .i64)) (.pair (.pair (.int .i64) (.int .i64)) (.pair (.pair (.int .i64) (.int .i64)) (.pair (.pair (.int .i64) (.int .i64)) (.pair (.pair (.int .i64) (.int .i64)) (.pair (.pair (.int .i64) (.int .i64)) (.pair (.pair (.int .i64) (.int .i64)) (.pair (.pair (.int .i64) (.int .i64)) (.pair (.pair (.int .i64) (.int .i64)) (.pair (.pair (.int .i64) (.int .i64)) (.pair (.pair (.int .i64) (.int .i64)) (.pair (.pair (.int .i64) (.int .i64)) (.pair (.pair (.int .i64) (.int .i64)) (.pair (.pair (.int .i64) (.int .i64)) (.pair (.pair (.int .i64) (.int .i64)) (.pair (.pair (.int .i64) (.int .i64)) (.pair (.pair (.int .i64) (.int .i64)) (.pair (.pair (.int .i64) (.int .i64)) (.pair (.pair (.int .i64) (.int .i64)) (.pair (.pair (.int .i64) (.int .i64)) (.pair (.pair (.int .i64) (.int .i64)) (.pair (.pair (.int .i64) (.int .i64)) (.pair (.pair (.int .i64) (.int .i64)) (.pair (.pair (.int .i64) (.int .i64)) (.pair (.pair (.int .i64) (.int .i64)) (.pair (.pair (.int .i64) (.int .i64)) (.pair (.pair (.int .i64) (.int .i64)) (.pair (.pair (.int .i64) (.int .i64)) (.pair (.pair (.int .i64) (.int .i64)) (.pair (.int .i64) (.int .i64))))))))))))))))))))))))))))))))))))))))))))))))))))))))))))) [.slice axl_0 xl.length cxl_0] xl) (hG2 : SomeInt g 2) (hG7 : GlobL g 7 (.int .u64) DPow) (hG8 : SomeIf g 8) (hG9 : SomeIf g 9)  (hp : cMaP xd xl) : CallsH Tryz.prog 12 #[.agg #[.slice axd_0 xd.1.length cxd_0, .bool xd.2], .slice axl_0 xl.length cxl_0] g [] (fun g' H' v => ∃ (ar0_0 : Option Addr) (cr0_0 : Nat), v = .tuple #[.slice ar0_0 ((cMaS xd xl).1).length cr0_0, .int .i64 (cMaS xd xl).2] ∧ Rep g' (.slice (.str)) [.slice ar0_0 ((cMaS xd xl).1).length cr0_0] (cMaS xd xl).1 ∧ H' = []) :=
 (cMa_ok xd xl hRxd_0 hRxl_0 hG2 hG7 hG8 hG9 _ (cMa_F xd xl hp)).mono (by rintro g' H' v _ ⟨r0, r1, ar0_0, cr0_0, rfl, hRr0_0, rfl, hK⟩; obtain ⟨rfl, rfl⟩ : r0 = (cMaS xd xl).1 ∧ r1 = (cMaS xd xl).2 := ⟨congrArg (fun z => z.1) hK, congrArg (fun z => z.2) hK⟩; exact ⟨ar0_0, cr0_0, rfl, hRr0_0, rfl⟩)
end Go.Proofs.YtdiedaeabbcceaaGreatDoor.Cq
