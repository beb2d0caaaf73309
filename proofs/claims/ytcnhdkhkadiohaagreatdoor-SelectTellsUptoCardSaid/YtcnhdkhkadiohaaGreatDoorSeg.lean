/- selector: what is wrong with a test, with paths, by the document. -/
import Derived.Test.YtcnhdkhkadiohaaGreatDoorSef
namespace Go.Proofs.YtcnhdkhkadiohaaGreatDoor.Se
open Go Go.Eng Go.RowKit Bld Trm Css Tk Ti
set_option maxHeartbeats 4000000
set_option maxRecDepth 100000
set_option linter.unusedSimpArgs false
set_option linter.unusedVariables false
def tmyP (N : Nat) (t : Ts) (i : Int) : Prop := tstP N t i
def pmyP (N : Nat) (l : List Ph) : Prop := ptsP N l
def tmy_C (N : Nat) : Prop := ∀ (g : Ghost) {axt_0 : Option Addr} {cxt_0 : Nat} (xt : TS) (xat : Int) (hRxt_0 : Rep g (.slice yP) [.slice axt_0 xt.kids.length cxt_0] xt.kids) (hG0 : SomeInt g 0)  (hp : tmyP N xt xat), CallsG Tryz.prog 30 #[.agg (aL xt.lab axt_0 xt.kids.length cxt_0), iv xat] g (.bool (tstS xt xat))
def pmy_C (N : Nat) : Prop := ∀ (g : Ghost) {axl_0 : Option Addr} {cxl_0 : Nat} (xl : List PH) (hRxl_0 : Rep g (.slice yP) [.slice axl_0 xl.length cxl_0] xl) (hG0 : SomeInt g 0)  (hp : pmyP N xl), CallsG Tryz.prog 18 #[.slice axl_0 xl.length cxl_0] g (.bool (ptsS xl))
def tmyV0 (xt : TS) (xat : Int) : Bool :=
 ((decide (xat > 0)) && ((xt.lab.1 == 1) || (xt.lab.1 == 2)))
def tmyV1 (xt : TS) : Bool :=
 ((xt.lab.1 == 2) || ((xt.lab.1 == 3) || ((xt.lab.1 == 4) || (xt.lab.1 == 5))))
def tmyV2 (xt : TS) : Bool :=
 (if (!(tmyV1 xt)) = true then ((!(xt.lab.2.1 == ([] : Bs))) || ((tmyV1 xt) && (!(plainS xt.lab.2.1)))) else ((tmyV1 xt) && (!(plainS xt.lab.2.1))))
def tmyV3 (xt : TS) : Bool :=
 (if (xt.lab.1 == 2) = true then !((lowerS xt.lab.2.1) == xt.lab.2.1) else ((xt.lab.1 == 5) && (!((lowerS xt.lab.2.1) == xt.lab.2.1))))
def tmyV4 (xt : TS) : Bool :=
 (if (xt.lab.2.2.1 == 0) = true then ((!(xt.lab.2.2.2.1 == ([] : Bs))) || ((xt.lab.2.2.1 != 0) && ((xt.lab.1 != 5) || (!(hbyS ([61, 126, 124, 94, 36, 42] : Bs) xt.lab.2.2.1))))) else ((xt.lab.2.2.1 != 0) && ((xt.lab.1 != 5) || (!(hbyS ([61, 126, 124, 94, 36, 42] : Bs) xt.lab.2.2.1)))))
def tmyV5 (xt : TS) : Bool :=
 (if (!((xt.lab.1 == 8) || (xt.lab.1 == 9))) = true then ((xt.lab.2.2.2.2.1 != 0) || ((xt.lab.2.2.2.2.2 != 0) || ((decide (xt.lab.2.2.2.2.1 < (-1000))) || ((decide (xt.lab.2.2.2.2.1 > 1000)) || ((decide (xt.lab.2.2.2.2.2 < (-1000))) || (decide (xt.lab.2.2.2.2.2 > 1000))))))) else ((decide (xt.lab.2.2.2.2.1 < (-1000))) || ((decide (xt.lab.2.2.2.2.1 > 1000)) || ((decide (xt.lab.2.2.2.2.2 < (-1000))) || (decide (xt.lab.2.2.2.2.2 > 1000))))))
def tmyj56 (N : Nat) (xt : TS) (K : Bool → Prop) : Prop :=
 ((((xt.lab.1 == 10) || (xt.lab.1 == 11))) = true → pmyP N xt.kids ∧ K (ptsS xt.kids)) ∧ ((((xt.lab.1 == 10) || (xt.lab.1 == 11))) = false → K ((xt.kids.length : Int) == 0))
def tmyj48 (N : Nat) (xt : TS) (K : Bool → Prop) : Prop :=
 (((tmyV5 xt)) = true → K false) ∧ (((tmyV5 xt)) = false → (((xt.lab.1 == 10)) = true → tmyj56 N xt K) ∧ (((xt.lab.1 == 10)) = false → tmyj56 N xt K))
def tmyj45 (N : Nat) (xt : TS) (K : Bool → Prop) : Prop :=
 ((!((xt.lab.1 == 8) || (xt.lab.1 == 9))) = true → (((xt.lab.2.2.2.2.1 != 0)) = true → tmyj48 N xt K) ∧ (((xt.lab.2.2.2.2.1 != 0)) = false → (((xt.lab.2.2.2.2.2 != 0)) = true → tmyj48 N xt K) ∧ (((xt.lab.2.2.2.2.2 != 0)) = false → ((decide (xt.lab.2.2.2.2.1 < (-1000))) = true → tmyj48 N xt K) ∧ ((decide (xt.lab.2.2.2.2.1 < (-1000))) = false → ((decide (xt.lab.2.2.2.2.1 > 1000)) = true → tmyj48 N xt K) ∧ ((decide (xt.lab.2.2.2.2.1 > 1000)) = false → ((decide (xt.lab.2.2.2.2.2 < (-1000))) = true → tmyj48 N xt K) ∧ ((decide (xt.lab.2.2.2.2.2 < (-1000))) = false → tmyj48 N xt K)))))) ∧ ((!((xt.lab.1 == 8) || (xt.lab.1 == 9))) = false → ((decide (xt.lab.2.2.2.2.1 < (-1000))) = true → tmyj48 N xt K) ∧ ((decide (xt.lab.2.2.2.2.1 < (-1000))) = false → ((decide (xt.lab.2.2.2.2.1 > 1000)) = true → tmyj48 N xt K) ∧ ((decide (xt.lab.2.2.2.2.1 > 1000)) = false → ((decide (xt.lab.2.2.2.2.2 < (-1000))) = true → tmyj48 N xt K) ∧ ((decide (xt.lab.2.2.2.2.2 < (-1000))) = false → tmyj48 N xt K))))
def tmyj38 (N : Nat) (xt : TS) (K : Bool → Prop) : Prop :=
 (((tmyV4 xt)) = true → K false) ∧ (((tmyV4 xt)) = false → (((xt.lab.1 == 8)) = true → tmyj45 N xt K) ∧ (((xt.lab.1 == 8)) = false → tmyj45 N xt K))
def tmyj30 (N : Nat) (xt : TS) (K : Bool → Prop) : Prop :=
 (((tmyV3 xt)) = true → K false) ∧ (((tmyV3 xt)) = false → (((xt.lab.2.2.1 == 0)) = true → ((!(xt.lab.2.2.2.1 == ([] : Bs))) = true → tmyj38 N xt K) ∧ ((!(xt.lab.2.2.2.1 == ([] : Bs))) = false → (((xt.lab.2.2.1 != 0)) = true → (((xt.lab.1 != 5)) = true → tmyj38 N xt K) ∧ (((xt.lab.1 != 5)) = false → hbyP ([61, 126, 124, 94, 36, 42] : Bs) xt.lab.2.2.1 ∧ tmyj38 N xt K)) ∧ (((xt.lab.2.2.1 != 0)) = false → tmyj38 N xt K))) ∧ (((xt.lab.2.2.1 == 0)) = false → (((xt.lab.2.2.1 != 0)) = true → (((xt.lab.1 != 5)) = true → tmyj38 N xt K) ∧ (((xt.lab.1 != 5)) = false → hbyP ([61, 126, 124, 94, 36, 42] : Bs) xt.lab.2.2.1 ∧ tmyj38 N xt K)) ∧ (((xt.lab.2.2.1 != 0)) = false → tmyj38 N xt K)))
def tmyj22 (N : Nat) (xt : TS) (K : Bool → Prop) : Prop :=
 (((tmyV2 xt)) = true → K false) ∧ (((tmyV2 xt)) = false → (((xt.lab.1 == 2)) = true → lowerP xt.lab.2.1 ∧ tmyj30 N xt K) ∧ (((xt.lab.1 == 2)) = false → (((xt.lab.1 == 5)) = true → lowerP xt.lab.2.1 ∧ tmyj30 N xt K) ∧ (((xt.lab.1 == 5)) = false → tmyj30 N xt K)))
def tmyj19 (N : Nat) (xt : TS) (K : Bool → Prop) : Prop :=
 ((!(tmyV1 xt)) = true → ((!(xt.lab.2.1 == ([] : Bs))) = true → tmyj22 N xt K) ∧ ((!(xt.lab.2.1 == ([] : Bs))) = false → (((tmyV1 xt)) = true → cutP xt.lab.2.1 ∧ tmyj22 N xt K) ∧ (((tmyV1 xt)) = false → tmyj22 N xt K))) ∧ ((!(tmyV1 xt)) = false → (((tmyV1 xt)) = true → cutP xt.lab.2.1 ∧ tmyj22 N xt K) ∧ (((tmyV1 xt)) = false → tmyj22 N xt K))
def tmyj12 (N : Nat) (xt : TS) (xat : Int) (K : Bool → Prop) : Prop :=
 (((tmyV0 xt xat)) = true → K false) ∧ (((tmyV0 xt xat)) = false → (((xt.lab.1 == 2)) = true → tmyj19 N xt K) ∧ (((xt.lab.1 == 2)) = false → (((xt.lab.1 == 3)) = true → tmyj19 N xt K) ∧ (((xt.lab.1 == 3)) = false → (((xt.lab.1 == 4)) = true → tmyj19 N xt K) ∧ (((xt.lab.1 == 4)) = false → tmyj19 N xt K))))
def tmyj4 (N : Nat) (xt : TS) (xat : Int) (K : Bool → Prop) : Prop :=
 ((((decide (xt.lab.1 < 1)) || (decide (xt.lab.1 > 11)))) = true → K false) ∧ ((((decide (xt.lab.1 < 1)) || (decide (xt.lab.1 > 11)))) = false → ((decide (xat > 0)) = true → (((xt.lab.1 == 1)) = true → tmyj12 N xt xat K) ∧ (((xt.lab.1 == 1)) = false → tmyj12 N xt xat K)) ∧ ((decide (xat > 0)) = false → tmyj12 N xt xat K))
def tmyF (N : Nat) (xt : TS) (xat : Int) (K : Bool → Prop) : Prop :=
 ((decide (xt.lab.1 < 1)) = true → tmyj4 N xt xat K) ∧ ((decide (xt.lab.1 < 1)) = false → tmyj4 N xt xat K)
theorem tmy_ok {g : Ghost} (N : Nat) (ih_tmy : tmy_C N) (ih_pmy : pmy_C N) {axt_0 : Option Addr} {cxt_0 : Nat} (xt : TS) (xat : Int) (hRxt_0 : Rep g (.slice yP) [.slice axt_0 xt.kids.length cxt_0] xt.kids) (hG0 : SomeInt g 0) (K : Bool → Prop)
  (hF : tmyF N xt xat K) : CallsH Tryz.prog 30 #[.agg (aL xt.lab axt_0 xt.kids.length cxt_0), iv xat] g [] (fun g' H' v => ∃ (r0 : Bool), v = .bool r0 ∧ H' = [] ∧ K r0) := by
 refine CallsH.enter 156 [(0, .agg (aL xt.lab axt_0 xt.kids.length cxt_0)), (1, iv xat)] Tryz.func30 rfl kr kr kr fun w0 => ?_
 refine Ok.sr ((Ok.op rfl (OpOk.box (v := .agg (aL xt.lab axt_0 xt.kids.length cxt_0)) (cs := (aL xt.lab axt_0 xt.kids.length cxt_0)) rfl kr rfl fun bs2 => ?_)))
 refine Ok.B 1 [(1, iv xat), (2, pv bs2 0)] kr (Ok.nt ((Ok.q (Ok.cut (fun a W => StA 156 [(1, iv xat), (2, pv bs2 0), (14, .bool ((decide (xt.lab.1 < 1)) || (decide (xt.lab.1 > 11))))] a ∧ StW w0 [.blk bs2 (.cells (aL xt.lab axt_0 xt.kids.length cxt_0) 48)] g W ∧ tmyj4 N xt xat K) ?_ ?_))))
 ·
  refine Ok.r (Ok.b 1 [1, 2] [(7, pv bs2 0)] ?_)
  refine Ok.op rfl (OpOk.s (v := iv xt.lab.1) (Yields.l 0 rfl rfl Tryz.underlying3 rfl kr) rfl rfl (Ok.b 2 [1, 2] [(10, .bool (decide (xt.lab.1 < 1)))] ?_))
  refine Ok.a 10 (decide (xt.lab.1 < 1)) rfl (fun D0 => ?_) (fun D0 => ?_)
  ·replace hF := hF.1 D0
   refine Ok.b 4 [1, 2] [(14, .bool true)] ?_
   refine Ok.nt ((Ok.v 14 rfl (show (.bool true : Value) = .bool ((decide (xt.lab.1 < 1)) || (decide (xt.lab.1 > 11))) from congrArg (Value.bool) (mor_t D0)) ?_))
   exact fun a W hA hW => ⟨hA.sub kr, hW, hF⟩
  replace hF := hF.2 D0
  refine Ok.b 1 [1, 2] [(10, .bool false), (11, pv bs2 0)] ?_
  refine Ok.y (j := 3) (d := 10) (want := false) (b := false) rfl kr kr rfl (OpOk.s (v := iv xt.lab.1) (Yields.l 0 rfl rfl Tryz.underlying3 rfl kr) rfl rfl (Ok.b 2 [1, 2] [(14, .bool (decide (xt.lab.1 > 11)))] ?_))
  refine Ok.nt ((Ok.v 14 rfl (show (.bool (decide (xt.lab.1 > 11)) : Value) = .bool ((decide (xt.lab.1 < 1)) || (decide (xt.lab.1 > 11))) from congrArg (Value.bool) (mor_f D0)) ?_))
  exact fun a W hA hW => ⟨hA.sub kr, hW, hF⟩
 clear hF
 rintro a W ⟨hA, hW, hF⟩
 refine (?_ : Ok _ _ _ _ _ _) a W hA hW
 clear hA hW
 refine Ok.cn hF rfl (fun hc2 => ?_) (fun hc2 => ?_)
 ·replace hF := hF.1 hc2
  refine Ok.sr ((Ok.B 1 [(4, .bool false)] kr (Ok.nt ((Ok.ret (Ok.tr ?_))))))
  exact Ok.p (vs := [.bool false]) [] [] dc rfl (.inl rfl) rfl (.cons (.tmp rfl) .nil) (Gext.r w0 g) ⟨false, rfl, rfl, hF⟩
 replace hF := hF.2 hc2
 refine Ok.k (Ok.t (Ok.q (Ok.cut (fun a W => StA 156 [(2, pv bs2 0), (26, .bool (tmyV0 xt xat))] a ∧ StW w0 [.blk bs2 (.cells (aL xt.lab axt_0 xt.kids.length cxt_0) 48)] g W ∧ tmyj12 N xt xat K) ?_ ?_)))
 ·
  refine Ok.r (Ok.b 3 [2] [(17, .bool (decide (xat > 0)))] ?_)
  refine Ok.a 17 (decide (xat > 0)) rfl (fun W0 => ?_) (fun W0 => ?_)
  ·replace hF := hF.1 W0
   refine Ok.b 1 [2] [(17, .bool true), (18, pv bs2 0)] ?_
   refine Ok.y (j := 2) (d := 17) (want := true) (b := true) rfl kr kr rfl (OpOk.s (v := iv xt.lab.1) (Yields.l 0 rfl rfl Tryz.underlying3 rfl kr) rfl rfl (Ok.b 2 [2, 17] [(21, .bool (xt.lab.1 == 1))] ?_))
   refine Ok.a 21 ((xt.lab.1 == 1)) rfl (fun E0 => ?_) (fun E0 => ?_)
   ·replace hF := hF.1 E0
    refine Ok.b 5 [2] [(26, .bool true)] ?_
    refine Ok.nt ((Ok.v 26 rfl (show (.bool true : Value) = .bool (tmyV0 xt xat) from congrArg (Value.bool) ((Eq.trans (mor_t E0) (mand_t W0)))) ?_))
    exact fun a W hA hW => ⟨hA.sub kr, hW, hF⟩
   replace hF := hF.2 E0
   refine Ok.b 1 [2, 17] [(21, .bool false), (22, pv bs2 0)] ?_
   refine Ok.y (j := 6) (d := 21) (want := false) (b := false) rfl kr kr rfl (OpOk.s (v := iv xt.lab.1) (Yields.l 0 rfl rfl Tryz.underlying3 rfl kr) rfl rfl (Ok.b 3 [2] [(26, .bool (xt.lab.1 == 2))] ?_))
   refine Ok.nt ((Ok.v 26 rfl (show (.bool (xt.lab.1 == 2) : Value) = .bool (tmyV0 xt xat) from congrArg (Value.bool) ((Eq.trans (mor_f E0) (mand_t W0)))) ?_))
   exact fun a W hA hW => ⟨hA.sub kr, hW, hF⟩
  replace hF := hF.2 W0
  refine Ok.b 9 [2] [(26, .bool false)] ?_
  refine Ok.nt ((Ok.v 26 rfl (show (.bool false : Value) = .bool (tmyV0 xt xat) from congrArg (Value.bool) (mand_f W0)) ?_))
  exact fun a W hA hW => ⟨hA.sub kr, hW, hF⟩
 clear hF
 rintro a W ⟨hA, hW, hF⟩
 refine (?_ : Ok _ _ _ _ _ _) a W hA hW
 clear hA hW
 refine Ok.cn hF rfl (fun hc3 => ?_) (fun hc3 => ?_)
 ·replace hF := hF.1 hc3
  refine Ok.sr ((Ok.B 1 [(4, .bool false)] kr (Ok.nt ((Ok.ret (Ok.tr ?_))))))
  exact Ok.p (vs := [.bool false]) [] [] dc rfl (.inl rfl) rfl (.cons (.tmp rfl) .nil) (Gext.r w0 g) ⟨false, rfl, rfl, hF⟩
 replace hF := hF.2 hc3
 refine Ok.k (Ok.t (Ok.cut (fun a W => StA 156 [(2, pv bs2 0), (5, .bool (tmyV1 xt))] a ∧ StW w0 [.blk bs2 (.cells (aL xt.lab axt_0 xt.kids.length cxt_0) 48)] g W ∧ tmyj19 N xt K) ?_ ?_))
 ·
  refine Ok.r (Ok.b 1 [2] [(27, pv bs2 0)] ?_)
  refine Ok.op rfl (OpOk.s (v := iv xt.lab.1) (Yields.l 0 rfl rfl Tryz.underlying3 rfl kr) rfl rfl (Ok.b 2 [2] [(30, .bool (xt.lab.1 == 2))] ?_))
  refine Ok.a 30 ((xt.lab.1 == 2)) rfl (fun Z0 => ?_) (fun Z0 => ?_)
  ·replace hF := hF.1 Z0
   refine Ok.b 15 [2] [(5, .bool true)] ?_
   refine Ok.nt ((Ok.v 5 rfl (show (.bool true : Value) = .bool (tmyV1 xt) from congrArg (Value.bool) (mor_t Z0)) ?_))
   exact fun a W hA hW => ⟨hA.sub kr, hW, hF⟩
  replace hF := hF.2 Z0
  refine Ok.b 1 [2] [(30, .bool false), (31, pv bs2 0)] ?_
  refine Ok.y (j := 3) (d := 30) (want := false) (b := false) rfl kr kr rfl (OpOk.s (v := iv xt.lab.1) (Yields.l 0 rfl rfl Tryz.underlying3 rfl kr) rfl rfl (Ok.b 3 [2] [(35, .bool (xt.lab.1 == 3))] ?_))
  refine Ok.a 35 ((xt.lab.1 == 3)) rfl (fun X0 => ?_) (fun X0 => ?_)
  ·replace hF := hF.1 X0
   refine Ok.b 10 [2] [(5, .bool true)] ?_
   refine Ok.nt ((Ok.v 5 rfl (show (.bool true : Value) = .bool (tmyV1 xt) from congrArg (Value.bool) ((Eq.trans (mor_t X0) (mor_f Z0)))) ?_))
   exact fun a W hA hW => ⟨hA.sub kr, hW, hF⟩
  replace hF := hF.2 X0
  refine Ok.b 1 [2] [(35, .bool false), (36, pv bs2 0)] ?_
  refine Ok.y (j := 8) (d := 35) (want := false) (b := false) rfl kr kr rfl (OpOk.s (v := iv xt.lab.1) (Yields.l 0 rfl rfl Tryz.underlying3 rfl kr) rfl rfl (Ok.b 3 [2] [(40, .bool (xt.lab.1 == 4))] ?_))
  refine Ok.a 40 ((xt.lab.1 == 4)) rfl (fun F0 => ?_) (fun F0 => ?_)
  ·replace hF := hF.1 F0
   refine Ok.b 5 [2] [(5, .bool true)] ?_
   refine Ok.nt ((Ok.v 5 rfl (show (.bool true : Value) = .bool (tmyV1 xt) from congrArg (Value.bool) ((Eq.trans ((Eq.trans (mor_t F0) (mor_f X0))) (mor_f Z0)))) ?_))
   exact fun a W hA hW => ⟨hA.sub kr, hW, hF⟩
  replace hF := hF.2 F0
  refine Ok.b 1 [2] [(40, .bool false), (41, pv bs2 0)] ?_
  refine Ok.y (j := 13) (d := 40) (want := false) (b := false) rfl kr kr rfl (OpOk.s (v := iv xt.lab.1) (Yields.l 0 rfl rfl Tryz.underlying3 rfl kr) rfl rfl (Ok.b 3 [2] [(5, .bool (xt.lab.1 == 5))] ?_))
  refine Ok.nt ((Ok.v 5 rfl (show (.bool (xt.lab.1 == 5) : Value) = .bool (tmyV1 xt) from congrArg (Value.bool) ((Eq.trans ((Eq.trans (mor_f F0) (mor_f X0))) (mor_f Z0)))) ?_))
  exact fun a W hA hW => ⟨hA.sub kr, hW, hF⟩
 clear hF
 rintro a W ⟨hA, hW, hF⟩
 refine (?_ : Ok _ _ _ _ _ _) a W hA hW
 clear hA hW
 refine Ok.q (Ok.cut (fun a W => StA 156 [(2, pv bs2 0), (60, .bool (tmyV2 xt))] a ∧ StW w0 [.blk bs2 (.cells (aL xt.lab axt_0 xt.kids.length cxt_0) 48)] g W ∧ tmyj22 N xt K) ?_ ?_)
 ·
  refine Ok.r (Ok.b 3 [2, 5] [(47, .bool (!(tmyV1 xt)))] ?_)
  refine Ok.a 47 (!(tmyV1 xt)) rfl (fun p0 => ?_) (fun p0 => ?_)
  ·replace hF := hF.1 p0
   refine Ok.b 1 [2, 5] [(47, .bool true), (48, pv bs2 1)] ?_
   refine Ok.y (j := 2) (d := 47) (want := true) (b := true) rfl kr kr rfl (OpOk.s (v := sv xt.lab.2.1) (Yields.l 0 rfl rfl Tryz.underlying9 rfl kr) rfl rfl (Ok.y (j := 2) (d := 47) (want := true) (b := true) rfl kr kr rfl (OpOk.s (v := .bool (!(xt.lab.2.1 == ([] : Bs)))) (Yields.sc (f := .neq) (a := xt.lab.2.1) (b := ([] : Bs)) kr kr rfl) rfl rfl (Ok.b 2 [2, 5] [(52, .bool (!(xt.lab.2.1 == ([] : Bs))))] ?_))))
   refine Ok.a 52 (!(xt.lab.2.1 == ([] : Bs))) rfl (fun S0 => ?_) (fun S0 => ?_)
   ·replace hF := hF.1 S0
    refine Ok.b 8 [2] [(60, .bool true)] ?_
    refine Ok.nt ((Ok.v 60 rfl (show (.bool true : Value) = .bool (tmyV2 xt) from congrArg (Value.bool) ((Eq.trans (mor_t S0) ((if_t p0).symm)))) ?_))
    exact fun a W hA hW => ⟨hA.sub kr, hW, hF⟩
   replace hF := hF.2 S0
   refine Ok.b 2 [2] [(52, .bool false), (54, .bool (tmyV1 xt))] ?_
   refine Ok.a 54 ((tmyV1 xt)) rfl (fun G0 => ?_) (fun G0 => ?_)
   ·replace hF := hF.1 G0
    refine Ok.b 1 [2, 52] [(54, .bool true), (55, pv bs2 1)] ?_
    refine Ok.y (j := 9) (d := 54) (want := true) (b := true) rfl kr kr rfl (OpOk.s (v := sv xt.lab.2.1) (Yields.l 0 rfl rfl Tryz.underlying9 rfl kr) rfl rfl ?_)
    obtain ⟨hp36, hF⟩ := hF
    refine Ok.y (j := 9) (d := 54) (want := true) (b := true) rfl kr kr rfl (OpOk.f enr (fun W hW => rpn_c xt.lab.2.1 hp36) rfl ?_)
    refine Ok.b 3 [2] [(60, .bool (!(plainS xt.lab.2.1)))] ?_
    refine Ok.nt ((Ok.v 60 rfl (show (.bool (!(plainS xt.lab.2.1)) : Value) = .bool (tmyV2 xt) from congrArg (Value.bool) ((Eq.trans ((Eq.trans (mand_t G0) (mor_f S0))) ((if_t p0).symm)))) ?_))
    exact fun a W hA hW => ⟨hA.sub kr, hW, hF⟩
   replace hF := hF.2 G0
   refine Ok.b 6 [2] [(60, .bool false)] ?_
   refine Ok.nt ((Ok.v 60 rfl (show (.bool false : Value) = .bool (tmyV2 xt) from congrArg (Value.bool) ((Eq.trans ((Eq.trans (mand_f G0) (mor_f S0))) ((if_t p0).symm)))) ?_))
   exact fun a W hA hW => ⟨hA.sub kr, hW, hF⟩
  replace hF := hF.2 p0
  refine Ok.b 7 [2] [(52, .bool false), (54, .bool (tmyV1 xt))] ?_
  refine Ok.a 54 ((tmyV1 xt)) rfl (fun H0 => ?_) (fun H0 => ?_)
  ·replace hF := hF.1 H0
   refine Ok.b 1 [2, 52] [(54, .bool true), (55, pv bs2 1)] ?_
   refine Ok.y (j := 9) (d := 54) (want := true) (b := true) rfl kr kr rfl (OpOk.s (v := sv xt.lab.2.1) (Yields.l 0 rfl rfl Tryz.underlying9 rfl kr) rfl rfl ?_)
   obtain ⟨hp38, hF⟩ := hF
   refine Ok.y (j := 9) (d := 54) (want := true) (b := true) rfl kr kr rfl (OpOk.f enr (fun W hW => rpn_c xt.lab.2.1 hp38) rfl ?_)
   refine Ok.b 3 [2] [(60, .bool (!(plainS xt.lab.2.1)))] ?_
   refine Ok.nt ((Ok.v 60 rfl (show (.bool (!(plainS xt.lab.2.1)) : Value) = .bool (tmyV2 xt) from congrArg (Value.bool) ((Eq.trans (mand_t H0) ((if_f p0).symm)))) ?_))
   exact fun a W hA hW => ⟨hA.sub kr, hW, hF⟩
  replace hF := hF.2 H0
  refine Ok.b 6 [2] [(60, .bool false)] ?_
  refine Ok.nt ((Ok.v 60 rfl (show (.bool false : Value) = .bool (tmyV2 xt) from congrArg (Value.bool) ((Eq.trans (mand_f H0) ((if_f p0).symm)))) ?_))
  exact fun a W hA hW => ⟨hA.sub kr, hW, hF⟩
 clear hF
 rintro a W ⟨hA, hW, hF⟩
 refine (?_ : Ok _ _ _ _ _ _) a W hA hW
 clear hA hW
 refine Ok.cn hF rfl (fun hc4 => ?_) (fun hc4 => ?_)
 ·replace hF := hF.1 hc4
  refine Ok.sr ((Ok.B 1 [(4, .bool false)] kr (Ok.nt ((Ok.ret (Ok.tr ?_))))))
  exact Ok.p (vs := [.bool false]) [] [] dc rfl (.inl rfl) rfl (.cons (.tmp rfl) .nil) (Gext.r w0 g) ⟨false, rfl, rfl, hF⟩
 replace hF := hF.2 hc4
 refine Ok.k (Ok.t (Ok.q (Ok.cut (fun a W => StA 156 [(2, pv bs2 0), (76, .bool (tmyV3 xt))] a ∧ StW w0 [.blk bs2 (.cells (aL xt.lab axt_0 xt.kids.length cxt_0) 48)] g W ∧ tmyj30 N xt K) ?_ ?_)))
 ·
  refine Ok.quiet' kr kr (OkQ.b 1 [2] [(61, pv bs2 0)] ?_)
  refine OkQ.op rfl (OpQ.s (v := iv xt.lab.1) (Yields.l 0 rfl rfl Tryz.underlying3 rfl kr) rfl rfl (OkQ.b 2 [2] [(64, .bool (xt.lab.1 == 2))] ?_))
  refine OkQ.boolAt 64 ((xt.lab.1 == 2)) rfl (fun B0 => ?_) (fun B0 => ?_)
  ·replace hF := hF.1 B0
   refine OkQ.b 6 [2] [(69, .bool true), (70, pv bs2 1)] ?_
   refine OkQ.y (j := 8) (d := 69) (want := true) (b := true) rfl kr kr rfl (OpQ.s (v := sv xt.lab.2.1) (Yields.l 0 rfl rfl Tryz.underlying9 rfl kr) rfl rfl ?_)
   obtain ⟨hp30, hF⟩ := hF
   refine OkQ.y (j := 8) (d := 69) (want := true) (b := true) rfl kr kr rfl (OpQ.f enr (fun W hW => rlow_c xt.lab.2.1 hp30) rfl ?_)
   refine OkQ.b 1 [2, 69] [(72, sv (lowerS xt.lab.2.1)), (73, pv bs2 1)] ?_
   refine OkQ.y (j := 8) (d := 69) (want := true) (b := true) rfl kr kr rfl (OpQ.s (v := sv xt.lab.2.1) (Yields.l 0 rfl rfl Tryz.underlying9 rfl kr) rfl rfl (OkQ.y (j := 8) (d := 69) (want := true) (b := true) rfl kr kr rfl (OpQ.s (v := .bool (!((lowerS xt.lab.2.1) == xt.lab.2.1))) (Yields.sc (f := .neq) (a := (lowerS xt.lab.2.1)) (b := xt.lab.2.1) kr kr rfl) rfl rfl (OkQ.b 1 [2] [(76, .bool (!((lowerS xt.lab.2.1) == xt.lab.2.1)))] ?_))))
   refine OkQ.j (Ok.t (Ok.v 76 rfl (show (.bool (!((lowerS xt.lab.2.1) == xt.lab.2.1)) : Value) = .bool (tmyV3 xt) from congrArg (Value.bool) ((if_t B0).symm)) ?_))
   exact fun a W hA hW => ⟨hA.sub kr, hW, hF⟩
  replace hF := hF.2 B0
  refine OkQ.b 1 [2] [(64, .bool false), (65, pv bs2 0)] ?_
  refine OkQ.y (j := 3) (d := 64) (want := false) (b := false) rfl kr kr rfl (OpQ.s (v := iv xt.lab.1) (Yields.l 0 rfl rfl Tryz.underlying3 rfl kr) rfl rfl (OkQ.b 3 [2] [(69, .bool (xt.lab.1 == 5))] ?_))
  refine OkQ.boolAt 69 ((xt.lab.1 == 5)) rfl (fun M0 => ?_) (fun M0 => ?_)
  ·replace hF := hF.1 M0
   refine OkQ.b 1 [2] [(69, .bool true), (70, pv bs2 1)] ?_
   refine OkQ.y (j := 8) (d := 69) (want := true) (b := true) rfl kr kr rfl (OpQ.s (v := sv xt.lab.2.1) (Yields.l 0 rfl rfl Tryz.underlying9 rfl kr) rfl rfl ?_)
   obtain ⟨hp32, hF⟩ := hF
   refine OkQ.y (j := 8) (d := 69) (want := true) (b := true) rfl kr kr rfl (OpQ.f enr (fun W hW => rlow_c xt.lab.2.1 hp32) rfl ?_)
   refine OkQ.b 1 [2, 69] [(72, sv (lowerS xt.lab.2.1)), (73, pv bs2 1)] ?_
   refine OkQ.y (j := 8) (d := 69) (want := true) (b := true) rfl kr kr rfl (OpQ.s (v := sv xt.lab.2.1) (Yields.l 0 rfl rfl Tryz.underlying9 rfl kr) rfl rfl (OkQ.y (j := 8) (d := 69) (want := true) (b := true) rfl kr kr rfl (OpQ.s (v := .bool (!((lowerS xt.lab.2.1) == xt.lab.2.1))) (Yields.sc (f := .neq) (a := (lowerS xt.lab.2.1)) (b := xt.lab.2.1) kr kr rfl) rfl rfl (OkQ.b 1 [2] [(76, .bool (!((lowerS xt.lab.2.1) == xt.lab.2.1)))] ?_))))
   refine OkQ.j (Ok.t (Ok.v 76 rfl (show (.bool (!((lowerS xt.lab.2.1) == xt.lab.2.1)) : Value) = .bool (tmyV3 xt) from congrArg (Value.bool) ((Eq.trans (mand_t M0) ((if_f B0).symm)))) ?_))
   exact fun a W hA hW => ⟨hA.sub kr, hW, hF⟩
  replace hF := hF.2 M0
  refine OkQ.b 7 [2] [(76, .bool false)] ?_
  refine OkQ.j (Ok.t (Ok.v 76 rfl (show (.bool false : Value) = .bool (tmyV3 xt) from congrArg (Value.bool) ((Eq.trans (mand_f M0) ((if_f B0).symm)))) ?_))
  exact fun a W hA hW => ⟨hA.sub kr, hW, hF⟩
 clear hF
 rintro a W ⟨hA, hW, hF⟩
 refine (?_ : Ok _ _ _ _ _ _) a W hA hW
 clear hA hW
 refine Ok.cn hF rfl (fun hc5 => ?_) (fun hc5 => ?_)
 ·replace hF := hF.1 hc5
  refine Ok.sr ((Ok.B 1 [(4, .bool false)] kr (Ok.nt ((Ok.ret (Ok.tr ?_))))))
  exact Ok.p (vs := [.bool false]) [] [] dc rfl (.inl rfl) rfl (.cons (.tmp rfl) .nil) (Gext.r w0 g) ⟨false, rfl, rfl, hF⟩
 replace hF := hF.2 hc5
 refine Ok.k (Ok.t (Ok.q (Ok.cut (fun a W => StA 156 [(2, pv bs2 0), (100, .bool (tmyV4 xt))] a ∧ StW w0 [.blk bs2 (.cells (aL xt.lab axt_0 xt.kids.length cxt_0) 48)] g W ∧ tmyj38 N xt K) ?_ ?_)))
 ·
  refine Ok.r (Ok.b 1 [2] [(77, pv bs2 2)] ?_)
  refine Ok.op rfl (OpOk.s (v := .int .u8 xt.lab.2.2.1) (Yields.l 0 rfl rfl Tryz.underlying5 rfl kr) rfl rfl (Ok.b 2 [2] [(80, .bool (xt.lab.2.2.1 == 0))] ?_))
  refine Ok.a 80 ((xt.lab.2.2.1 == 0)) rfl (fun d0 => ?_) (fun d0 => ?_)
  ·replace hF := hF.1 d0
   refine Ok.b 1 [2] [(80, .bool true), (81, pv bs2 3)] ?_
   refine Ok.y (j := 3) (d := 80) (want := true) (b := true) rfl kr kr rfl (OpOk.s (v := sv xt.lab.2.2.2.1) (Yields.l 0 rfl rfl Tryz.underlying9 rfl kr) rfl rfl (Ok.y (j := 3) (d := 80) (want := true) (b := true) rfl kr kr rfl (OpOk.s (v := .bool (!(xt.lab.2.2.2.1 == ([] : Bs)))) (Yields.sc (f := .neq) (a := xt.lab.2.2.2.1) (b := ([] : Bs)) kr kr rfl) rfl rfl (Ok.b 2 [2] [(85, .bool (!(xt.lab.2.2.2.1 == ([] : Bs))))] ?_))))
   refine Ok.a 85 (!(xt.lab.2.2.2.1 == ([] : Bs))) rfl (fun V0 => ?_) (fun V0 => ?_)
   ·replace hF := hF.1 V0
    refine Ok.b 15 [2] [(100, .bool true)] ?_
    refine Ok.nt ((Ok.v 100 rfl (show (.bool true : Value) = .bool (tmyV4 xt) from congrArg (Value.bool) ((Eq.trans (mor_t V0) ((if_t d0).symm)))) ?_))
    exact fun a W hA hW => ⟨hA.sub kr, hW, hF⟩
   replace hF := hF.2 V0
   refine Ok.b 1 [2] [(85, .bool false), (86, pv bs2 2)] ?_
   refine Ok.y (j := 8) (d := 85) (want := false) (b := false) rfl kr kr rfl (OpOk.s (v := .int .u8 xt.lab.2.2.1) (Yields.l 0 rfl rfl Tryz.underlying5 rfl kr) rfl rfl (Ok.b 2 [2, 85] [(89, .bool (xt.lab.2.2.1 != 0))] ?_))
   refine Ok.a 89 ((xt.lab.2.2.1 != 0)) rfl (fun b0 => ?_) (fun b0 => ?_)
   ·replace hF := hF.1 b0
    refine Ok.b 1 [2, 85] [(89, .bool true), (90, pv bs2 0)] ?_
    refine Ok.y (j := 12) (d := 89) (want := true) (b := true) rfl kr kr rfl (OpOk.s (v := iv xt.lab.1) (Yields.l 0 rfl rfl Tryz.underlying3 rfl kr) rfl rfl (Ok.b 2 [2, 85, 89] [(93, .bool (xt.lab.1 != 5))] ?_))
    refine Ok.a 93 ((xt.lab.1 != 5)) rfl (fun N0 => ?_) (fun N0 => ?_)
    ·replace hF := hF.1 N0
     refine Ok.b 7 [2] [(100, .bool true)] ?_
     refine Ok.nt ((Ok.v 100 rfl (show (.bool true : Value) = .bool (tmyV4 xt) from congrArg (Value.bool) ((Eq.trans ((Eq.trans ((Eq.trans (mor_t N0) (mand_t b0))) (mor_f V0))) ((if_t d0).symm)))) ?_))
     exact fun a W hA hW => ⟨hA.sub kr, hW, hF⟩
    replace hF := hF.2 N0
    refine Ok.b 1 [2, 85, 89] [(93, .bool false), (94, pv bs2 2)] ?_
    refine Ok.y (j := 16) (d := 93) (want := false) (b := false) rfl kr kr rfl (OpOk.s (v := .int .u8 xt.lab.2.2.1) (Yields.l 0 rfl rfl Tryz.underlying5 rfl kr) rfl rfl ?_)
    obtain ⟨hp25, hF⟩ := hF
    refine Ok.y (j := 16) (d := 93) (want := false) (b := false) rfl kr kr rfl (OpOk.f enr (fun W hW => hby_c ([61, 126, 124, 94, 36, 42] : Bs) xt.lab.2.2.1 hp25) rfl ?_)
    refine Ok.b 4 [2] [(100, .bool (!(hbyS ([61, 126, 124, 94, 36, 42] : Bs) xt.lab.2.2.1)))] ?_
    refine Ok.nt ((Ok.v 100 rfl (show (.bool (!(hbyS ([61, 126, 124, 94, 36, 42] : Bs) xt.lab.2.2.1)) : Value) = .bool (tmyV4 xt) from congrArg (Value.bool) ((Eq.trans ((Eq.trans ((Eq.trans (mor_f N0) (mand_t b0))) (mor_f V0))) ((if_t d0).symm)))) ?_))
    exact fun a W hA hW => ⟨hA.sub kr, hW, hF⟩
   replace hF := hF.2 b0
   refine Ok.b 11 [2] [(100, .bool false)] ?_
   refine Ok.nt ((Ok.v 100 rfl (show (.bool false : Value) = .bool (tmyV4 xt) from congrArg (Value.bool) ((Eq.trans ((Eq.trans (mand_f b0) (mor_f V0))) ((if_t d0).symm)))) ?_))
   exact fun a W hA hW => ⟨hA.sub kr, hW, hF⟩
  replace hF := hF.2 d0
  refine Ok.b 6 [2] [(85, .bool false), (86, pv bs2 2)] ?_
  refine Ok.y (j := 8) (d := 85) (want := false) (b := false) rfl kr kr rfl (OpOk.s (v := .int .u8 xt.lab.2.2.1) (Yields.l 0 rfl rfl Tryz.underlying5 rfl kr) rfl rfl (Ok.b 2 [2, 85] [(89, .bool (xt.lab.2.2.1 != 0))] ?_))
  refine Ok.a 89 ((xt.lab.2.2.1 != 0)) rfl (fun C0 => ?_) (fun C0 => ?_)
  ·replace hF := hF.1 C0
   refine Ok.b 1 [2, 85] [(89, .bool true), (90, pv bs2 0)] ?_
   refine Ok.y (j := 12) (d := 89) (want := true) (b := true) rfl kr kr rfl (OpOk.s (v := iv xt.lab.1) (Yields.l 0 rfl rfl Tryz.underlying3 rfl kr) rfl rfl (Ok.b 2 [2, 85, 89] [(93, .bool (xt.lab.1 != 5))] ?_))
   refine Ok.a 93 ((xt.lab.1 != 5)) rfl (fun O0 => ?_) (fun O0 => ?_)
   ·replace hF := hF.1 O0
    refine Ok.b 7 [2] [(100, .bool true)] ?_
    refine Ok.nt ((Ok.v 100 rfl (show (.bool true : Value) = .bool (tmyV4 xt) from congrArg (Value.bool) ((Eq.trans ((Eq.trans (mor_t O0) (mand_t C0))) ((if_f d0).symm)))) ?_))
    exact fun a W hA hW => ⟨hA.sub kr, hW, hF⟩
   replace hF := hF.2 O0
   refine Ok.b 1 [2, 85, 89] [(93, .bool false), (94, pv bs2 2)] ?_
   refine Ok.y (j := 16) (d := 93) (want := false) (b := false) rfl kr kr rfl (OpOk.s (v := .int .u8 xt.lab.2.2.1) (Yields.l 0 rfl rfl Tryz.underlying5 rfl kr) rfl rfl ?_)
   obtain ⟨hp28, hF⟩ := hF
   refine Ok.y (j := 16) (d := 93) (want := false) (b := false) rfl kr kr rfl (OpOk.f enr (fun W hW => hby_c ([61, 126, 124, 94, 36, 42] : Bs) xt.lab.2.2.1 hp28) rfl ?_)
   refine Ok.b 4 [2] [(100, .bool (!(hbyS ([61, 126, 124, 94, 36, 42] : Bs) xt.lab.2.2.1)))] ?_
   refine Ok.nt ((Ok.v 100 rfl (show (.bool (!(hbyS ([61, 126, 124, 94, 36, 42] : Bs) xt.lab.2.2.1)) : Value) = .bool (tmyV4 xt) from congrArg (Value.bool) ((Eq.trans ((Eq.trans (mor_f O0) (mand_t C0))) ((if_f d0).symm)))) ?_))
   exact fun a W hA hW => ⟨hA.sub kr, hW, hF⟩
  replace hF := hF.2 C0
  refine Ok.b 11 [2] [(100, .bool false)] ?_
  refine Ok.nt ((Ok.v 100 rfl (show (.bool false : Value) = .bool (tmyV4 xt) from congrArg (Value.bool) ((Eq.trans (mand_f C0) ((if_f d0).symm)))) ?_))
  exact fun a W hA hW => ⟨hA.sub kr, hW, hF⟩
 clear hF
 rintro a W ⟨hA, hW, hF⟩
 refine (?_ : Ok _ _ _ _ _ _) a W hA hW
 clear hA hW
 refine Ok.cn hF rfl (fun hc6 => ?_) (fun hc6 => ?_)
 ·replace hF := hF.1 hc6
  refine Ok.sr ((Ok.B 1 [(4, .bool false)] kr (Ok.nt ((Ok.ret (Ok.tr ?_))))))
  exact Ok.p (vs := [.bool false]) [] [] dc rfl (.inl rfl) rfl (.cons (.tmp rfl) .nil) (Gext.r w0 g) ⟨false, rfl, rfl, hF⟩
 replace hF := hF.2 hc6
 refine Ok.k (Ok.t (Ok.cut (fun a W => StA 156 [(2, pv bs2 0), (6, .bool ((xt.lab.1 == 8) || (xt.lab.1 == 9)))] a ∧ StW w0 [.blk bs2 (.cells (aL xt.lab axt_0 xt.kids.length cxt_0) 48)] g W ∧ tmyj45 N xt K) ?_ ?_))
 ·
  refine Ok.r (Ok.b 1 [2] [(101, pv bs2 0)] ?_)
  refine Ok.op rfl (OpOk.s (v := iv xt.lab.1) (Yields.l 0 rfl rfl Tryz.underlying3 rfl kr) rfl rfl (Ok.b 2 [2] [(104, .bool (xt.lab.1 == 8))] ?_))
  refine Ok.a 104 ((xt.lab.1 == 8)) rfl (fun P0 => ?_) (fun P0 => ?_)
  ·replace hF := hF.1 P0
   refine Ok.b 5 [2] [(6, .bool true)] ?_
   refine Ok.nt ((Ok.v 6 rfl (show (.bool true : Value) = .bool ((xt.lab.1 == 8) || (xt.lab.1 == 9)) from congrArg (Value.bool) (mor_t P0)) ?_))
   exact fun a W hA hW => ⟨hA.sub kr, hW, hF⟩
  replace hF := hF.2 P0
  refine Ok.b 1 [2] [(104, .bool false), (105, pv bs2 0)] ?_
  refine Ok.y (j := 3) (d := 104) (want := false) (b := false) rfl kr kr rfl (OpOk.s (v := iv xt.lab.1) (Yields.l 0 rfl rfl Tryz.underlying3 rfl kr) rfl rfl (Ok.b 3 [2] [(6, .bool (xt.lab.1 == 9))] ?_))
  refine Ok.nt ((Ok.v 6 rfl (show (.bool (xt.lab.1 == 9) : Value) = .bool ((xt.lab.1 == 8) || (xt.lab.1 == 9)) from congrArg (Value.bool) (mor_f P0)) ?_))
  exact fun a W hA hW => ⟨hA.sub kr, hW, hF⟩
 clear hF
 rintro a W ⟨hA, hW, hF⟩
 refine (?_ : Ok _ _ _ _ _ _) a W hA hW
 clear hA hW
 refine Ok.q (Ok.cut (fun a W => StA 156 [(2, pv bs2 0), (140, .bool (tmyV5 xt))] a ∧ StW w0 [.blk bs2 (.cells (aL xt.lab axt_0 xt.kids.length cxt_0) 48)] g W ∧ tmyj48 N xt K) ?_ ?_)
 ·
  refine Ok.r (Ok.b 3 [2] [(111, .bool (!((xt.lab.1 == 8) || (xt.lab.1 == 9))))] ?_)
  refine Ok.a 111 (!((xt.lab.1 == 8) || (xt.lab.1 == 9))) rfl (fun x0 => ?_) (fun x0 => ?_)
  ·replace hF := hF.1 x0
   refine Ok.b 1 [2] [(111, .bool true), (112, pv bs2 4)] ?_
   refine Ok.y (j := 2) (d := 111) (want := true) (b := true) rfl kr kr rfl (OpOk.s (v := iv xt.lab.2.2.2.2.1) (Yields.l 0 rfl rfl Tryz.underlying3 rfl kr) rfl rfl (Ok.b 2 [2, 111] [(115, .bool (xt.lab.2.2.2.2.1 != 0))] ?_))
   refine Ok.a 115 ((xt.lab.2.2.2.2.1 != 0)) rfl (fun n0 => ?_) (fun n0 => ?_)
   ·replace hF := hF.1 n0
    refine Ok.b 25 [2] [(140, .bool true)] ?_
    refine Ok.nt ((Ok.v 140 rfl (show (.bool true : Value) = .bool (tmyV5 xt) from congrArg (Value.bool) ((Eq.trans (mor_t n0) ((if_t x0).symm)))) ?_))
    exact fun a W hA hW => ⟨hA.sub kr, hW, hF⟩
   replace hF := hF.2 n0
   refine Ok.b 1 [2, 111] [(115, .bool false), (116, pv bs2 5)] ?_
   refine Ok.y (j := 6) (d := 115) (want := false) (b := false) rfl kr kr rfl (OpOk.s (v := iv xt.lab.2.2.2.2.2) (Yields.l 0 rfl rfl Tryz.underlying3 rfl kr) rfl rfl (Ok.b 4 [2] [(121, .bool (xt.lab.2.2.2.2.2 != 0))] ?_))
   refine Ok.a 121 ((xt.lab.2.2.2.2.2 != 0)) rfl (fun t0 => ?_) (fun t0 => ?_)
   ·replace hF := hF.1 t0
    refine Ok.b 19 [2] [(140, .bool true)] ?_
    refine Ok.nt ((Ok.v 140 rfl (show (.bool true : Value) = .bool (tmyV5 xt) from congrArg (Value.bool) ((Eq.trans ((Eq.trans (mor_t t0) (mor_f n0))) ((if_t x0).symm)))) ?_))
    exact fun a W hA hW => ⟨hA.sub kr, hW, hF⟩
   replace hF := hF.2 t0
   refine Ok.b 1 [2] [(121, .bool false), (122, pv bs2 4)] ?_
   refine Ok.y (j := 12) (d := 121) (want := false) (b := false) rfl kr kr rfl (OpOk.s (v := iv xt.lab.2.2.2.2.1) (Yields.l 0 rfl rfl Tryz.underlying3 rfl kr) rfl rfl (Ok.b 3 [2] [(126, .bool (decide (xt.lab.2.2.2.2.1 < (-1000))))] ?_))
   refine Ok.a 126 (decide (xt.lab.2.2.2.2.1 < (-1000))) rfl (fun Q0 => ?_) (fun Q0 => ?_)
   ·replace hF := hF.1 Q0
    refine Ok.b 14 [2] [(140, .bool true)] ?_
    refine Ok.nt ((Ok.v 140 rfl (show (.bool true : Value) = .bool (tmyV5 xt) from congrArg (Value.bool) ((Eq.trans ((Eq.trans ((Eq.trans (mor_t Q0) (mor_f t0))) (mor_f n0))) ((if_t x0).symm)))) ?_))
    exact fun a W hA hW => ⟨hA.sub kr, hW, hF⟩
   replace hF := hF.2 Q0
   refine Ok.b 1 [2] [(126, .bool false), (127, pv bs2 4)] ?_
   refine Ok.y (j := 17) (d := 126) (want := false) (b := false) rfl kr kr rfl (OpOk.s (v := iv xt.lab.2.2.2.2.1) (Yields.l 0 rfl rfl Tryz.underlying3 rfl kr) rfl rfl (Ok.b 3 [2] [(131, .bool (decide (xt.lab.2.2.2.2.1 > 1000)))] ?_))
   refine Ok.a 131 (decide (xt.lab.2.2.2.2.1 > 1000)) rfl (fun f0 => ?_) (fun f0 => ?_)
   ·replace hF := hF.1 f0
    refine Ok.b 9 [2] [(140, .bool true)] ?_
    refine Ok.nt ((Ok.v 140 rfl (show (.bool true : Value) = .bool (tmyV5 xt) from congrArg (Value.bool) ((Eq.trans ((Eq.trans ((Eq.trans ((Eq.trans (mor_t f0) (mor_f Q0))) (mor_f t0))) (mor_f n0))) ((if_t x0).symm)))) ?_))
    exact fun a W hA hW => ⟨hA.sub kr, hW, hF⟩
   replace hF := hF.2 f0
   refine Ok.b 1 [2] [(131, .bool false), (132, pv bs2 5)] ?_
   refine Ok.y (j := 22) (d := 131) (want := false) (b := false) rfl kr kr rfl (OpOk.s (v := iv xt.lab.2.2.2.2.2) (Yields.l 0 rfl rfl Tryz.underlying3 rfl kr) rfl rfl (Ok.b 3 [2] [(136, .bool (decide (xt.lab.2.2.2.2.2 < (-1000))))] ?_))
   refine Ok.a 136 (decide (xt.lab.2.2.2.2.2 < (-1000))) rfl (fun T0 => ?_) (fun T0 => ?_)
   ·replace hF := hF.1 T0
    refine Ok.b 4 [2] [(140, .bool true)] ?_
    refine Ok.nt ((Ok.v 140 rfl (show (.bool true : Value) = .bool (tmyV5 xt) from congrArg (Value.bool) ((Eq.trans ((Eq.trans ((Eq.trans ((Eq.trans ((Eq.trans (mor_t T0) (mor_f f0))) (mor_f Q0))) (mor_f t0))) (mor_f n0))) ((if_t x0).symm)))) ?_))
    exact fun a W hA hW => ⟨hA.sub kr, hW, hF⟩
   replace hF := hF.2 T0
   refine Ok.b 1 [2] [(136, .bool false), (137, pv bs2 5)] ?_
   refine Ok.y (j := 27) (d := 136) (want := false) (b := false) rfl kr kr rfl (OpOk.s (v := iv xt.lab.2.2.2.2.2) (Yields.l 0 rfl rfl Tryz.underlying3 rfl kr) rfl rfl (Ok.b 2 [2] [(140, .bool (decide (xt.lab.2.2.2.2.2 > 1000)))] ?_))
   refine Ok.nt ((Ok.v 140 rfl (show (.bool (decide (xt.lab.2.2.2.2.2 > 1000)) : Value) = .bool (tmyV5 xt) from congrArg (Value.bool) ((Eq.trans ((Eq.trans ((Eq.trans ((Eq.trans ((Eq.trans (mor_f T0) (mor_f f0))) (mor_f Q0))) (mor_f t0))) (mor_f n0))) ((if_t x0).symm)))) ?_))
   exact fun a W hA hW => ⟨hA.sub kr, hW, hF⟩
  replace hF := hF.2 x0
  refine Ok.b 11 [2] [(121, .bool false), (122, pv bs2 4)] ?_
  refine Ok.y (j := 12) (d := 121) (want := false) (b := false) rfl kr kr rfl (OpOk.s (v := iv xt.lab.2.2.2.2.1) (Yields.l 0 rfl rfl Tryz.underlying3 rfl kr) rfl rfl (Ok.b 3 [2] [(126, .bool (decide (xt.lab.2.2.2.2.1 < (-1000))))] ?_))
  refine Ok.a 126 (decide (xt.lab.2.2.2.2.1 < (-1000))) rfl (fun K0 => ?_) (fun K0 => ?_)
  ·replace hF := hF.1 K0
   refine Ok.b 14 [2] [(140, .bool true)] ?_
   refine Ok.nt ((Ok.v 140 rfl (show (.bool true : Value) = .bool (tmyV5 xt) from congrArg (Value.bool) ((Eq.trans (mor_t K0) ((if_f x0).symm)))) ?_))
   exact fun a W hA hW => ⟨hA.sub kr, hW, hF⟩
  replace hF := hF.2 K0
  refine Ok.b 1 [2] [(126, .bool false), (127, pv bs2 4)] ?_
  refine Ok.y (j := 17) (d := 126) (want := false) (b := false) rfl kr kr rfl (OpOk.s (v := iv xt.lab.2.2.2.2.1) (Yields.l 0 rfl rfl Tryz.underlying3 rfl kr) rfl rfl (Ok.b 3 [2] [(131, .bool (decide (xt.lab.2.2.2.2.1 > 1000)))] ?_))
  refine Ok.a 131 (decide (xt.lab.2.2.2.2.1 > 1000)) rfl (fun s0 => ?_) (fun s0 => ?_)
  ·replace hF := hF.1 s0
   refine Ok.b 9 [2] [(140, .bool true)] ?_
   refine Ok.nt ((Ok.v 140 rfl (show (.bool true : Value) = .bool (tmyV5 xt) from congrArg (Value.bool) ((Eq.trans ((Eq.trans (mor_t s0) (mor_f K0))) ((if_f x0).symm)))) ?_))
   exact fun a W hA hW => ⟨hA.sub kr, hW, hF⟩
  replace hF := hF.2 s0
  refine Ok.b 1 [2] [(131, .bool false), (132, pv bs2 5)] ?_
  refine Ok.y (j := 22) (d := 131) (want := false) (b := false) rfl kr kr rfl (OpOk.s (v := iv xt.lab.2.2.2.2.2) (Yields.l 0 rfl rfl Tryz.underlying3 rfl kr) rfl rfl (Ok.b 3 [2] [(136, .bool (decide (xt.lab.2.2.2.2.2 < (-1000))))] ?_))
  refine Ok.a 136 (decide (xt.lab.2.2.2.2.2 < (-1000))) rfl (fun c0 => ?_) (fun c0 => ?_)
  ·replace hF := hF.1 c0
   refine Ok.b 4 [2] [(140, .bool true)] ?_
   refine Ok.nt ((Ok.v 140 rfl (show (.bool true : Value) = .bool (tmyV5 xt) from congrArg (Value.bool) ((Eq.trans ((Eq.trans ((Eq.trans (mor_t c0) (mor_f s0))) (mor_f K0))) ((if_f x0).symm)))) ?_))
   exact fun a W hA hW => ⟨hA.sub kr, hW, hF⟩
  replace hF := hF.2 c0
  refine Ok.b 1 [2] [(136, .bool false), (137, pv bs2 5)] ?_
  refine Ok.y (j := 27) (d := 136) (want := false) (b := false) rfl kr kr rfl (OpOk.s (v := iv xt.lab.2.2.2.2.2) (Yields.l 0 rfl rfl Tryz.underlying3 rfl kr) rfl rfl (Ok.b 2 [2] [(140, .bool (decide (xt.lab.2.2.2.2.2 > 1000)))] ?_))
  refine Ok.nt ((Ok.v 140 rfl (show (.bool (decide (xt.lab.2.2.2.2.2 > 1000)) : Value) = .bool (tmyV5 xt) from congrArg (Value.bool) ((Eq.trans ((Eq.trans ((Eq.trans (mor_f c0) (mor_f s0))) (mor_f K0))) ((if_f x0).symm)))) ?_))
  exact fun a W hA hW => ⟨hA.sub kr, hW, hF⟩
 clear hF
 rintro a W ⟨hA, hW, hF⟩
 refine (?_ : Ok _ _ _ _ _ _) a W hA hW
 clear hA hW
 refine Ok.cn hF rfl (fun hc7 => ?_) (fun hc7 => ?_)
 ·replace hF := hF.1 hc7
  refine Ok.sr ((Ok.B 1 [(4, .bool false)] kr (Ok.nt ((Ok.ret (Ok.tr ?_))))))
  exact Ok.p (vs := [.bool false]) [] [] dc rfl (.inl rfl) rfl (.cons (.tmp rfl) .nil) (Gext.r w0 g) ⟨false, rfl, rfl, hF⟩
 replace hF := hF.2 hc7
 refine Ok.k (Ok.t (Ok.q (Ok.cut (fun a W => StA 156 [(2, pv bs2 0), (148, .bool ((xt.lab.1 == 10) || (xt.lab.1 == 11)))] a ∧ StW w0 [.blk bs2 (.cells (aL xt.lab axt_0 xt.kids.length cxt_0) 48)] g W ∧ tmyj56 N xt K) ?_ ?_)))
 ·
  refine Ok.r (Ok.b 1 [2] [(141, pv bs2 0)] ?_)
  refine Ok.op rfl (OpOk.s (v := iv xt.lab.1) (Yields.l 0 rfl rfl Tryz.underlying3 rfl kr) rfl rfl (Ok.b 2 [2] [(144, .bool (xt.lab.1 == 10))] ?_))
  refine Ok.a 144 ((xt.lab.1 == 10)) rfl (fun o0 => ?_) (fun o0 => ?_)
  ·replace hF := hF.1 o0
   refine Ok.b 4 [2] [(148, .bool true)] ?_
   refine Ok.nt ((Ok.v 148 rfl (show (.bool true : Value) = .bool ((xt.lab.1 == 10) || (xt.lab.1 == 11)) from congrArg (Value.bool) (mor_t o0)) ?_))
   exact fun a W hA hW => ⟨hA.sub kr, hW, hF⟩
  replace hF := hF.2 o0
  refine Ok.b 1 [2] [(144, .bool false), (145, pv bs2 0)] ?_
  refine Ok.y (j := 3) (d := 144) (want := false) (b := false) rfl kr kr rfl (OpOk.s (v := iv xt.lab.1) (Yields.l 0 rfl rfl Tryz.underlying3 rfl kr) rfl rfl (Ok.b 2 [2] [(148, .bool (xt.lab.1 == 11))] ?_))
  refine Ok.nt ((Ok.v 148 rfl (show (.bool (xt.lab.1 == 11) : Value) = .bool ((xt.lab.1 == 10) || (xt.lab.1 == 11)) from congrArg (Value.bool) (mor_f o0)) ?_))
  exact fun a W hA hW => ⟨hA.sub kr, hW, hF⟩
 clear hF
 rintro a W ⟨hA, hW, hF⟩
 refine (?_ : Ok _ _ _ _ _ _) a W hA hW
 clear hA hW
 refine Ok.cn hF rfl (fun hc8 => ?_) (fun hc8 => ?_)
 ·replace hF := hF.1 hc8
  refine Ok.sr ((Ok.B 1 [(149, pv bs2 6)] kr (Ok.op rfl (OpOk.s (v := .slice axt_0 xt.kids.length cxt_0) (Yields.l 0 rfl rfl Tryz.underlying29 rfl kr) rfl rfl ?_))))
  obtain ⟨hp9, hF⟩ := hF
  refine Ok.op rfl (OpOk.f enr (fun W hW => ih_pmy _ xt.kids (hRxt_0.mono hW.sees) (hG0.mono hW.sees) hp9) rfl ?_)
  refine Ok.B 1 [(4, .bool (ptsS xt.kids))] kr (Ok.nt ((Ok.ret (Ok.tr ?_))))
  exact Ok.p (vs := [.bool (ptsS xt.kids)]) [] [] dc rfl (.inl rfl) rfl (.cons (.tmp rfl) .nil) (Gext.r w0 g) ⟨(ptsS xt.kids), rfl, rfl, hF⟩
 replace hF := hF.2 hc8
 refine Ok.k (Ok.t (Ok.sr ((Ok.B 1 [(152, pv bs2 6)] kr (Ok.op rfl (OpOk.s (v := .slice axt_0 xt.kids.length cxt_0) (Yields.l 0 rfl rfl Tryz.underlying29 rfl kr) rfl rfl (Ok.B 3 [(4, .bool ((xt.kids.length : Int) == 0))] kr (Ok.nt ((Ok.ret ?_))))))))))
 exact Ok.p (vs := [.bool ((xt.kids.length : Int) == 0)]) [] [] dc rfl (.inl rfl) rfl (.cons (.tmp rfl) .nil) (Gext.r w0 g) ⟨((xt.kids.length : Int) == 0), rfl, rfl, hF⟩
def pmyV0 (e3 : PH) : Bool :=
 (((e3.1.length : Int) == 0) || ((e3.2.length : Int) != (w6 ((e3.1.length : Int) - 1))))
def pmyV3 (e3 : PH) (z0 : Int) : Bool :=
 ((((e3.1.getD (Int.toNat z0) default).length : Int) == 0) || ((decide (z0 > 0)) && (!(hbyS ([32, 62, 43, 126] : Bs) (e3.2.getD (Int.toNat (w6 (z0 - 1))) default)))))
def pmyl49b (N : Nat) (K : Bool → Prop) (e3 : PH) (z0 : Int) (C29 : Int → Prop) (v0 : Int) (C49 : Int → Prop) : Prop :=
 0 ≤ z0 ∧ Int.toNat z0 < e3.1.length ∧ ((decide (v0 < ((e3.1.getD (Int.toNat z0) default).length : Int))) = true → 0 ≤ v0 ∧ Int.toNat v0 < (e3.1.getD (Int.toNat z0) default).length ∧ tmyP N ((e3.1.getD (Int.toNat z0) default).getD (Int.toNat v0) default) v0 ∧ ((!(tstS ((e3.1.getD (Int.toNat z0) default).getD (Int.toNat v0) default) v0)) = true → K false) ∧ ((!(tstS ((e3.1.getD (Int.toNat z0) default).getD (Int.toNat v0) default) v0)) = false → C49 (w6 (v0 + 1)))) ∧ ((decide (v0 < ((e3.1.getD (Int.toNat z0) default).length : Int))) = false → C29 (w6 (z0 + 1)))
def pmyl49 (N : Nat) (K : Bool → Prop) (e3 : PH) (z0 : Int) (C29 : Int → Prop) : Nat → Int → Prop
 | 0, _ => False
 | k + 1, v0 => pmyl49b N K e3 z0 C29 v0 (pmyl49 N K e3 z0 C29 k)
def pmyj39 (N : Nat) (K : Bool → Prop) (e3 : PH) (z0 : Int) (C29 : Int → Prop) : Prop :=
 (((pmyV3 e3 z0)) = true → K false) ∧ (((pmyV3 e3 z0)) = false → ∃ k, pmyl49 N K e3 z0 C29 k 0)
def pmyl29b (N : Nat) (K : Bool → Prop) (e3 : PH) (q0 : Int) (C7 : Int → Prop) (z0 : Int) (C29 : Int → Prop) : Prop :=
 ((decide (z0 < (e3.1.length : Int))) = true → 0 ≤ z0 ∧ Int.toNat z0 < e3.1.length ∧ (((((e3.1.getD (Int.toNat z0) default).length : Int) == 0)) = true → pmyj39 N K e3 z0 C29) ∧ (((((e3.1.getD (Int.toNat z0) default).length : Int) == 0)) = false → ((decide (z0 > 0)) = true → 0 ≤ (w6 (z0 - 1)) ∧ Int.toNat (w6 (z0 - 1)) < e3.2.length ∧ hbyP ([32, 62, 43, 126] : Bs) (e3.2.getD (Int.toNat (w6 (z0 - 1))) default) ∧ pmyj39 N K e3 z0 C29) ∧ ((decide (z0 > 0)) = false → pmyj39 N K e3 z0 C29))) ∧ ((decide (z0 < (e3.1.length : Int))) = false → C7 (w6 (q0 + 1)))
def pmyl29 (N : Nat) (K : Bool → Prop) (e3 : PH) (q0 : Int) (C7 : Int → Prop) : Nat → Int → Prop
 | 0, _ => False
 | k + 1, z0 => pmyl29b N K e3 q0 C7 z0 (pmyl29 N K e3 q0 C7 k)
def pmyj19 (N : Nat) (K : Bool → Prop) (e3 : PH) (q0 : Int) (C7 : Int → Prop) : Prop :=
 (((pmyV0 e3)) = true → K false) ∧ (((pmyV0 e3)) = false → ∃ k, pmyl29 N K e3 q0 C7 k 0)
def pmyl7b (N : Nat) (xl : List PH) (K : Bool → Prop) (q0 : Int) (C7 : Int → Prop) : Prop :=
 ((decide (q0 < (xl.length : Int))) = true → 0 ≤ q0 ∧ Int.toNat q0 < xl.length ∧ (((((xl.getD (Int.toNat q0) default).1.length : Int) == 0)) = true → pmyj19 N K (xl.getD (Int.toNat q0) default) q0 C7) ∧ (((((xl.getD (Int.toNat q0) default).1.length : Int) == 0)) = false → pmyj19 N K (xl.getD (Int.toNat q0) default) q0 C7)) ∧ ((decide (q0 < (xl.length : Int))) = false → K (decide ((xl.length : Int) > 0)))
def pmyl7 (N : Nat) (xl : List PH) (K : Bool → Prop) : Nat → Int → Prop
 | 0, _ => False
 | k + 1, q0 => pmyl7b N xl K q0 (pmyl7 N xl K k)
def pmyF (N : Nat) (xl : List PH) (K : Bool → Prop) : Prop :=
 ∃ k, pmyl7 N xl K k 0
theorem pmy_ok {g : Ghost} (N : Nat) (ih_tmy : tmy_C N) (ih_pmy : pmy_C N) {axl_0 : Option Addr} {cxl_0 : Nat} (xl : List PH) (hRxl_0 : Rep g (.slice yP) [.slice axl_0 xl.length cxl_0] xl) (hG0 : SomeInt g 0) (K : Bool → Prop)
  (hF : pmyF N xl K) : CallsH Tryz.prog 18 #[.slice axl_0 xl.length cxl_0] g [] (fun g' H' v => ∃ (r0 : Bool), v = .bool r0 ∧ H' = [] ∧ K r0) := by
 refine CallsH.enter 83 [(0, .slice axl_0 xl.length cxl_0)] Tryz.func18 rfl kr kr kr fun w0 => ?_
 refine Ok.sr ((Ok.B 1 [(0, .slice axl_0 xl.length cxl_0)] kr (Ok.nt ((Ok.q (Ok.sr ((Ok.b 1 [0] [(3, iv 0)] ?_))))))))
 refine Ok.nt ((Ok.block ?_))
 obtain ⟨k, hF⟩ := hF
 refine Ok.L (fun k a W => ∃ (q0 : Int), StA 83 [(0, .slice axl_0 xl.length cxl_0), (3, iv q0)] a ∧ StW w0 [] g W ∧ pmyl7 N xl K k q0) k ?_ ?_
 ·
  exact fun a W hA hW => ⟨0, hA.sub kr, hW, hF⟩
 clear hF
 rintro k7 a W ⟨q0, hA, hW, hF⟩
 cases k7 with
 | zero => exact (hF : False).elim
 | succ k7 =>
  refine (?_ : Ok _ _ _ _ _ _) a W hA hW
  clear hA hW
  refine Ok.q (Ok.sr ((Ok.b 4 [0, 3] [(10, .bool (decide (q0 < (xl.length : Int))))] ?_)))
  refine Ok.nt ((Ok.cn hF rfl (fun hc1 => ?_) (fun hc1 => ?_)))
  ·replace hF := hF.1 hc1
   refine Ok.k (Ok.t (Ok.q (Ok.block (Ok.sr ((Ok.b 2 [0, 3] [(13, .slice axl_0 xl.length cxl_0), (14, iv q0)] ?_))))))
   obtain ⟨h03, h13, hF⟩ := hF
   have he3 := get_of (l := xl) (default : PH) h13
   generalize hg3 : (xl.getD (Int.toNat q0) default) = e3 at he3 hF ⊢
   refine Ok.op rfl (OpOk.indexRo (e := yP) (i := q0) (el := e3) rfl rfl Tryz.underlying29 kr hRxl_0 h03 he3 rfl fun q2 o2 cs2 _ y1 hr2 => ?_)
   obtain ⟨_, _, rfl, ⟨k0, y0, rfl, hm2_0, hr2_0⟩, ⟨u0, j0, rfl, hm2_1, hr2_1⟩⟩ := hr2
   have L0 : Rep g (.slice (.slice yS)) [.slice k0 e3.1.length y0] e3.1 := ⟨k0, y0, rfl, hm2_0, hr2_0⟩
   have hR2_1 : Rep g (.slice yb) [.slice u0 e3.2.length j0] e3.2 := ⟨u0, j0, rfl, hm2_1, hr2_1⟩
   replace y1 : At g q2 o2 [.slice k0 e3.1.length y0, .slice u0 e3.2.length j0] := y1
   refine Ok.op rfl (OpOk.s (v := .agg #[.slice k0 e3.1.length y0, .slice u0 e3.2.length j0]) (Yields.loadAggRo 0 2 #[.slice k0 e3.1.length y0, .slice u0 e3.2.length j0] y1 kr Tryz.underlying25 rfl kr kr kr) rfl rfl (Ok.op rfl (OpOk.a (z := .agg #[.slice none 0 0, .slice none 0 0]) (cs := #[.slice none 0 0, .slice none 0 0]) kr kr rfl fun bs4 => ?_)))
   refine Ok.op rfl (OpOk.sto (k := 2) (v := .agg #[.slice k0 e3.1.length y0, .slice u0 e3.2.length j0]) 0 #[.slice k0 e3.1.length y0, .slice u0 e3.2.length j0] rfl rfl rfl ?_)
   refine Ok.nt ((Ok.q (Ok.cut (fun a W => StA 83 [(0, .slice axl_0 xl.length cxl_0), (3, iv q0), (4, pv bs4 0), (30, .bool (pmyV0 e3))] a ∧ StW w0 [.blk bs4 (.cells #[.slice k0 e3.1.length y0, .slice u0 e3.2.length j0] 25)] g W ∧ pmyj19 N K e3 q0 (pmyl7 N xl K k7)) ?_ ?_)))
   ·
    refine Ok.r (Ok.b 1 [0, 3] [(4, pv bs4 0), (17, pv bs4 0)] ?_)
    refine Ok.op rfl (OpOk.s (v := .slice k0 e3.1.length y0) (Yields.l 0 rfl rfl Tryz.underlying22 rfl kr) rfl rfl (Ok.b 3 [0, 3, 4] [(21, .bool ((e3.1.length : Int) == 0))] ?_))
    refine Ok.a 21 (((e3.1.length : Int) == 0)) rfl (fun b0 => ?_) (fun b0 => ?_)
    ·replace hF := hF.1 b0
     refine Ok.b 9 [0, 3, 4] [(30, .bool true)] ?_
     refine Ok.nt ((Ok.v 30 rfl (show (.bool true : Value) = .bool (pmyV0 e3) from congrArg (Value.bool) (mor_t b0)) ?_))
     exact fun a W hA hW => ⟨hA.sub kr, hW, hF⟩
    replace hF := hF.2 b0
    refine Ok.b 1 [0, 3, 4] [(21, .bool false), (22, pv bs4 1)] ?_
    refine Ok.y (j := 4) (d := 21) (want := false) (b := false) rfl kr kr rfl (OpOk.s (v := .slice u0 e3.2.length j0) (Yields.l 0 rfl rfl Tryz.underlying23 rfl kr) rfl rfl (Ok.b 2 [0, 3, 4, 21] [(24, iv (e3.2.length : Int)), (25, pv bs4 0)] ?_))
    refine Ok.y (j := 4) (d := 21) (want := false) (b := false) rfl kr kr rfl (OpOk.s (v := .slice k0 e3.1.length y0) (Yields.l 0 rfl rfl Tryz.underlying22 rfl kr) rfl rfl (Ok.b 4 [0, 3, 4] [(30, .bool ((e3.2.length : Int) != (w6 ((e3.1.length : Int) - 1))))] ?_))
    refine Ok.nt ((Ok.v 30 rfl (show (.bool ((e3.2.length : Int) != (w6 ((e3.1.length : Int) - 1))) : Value) = .bool (pmyV0 e3) from congrArg (Value.bool) (mor_f b0)) ?_))
    exact fun a W hA hW => ⟨hA.sub kr, hW, hF⟩
   clear hF
   rintro a W ⟨hA, hW, hF⟩
   refine (?_ : Ok _ _ _ _ _ _) a W hA hW
   clear hA hW
   refine Ok.cn hF rfl (fun hc5 => ?_) (fun hc5 => ?_)
   ·replace hF := hF.1 hc5
    refine Ok.sr ((Ok.B 1 [(2, .bool false)] kr (Ok.nt ((Ok.ret (Ok.tr (Ok.kr (Ok.tr (Ok.tr (Ok.kr (Ok.tr ?_)))))))))))
    exact Ok.p (vs := [.bool false]) [] [] dc rfl (.inl rfl) rfl (.cons (.tmp rfl) .nil) (Gext.r w0 g) ⟨false, rfl, rfl, hF⟩
   replace hF := hF.2 hc5
   refine Ok.k (Ok.t (Ok.sr ((Ok.b 1 [0, 3, 4] [(5, iv 0)] ?_))))
   refine Ok.nt ((Ok.block ?_))
   obtain ⟨k, hF⟩ := hF
   refine Ok.L (fun k a W => ∃ (z0 : Int), StA 83 [(0, .slice axl_0 xl.length cxl_0), (3, iv q0), (4, pv bs4 0), (5, iv z0)] a ∧ StW w0 [.blk bs4 (.cells #[.slice k0 e3.1.length y0, .slice u0 e3.2.length j0] 25)] g W ∧ pmyl29 N K e3 q0 (pmyl7 N xl K k7) k z0) k ?_ ?_
   ·
    exact fun a W hA hW => ⟨0, hA.sub kr, hW, hF⟩
   clear hF
   rintro k29 a W ⟨z0, hA, hW, hF⟩
   cases k29 with
   | zero => exact (hF : False).elim
   | succ k29 =>
    refine (?_ : Ok _ _ _ _ _ _) a W hA hW
    clear hA hW
    refine Ok.q (Ok.sr ((Ok.b 2 [0, 3, 4, 5] [(31, iv z0), (32, pv bs4 0)] ?_)))
    refine Ok.op rfl (OpOk.s (v := .slice k0 e3.1.length y0) (Yields.l 0 rfl rfl Tryz.underlying22 rfl kr) rfl rfl (Ok.b 2 [0, 3, 4, 5] [(35, .bool (decide (z0 < (e3.1.length : Int))))] ?_))
    refine Ok.nt ((Ok.cn hF rfl (fun hc6 => ?_) (fun hc6 => ?_)))
    ·replace hF := hF.1 hc6
     refine Ok.k (Ok.t (Ok.q (Ok.block (Ok.q (Ok.cut (fun a W => StA 83 [(0, .slice axl_0 xl.length cxl_0), (3, iv q0), (4, pv bs4 0), (5, iv z0), (58, .bool (pmyV3 e3 z0))] a ∧ StW w0 [.blk bs4 (.cells #[.slice k0 e3.1.length y0, .slice u0 e3.2.length j0] 25)] g W ∧ pmyj39 N K e3 z0 (pmyl29 N K e3 q0 (pmyl7 N xl K k7) k29)) ?_ ?_)))))
     ·
      refine Ok.r (Ok.b 1 [0, 3, 4, 5] [(38, pv bs4 0)] ?_)
      refine Ok.op rfl (OpOk.s (v := .slice k0 e3.1.length y0) (Yields.l 0 rfl rfl Tryz.underlying22 rfl kr) rfl rfl (Ok.b 1 [0, 3, 4, 5] [(39, .slice k0 e3.1.length y0), (40, iv z0)] ?_))
      obtain ⟨h017, h117, hF⟩ := hF
      have x1 := get_of (l := e3.1) (default : List TS) h117
      generalize u1 : (e3.1.getD (Int.toNat z0) default) = e17 at x1 hF ⊢
      refine Ok.op rfl (OpOk.indexRo (e := .slice yS) (i := z0) (el := e17) rfl rfl Tryz.underlying22 kr L0 h017 x1 rfl fun q16 o16 cs16 _ A0 hr16 => ?_)
      obtain ⟨U0, J0, rfl, hm16_0, hr16_0⟩ := hr16
      have hR16_0 : Rep g (.slice yS) [.slice U0 e17.length J0] e17 := ⟨U0, J0, rfl, hm16_0, hr16_0⟩
      replace A0 : At g q16 o16 [.slice U0 e17.length J0] := A0
      refine Ok.op rfl (OpOk.s (v := .slice U0 e17.length J0) (Yields.lr 0 A0 kr Tryz.underlying41 rfl kr) rfl rfl (Ok.b 3 [0, 3, 4, 5] [(45, .bool ((e17.length : Int) == 0))] ?_))
      refine Ok.a 45 (((e17.length : Int) == 0)) rfl (fun s0 => ?_) (fun s0 => ?_)
      ·replace hF := hF.1 s0
       refine Ok.b 13 [0, 3, 4, 5] [(58, .bool true)] ?_
       refine Ok.j (Ok.t ?_)
       subst u1
       refine Ok.v 58 rfl (show (.bool true : Value) = .bool (pmyV3 e3 z0) from congrArg (Value.bool) (mor_t s0)) ?_
       exact fun a W hA hW => ⟨hA.sub kr, hW, hF⟩
      replace hF := hF.2 s0
      refine Ok.b 3 [0, 3, 4, 5] [(45, .bool false), (48, .bool (decide (z0 > 0)))] ?_
      refine Ok.a 48 (decide (z0 > 0)) rfl (fun c0 => ?_) (fun c0 => ?_)
      ·replace hF := hF.1 c0
       refine Ok.b 1 [0, 3, 4, 5, 45] [(48, .bool true), (49, pv bs4 1)] ?_
       refine Ok.y (j := 10) (d := 48) (want := true) (b := true) rfl kr kr rfl (OpOk.s (v := .slice u0 e3.2.length j0) (Yields.l 0 rfl rfl Tryz.underlying23 rfl kr) rfl rfl (Ok.b 2 [0, 3, 4, 5, 45, 48] [(50, .slice u0 e3.2.length j0), (52, iv (w6 (z0 - 1)))] ?_))
       obtain ⟨h021, h121, hF⟩ := hF
       have s1 := get_of (l := e3.2) (default : Int) h121
       generalize hg21 : (e3.2.getD (Int.toNat (w6 (z0 - 1))) default) = e21 at s1 hF ⊢
       refine Ok.y (j := 10) (d := 48) (want := true) (b := true) rfl kr kr rfl (OpOk.indexRo (e := .int .u8) (i := w6 (z0 - 1)) (el := e21) rfl rfl Tryz.underlying23 kr hR2_1 h021 s1 rfl fun q20 o20 cs20 _ I0 hr20 => ?_)
       obtain rfl := hr20
       replace I0 : At g q20 o20 [.int .u8 e21] := I0
       refine Ok.y (j := 10) (d := 48) (want := true) (b := true) rfl kr kr rfl (OpOk.s (v := .int .u8 e21) (Yields.lr 0 I0 kr Tryz.underlying5 rfl kr) rfl rfl ?_)
       obtain ⟨hp22, hF⟩ := hF
       refine Ok.y (j := 10) (d := 48) (want := true) (b := true) rfl kr kr rfl (OpOk.f enr (fun W hW => hby_c ([32, 62, 43, 126] : Bs) e21 hp22) rfl ?_)
       refine Ok.b 3 [0, 3, 4, 5] [(58, .bool (!(hbyS ([32, 62, 43, 126] : Bs) e21)))] ?_
       refine Ok.j (Ok.t ?_)
       subst hg21
       subst u1
       refine Ok.v 58 rfl (show (.bool (!(hbyS ([32, 62, 43, 126] : Bs) (e3.2.getD (Int.toNat (w6 (z0 - 1))) default))) : Value) = .bool (pmyV3 e3 z0) from congrArg (Value.bool) ((Eq.trans (mand_t c0) (mor_f s0)))) ?_
       exact fun a W hA hW => ⟨hA.sub kr, hW, hF⟩
      replace hF := hF.2 c0
      refine Ok.b 10 [0, 3, 4, 5] [(58, .bool false)] ?_
      refine Ok.j (Ok.t ?_)
      subst u1
      refine Ok.v 58 rfl (show (.bool false : Value) = .bool (pmyV3 e3 z0) from congrArg (Value.bool) ((Eq.trans (mand_f c0) (mor_f s0)))) ?_
      exact fun a W hA hW => ⟨hA.sub kr, hW, hF⟩
     clear hF
     rintro a W ⟨hA, hW, hF⟩
     refine (?_ : Ok _ _ _ _ _ _) a W hA hW
     clear hA hW
     refine Ok.cn hF rfl (fun hc7 => ?_) (fun hc7 => ?_)
     ·replace hF := hF.1 hc7
      refine Ok.sr ((Ok.B 1 [(2, .bool false)] kr (Ok.nt ((Ok.ret (Ok.tr (Ok.kr (Ok.tr (Ok.tr (Ok.kr (Ok.kr (Ok.tr (Ok.tr (Ok.kr (Ok.tr ?_)))))))))))))))
      exact Ok.p (vs := [.bool false]) [] [] dc rfl (.inl rfl) rfl (.cons (.tmp rfl) .nil) (Gext.r w0 g) ⟨false, rfl, rfl, hF⟩
     replace hF := hF.2 hc7
     refine Ok.k (Ok.t (Ok.sr ((Ok.b 1 [0, 3, 4, 5] [(6, iv 0)] ?_))))
     refine Ok.nt ((Ok.block ?_))
     obtain ⟨k, hF⟩ := hF
     refine Ok.L (fun k a W => ∃ (v0 : Int), StA 83 [(0, .slice axl_0 xl.length cxl_0), (3, iv q0), (4, pv bs4 0), (5, iv z0), (6, iv v0)] a ∧ StW w0 [.blk bs4 (.cells #[.slice k0 e3.1.length y0, .slice u0 e3.2.length j0] 25)] g W ∧ pmyl49 N K e3 z0 (pmyl29 N K e3 q0 (pmyl7 N xl K k7) k29) k v0) k ?_ ?_
     ·
      exact fun a W hA hW => ⟨0, hA.sub kr, hW, hF⟩
     clear hF
     rintro k49 a W ⟨v0, hA, hW, hF⟩
     cases k49 with
     | zero => exact (hF : False).elim
     | succ k49 =>
      refine (?_ : Ok _ _ _ _ _ _) a W hA hW
      clear hA hW
      refine Ok.q (Ok.sr ((Ok.b 2 [0, 3, 4, 5, 6] [(59, iv v0), (60, pv bs4 0)] ?_)))
      refine Ok.op rfl (OpOk.s (v := .slice k0 e3.1.length y0) (Yields.l 0 rfl rfl Tryz.underlying22 rfl kr) rfl rfl (Ok.b 1 [0, 3, 4, 5, 6, 59] [(61, .slice k0 e3.1.length y0), (62, iv z0)] ?_))
      obtain ⟨h09, h19, hF⟩ := hF
      have he9 := get_of (l := e3.1) (default : List TS) h19
      generalize hg9 : (e3.1.getD (Int.toNat z0) default) = e9 at he9 hF ⊢
      refine Ok.op rfl (OpOk.indexRo (e := .slice yS) (i := z0) (el := e9) rfl rfl Tryz.underlying22 kr L0 h09 he9 rfl fun q8 o8 cs8 _ j1 hr8 => ?_)
      obtain ⟨q1, k1, rfl, hm8_0, hr8_0⟩ := hr8
      have hR8_0 : Rep g (.slice yS) [.slice q1 e9.length k1] e9 := ⟨q1, k1, rfl, hm8_0, hr8_0⟩
      replace j1 : At g q8 o8 [.slice q1 e9.length k1] := j1
      refine Ok.op rfl (OpOk.s (v := .slice q1 e9.length k1) (Yields.lr 0 j1 kr Tryz.underlying41 rfl kr) rfl rfl (Ok.b 2 [0, 3, 4, 5, 6] [(66, .bool (decide (v0 < (e9.length : Int))))] ?_))
      refine Ok.nt ((Ok.cn hF rfl (fun o0 => ?_) (fun o0 => ?_)))
      ·replace hF := hF.1 o0
       refine Ok.k (Ok.t (Ok.q (Ok.block (Ok.sr ((Ok.b 1 [0, 3, 4, 5, 6] [(69, pv bs4 0)] ?_))))))
       refine Ok.op rfl (OpOk.s (v := .slice k0 e3.1.length y0) (Yields.l 0 rfl rfl Tryz.underlying22 rfl kr) rfl rfl (Ok.b 1 [0, 3, 4, 5, 6] [(70, .slice k0 e3.1.length y0), (71, iv z0)] ?_))
       refine Ok.op rfl (OpOk.indexRo (e := .slice yS) (i := z0) (el := e9) rfl rfl Tryz.underlying22 kr L0 h09 he9 rfl fun q11 o11 cs11 _ z1 hr11 => ?_)
       obtain ⟨a0, i0, rfl, hm11_0, hr11_0⟩ := hr11
       have hR11_0 : Rep g (.slice yS) [.slice a0 e9.length i0] e9 := ⟨a0, i0, rfl, hm11_0, hr11_0⟩
       replace z1 : At g q11 o11 [.slice a0 e9.length i0] := z1
       refine Ok.op rfl (OpOk.s (v := .slice a0 e9.length i0) (Yields.lr 0 z1 kr Tryz.underlying41 rfl kr) rfl rfl (Ok.b 1 [0, 3, 4, 5, 6] [(73, .slice a0 e9.length i0), (74, iv v0)] ?_))
       obtain ⟨h013, h113, hF⟩ := hF
       have b1 := get_of (l := e9) (default : TS) h113
       generalize hg13 : (e9.getD (Int.toNat v0) default) = e13 at b1 hF ⊢
       refine Ok.op rfl (OpOk.indexRo (e := yS) (i := v0) (el := e13) rfl rfl Tryz.underlying41 kr hR11_0 h013 b1 rfl fun q12 o12 cs12 _ v1 hr12 => ?_)
       have Y0 := hr12
       replace Y0 := Rep.tst.1 Y0
       obtain ⟨_, _, rfl, ⟨_, _, rfl, rfl, ⟨_, _, rfl, rfl, ⟨_, _, rfl, rfl, ⟨_, _, rfl, rfl, ⟨_, _, rfl, rfl, rfl⟩⟩⟩⟩⟩, ⟨g0, m0, rfl, hm12_6, hr12_6⟩⟩ := Y0
       have hR12_6 : Rep g (.slice yP) [.slice g0 e13.kids.length m0] e13.kids := ⟨g0, m0, rfl, hm12_6, hr12_6⟩
       replace v1 : At g q12 o12 (vL e13.lab g0 e13.kids.length m0) := v1
       refine Ok.op rfl (OpOk.s (v := .agg (aL e13.lab g0 e13.kids.length m0)) (Yields.loadAggRo 0 7 (aL e13.lab g0 e13.kids.length m0) v1 kr Tryz.underlying48 rfl kr kr kr) rfl rfl (Ok.b 1 [0, 3, 4, 5, 6] [(76, .agg (aL e13.lab g0 e13.kids.length m0)), (77, iv v0)] ?_))
       obtain ⟨hp14, hF⟩ := hF
       refine Ok.op rfl (OpOk.f enr (fun W hW => ih_tmy _ e13 v0 (hR12_6.mono hW.sees) (hG0.mono hW.sees) hp14) rfl ?_)
       refine Ok.b 1 [0, 3, 4, 5, 6] [(79, .bool (!(tstS e13 v0)))] ?_
       refine Ok.nt ((Ok.cn hF rfl (fun f0 => ?_) (fun f0 => ?_)))
       ·replace hF := hF.1 f0
        refine Ok.sr ((Ok.B 1 [(2, .bool false)] kr (Ok.nt ((Ok.ret (Ok.kr (Ok.tr (Ok.tr (Ok.kr (Ok.kr (Ok.tr (Ok.tr (Ok.kr (Ok.kr (Ok.tr (Ok.tr (Ok.kr (Ok.tr ?_))))))))))))))))))
        exact Ok.p (vs := [.bool false]) [] [] dc rfl (.inl rfl) rfl (.cons (.tmp rfl) .nil) (Gext.r w0 g) ⟨false, rfl, rfl, hF⟩
       replace hF := hF.2 f0
       refine Ok.k (Ok.kn (Ok.t (Ok.r (Ok.b 3 [0, 3, 4, 5] [(6, iv (w6 (v0 + 1)))] ?_))))
       refine Ok.j (Ok.t ?_)
       subst hg13
       subst hg9
       exact fun a W hA hW => ⟨k49, Nat.lt_succ_self _, w6 (v0 + 1), hA.sub kr, hW, hF⟩
      replace hF := hF.2 o0
      refine Ok.x (Ok.thenE (Ok.thenE (Ok.blockHit (Ok.kn (Ok.t (Ok.r (Ok.b 3 [0, 3, 4] [(5, iv (w6 (z0 + 1)))] ?_)))))))
      refine Ok.j (Ok.t ?_)
      subst hg9
      exact fun a W hA hW => ⟨k29, Nat.lt_succ_self _, w6 (z0 + 1), hA.sub kr, hW, hF⟩
    replace hF := hF.2 hc6
    refine Ok.x (Ok.thenE (Ok.thenE (Ok.blockHit (Ok.kn (Ok.t (Ok.r (Ok.b 3 [0] [(3, iv (w6 (q0 + 1)))] ?_)))))))
    refine Ok.j (Ok.t ?_)
    subst hg3
    exact fun a W hA hW => ⟨k7, Nat.lt_succ_self _, w6 (q0 + 1), hA.sub kr, hW.sub (.cons _ .slnil), hF⟩
  replace hF := hF.2 hc1
  refine Ok.x (Ok.thenE (Ok.thenE (Ok.blockHit (Ok.t (Ok.sr ((Ok.B 4 [(2, .bool (decide ((xl.length : Int) > 0)))] kr (Ok.nt ((Ok.ret ?_))))))))))
  exact Ok.resH (vs := [.bool (decide ((xl.length : Int) > 0))]) (.inl rfl) rfl (.cons (.tmp rfl) .nil) (Gext.r w0 g) ⟨(decide ((xl.length : Int) > 0)), rfl, rfl, hF⟩
theorem tmy_0 (t : Ts) (i : Int) : ¬ tmyP 0 t i := fun h => absurd h.1 (Nat.not_lt_zero _)
theorem pmy_0 (l : List Ph) : ¬ pmyP 0 l := fun h => absurd h.1 (Nat.not_lt_zero _)
theorem l0_eq (t : Ts) (i : Int) : l0 t.lab i = ((decide (t.lab.1 < 1) || decide (t.lab.1 > 11)) || (tmyV0 t i || tmyV2 t)) := by
 unfold l0 tmyV0 tmyV2 tmyV1
 have hep : ((t.lab.2.1 == ([] : Bs)) && plainS t.lab.2.1) = false := by
  cases t.lab.2.1 with
  | nil => decide
  | cons c s => rfl
 generalize t.lab.1 = k
 generalize (t.lab.2.1 == ([] : Bs)) = e at *
 generalize plainS t.lab.2.1 = p at *
 generalize decide (i > 0) = a
 by_cases h1 : k < 1
 ·rw [decide_eq_true h1]; simp
 by_cases h2 : k > 11
 ·rw [decide_eq_true h2]; simp
 obtain rfl | rfl | rfl | rfl | rfl | rfl | rfl | rfl | rfl | rfl | rfl : k = 1 ∨ k = 2 ∨ k = 3 ∨ k = 4 ∨ k = 5 ∨ k = 6 ∨ k = 7 ∨ k = 8 ∨ k = 9 ∨ k = 10 ∨ k = 11 := by omega
 all_goals (revert a e p hep; decide)
theorem l1_eq (t : Ts) : l1 t.lab = tmyV3 t := by
 unfold l1 tmyV3
 rw [show (lowerS t.lab.2.1 == t.lab.2.1) = (t.lab.2.1 == lowerS t.lab.2.1) from Bool.beq_comm ..]
theorem l2_eq (t : Ts) : l2 t.lab = tmyV4 t := by
 unfold l2 tmyV4
 generalize (t.lab.1 != 5) = a
 generalize (t.lab.2.2.2.1 == ([] : Bs)) = b
 generalize hbyS ([61, 126, 124, 94, 36, 42] : Bs) t.lab.2.2.1 = c
 by_cases h : t.lab.2.2.1 = 0
 ·rw [h]; revert a b c; decide
 rw [show (t.lab.2.2.1 == 0) = false by simpa using h, show (t.lab.2.2.1 != 0) = true by simpa using h]
 revert a b c; decide
theorem l3_eq (t : Ts) : l3 t.lab = tmyV5 t := by
 unfold l3 tmyV5
 generalize (!((t.lab.1 == 8) || (t.lab.1 == 9))) = c
 generalize t.lab.2.2.2.2.1 = a
 generalize t.lab.2.2.2.2.2 = b
 have e : ((decide ((if b < a then b else a) < (-1000))) || (decide ((if a < b then b else a) > 1000))) = (decide (a < (-1000)) || (decide (a > 1000) || (decide (b < (-1000)) || decide (b > 1000)))) := by
  rw [Bool.eq_iff_iff]
  simp only [Bool.or_eq_true, decide_eq_true_eq]
  split <;> split <;> omega
 rw [e]
theorem lab_eq (t : Ts) (i : Int) : labS t.lab i = !(((decide (t.lab.1 < 1) || decide (t.lab.1 > 11)) || (tmyV0 t i || tmyV2 t)) || (tmyV3 t || (tmyV4 t || tmyV5 t))) := by
 unfold labS
 rw [l0_eq, l1_eq, l2_eq, l3_eq]
 simp only [Bool.not_or]
theorem tmy_F (N : Nat) (t : Ts) (i : Int) (h : tmyP (N + 1) t i) : tmyF N t i (fun r => r = tstS t i) := by
 have hk : pmyP N t.kids := tstP_kids h
 have hb := bT_kids t
 have hc : cutP t.lab.2.1 := by have := h.2.1; show t.lab.2.1.length < 4294967281; omega
 have hl : lowerP t.lab.2.1 := by have := h.2.1; show t.lab.2.1.length ≤ 140737488351232; omega
 have hy : hbyP ([61, 126, 124, 94, 36, 42] : Bs) t.lab.2.2.1 := by show 6 ≤ 140737488351232; omega
 have e := okT_eq t i
 rw [lab_eq] at e
 have e : tstS t i = _ := e
 generalize hB : (decide (t.lab.1 < 1) || decide (t.lab.1 > 11)) = B at e
 have j56 : B = false → tmyV0 t i = false → tmyV2 t = false → tmyV3 t = false → tmyV4 t = false → tmyV5 t = false → tmyj56 N t (fun r => r = tstS t i) := by
  intro hB h0 h2 h3 h4 h5
  rw [hB, h0, h2, h3, h4, h5] at e
  refine ⟨fun hn => ⟨hk, ?_⟩, fun hn => ?_⟩
  ·rw [if_t hn] at e; rw [e]; rfl
  rw [if_f hn] at e; rw [e]; rfl
 have j48 : B = false → tmyV0 t i = false → tmyV2 t = false → tmyV3 t = false → tmyV4 t = false → tmyj48 N t (fun r => r = tstS t i) := by
  intro hB h0 h2 h3 h4
  refine ⟨fun h5 => ?_, fun h5 => ⟨fun _ => j56 hB h0 h2 h3 h4 h5, fun _ => j56 hB h0 h2 h3 h4 h5⟩⟩
  rw [h5] at e; rw [e]; simp
 have j45 : B = false → tmyV0 t i = false → tmyV2 t = false → tmyV3 t = false → tmyV4 t = false → tmyj45 N t (fun r => r = tstS t i) := by
  intro hB h0 h2 h3 h4
  have k := j48 hB h0 h2 h3 h4
  exact ⟨fun _ => ⟨fun _ => k, fun _ => ⟨fun _ => k, fun _ => ⟨fun _ => k, fun _ => ⟨fun _ => k, fun _ => ⟨fun _ => k, fun _ => k⟩⟩⟩⟩⟩, fun _ => ⟨fun _ => k, fun _ => ⟨fun _ => k, fun _ => ⟨fun _ => k, fun _ => k⟩⟩⟩⟩
 have j38 : B = false → tmyV0 t i = false → tmyV2 t = false → tmyV3 t = false → tmyj38 N t (fun r => r = tstS t i) := by
  intro hB h0 h2 h3
  refine ⟨fun h4 => ?_, fun h4 => ⟨fun _ => j45 hB h0 h2 h3 h4, fun _ => j45 hB h0 h2 h3 h4⟩⟩
  rw [h4] at e; rw [e]; simp
 have j30 : B = false → tmyV0 t i = false → tmyV2 t = false → tmyj30 N t (fun r => r = tstS t i) := by
  intro hB h0 h2
  refine ⟨fun h3 => ?_, fun h3 => ?_⟩
  ·rw [h3] at e; rw [e]; simp
  have k := j38 hB h0 h2 h3
  exact ⟨fun _ => ⟨fun _ => k, fun _ => ⟨fun _ => ⟨fun _ => k, fun _ => ⟨hy, k⟩⟩, fun _ => k⟩⟩, fun _ => ⟨fun _ => ⟨fun _ => k, fun _ => ⟨hy, k⟩⟩, fun _ => k⟩⟩
 have j22 : B = false → tmyV0 t i = false → tmyj22 N t (fun r => r = tstS t i) := by
  intro hB h0
  refine ⟨fun h2 => ?_, fun h2 => ?_⟩
  ·rw [h2] at e; rw [e]; simp
  have k := j30 hB h0 h2
  exact ⟨fun _ => ⟨hl, k⟩, fun _ => ⟨fun _ => ⟨hl, k⟩, fun _ => k⟩⟩
 have j19 : B = false → tmyV0 t i = false → tmyj19 N t (fun r => r = tstS t i) := by
  intro hB h0
  have k := j22 hB h0
  exact ⟨fun _ => ⟨fun _ => k, fun _ => ⟨fun _ => ⟨hc, k⟩, fun _ => k⟩⟩, fun _ => ⟨fun _ => ⟨hc, k⟩, fun _ => k⟩⟩
 have j12 : B = false → tmyj12 N t i (fun r => r = tstS t i) := by
  intro hB
  refine ⟨fun h0 => ?_, fun h0 => ?_⟩
  ·rw [h0] at e; rw [e]; simp
  have k := j19 hB h0
  exact ⟨fun _ => k, fun _ => ⟨fun _ => k, fun _ => ⟨fun _ => k, fun _ => k⟩⟩⟩
 have j4 : tmyj4 N t i (fun r => r = tstS t i) := by
  refine ⟨fun h0 => ?_, fun h0 => ?_⟩
  ·rw [hB] at h0
   rw [h0] at e; rw [e]; simp
  rw [hB] at h0
  have k := j12 h0
  exact ⟨fun _ => ⟨fun _ => k, fun _ => k⟩, fun _ => k⟩
 exact ⟨fun _ => j4, fun _ => j4⟩
theorem pmy49 {N : Nat} {r : Bool} (q : Ph) (k : Nat) (hk : k < q.1.length) (hk2 : k ≤ 1048600) (hs : ∀ t ∈ q.1.getD k default, ∀ i, tmyP N t i) (hl : (q.1.getD k default).length ≤ 1048600) (C : Int → Prop) (R : Bool) (hC : r = R → C (w6 ((k : Int) + 1))) :
  ∀ (m i : Nat), i + m = (q.1.getD k default).length → r = (ok1 ((q.1.getD k default).drop i) i && R) → pmyl49 N (fun x => x = r) q (k : Int) C (m + 1) (i : Int) := by
 intro m
 induction m with
 | zero =>
  intro i hi he
  rw [List.drop_of_length_le om, ok1, Bool.true_and] at he
  refine ⟨by omega, by rw [Int.toNat_natCast]; omega, ?_⟩
  rw [Int.toNat_natCast]
  exact ⟨fun hc => absurd (of_decide_eq_true hc) om, fun _ => hC he⟩
 | succ m ih =>
  intro i hi he
  have hi' : i < (q.1.getD k default).length := by omega
  have ht := hs _ (get_in default hi') i
  rw [drop_get (l := q.1.getD k default) default hi', ok1, Bool.and_assoc] at he
  refine ⟨by omega, by rw [Int.toNat_natCast]; omega, ?_⟩
  rw [Int.toNat_natCast]
  refine ⟨fun _ => ⟨by omega, by rw [Int.toNat_natCast]; omega, ?_⟩, fun hc => absurd (of_decide_eq_false hc) om⟩
  rw [Int.toNat_natCast]
  refine ⟨ht, fun hb => ?_, fun hb => ?_⟩
  ·have hb : okT ((q.1.getD k default).getD i default) i = false := by simpa [tstS] using hb
   rw [he, hb, Bool.false_and]
  have hb : okT ((q.1.getD k default).getD i default) i = true := by simpa [tstS] using hb
  rw [hb, Bool.true_and, show (i : Int) + 1 = ((i + 1 : Nat) : Int) by omega] at he
  rw [w64 om, show (i : Int) + 1 = ((i + 1 : Nat) : Int) by omega]
  exact ih (i + 1) om he
theorem pmy29 {N : Nat} {r : Bool} (q : Ph) (hs : ∀ s ∈ q.1, ∀ t ∈ s, ∀ i, tmyP N t i) (hw : w2 q.1 ≤ 1048600) (hl : q.2.length + 1 = q.1.length) (j : Int) (C : Int → Prop) (R : Bool) (hC : r = R → C (w6 (j + 1))) :
  ∀ (m i : Nat), i + m = q.1.length → r = (ok2 (q.1.drop i) && ((q.2.drop (i - 1)).all jnB && R)) → pmyl29 N (fun x => x = r) q j C (m + 1) (i : Int) := by
 intro m
 have h3 := w2_len q.1
 induction m with
 | zero =>
  intro i hi he
  rw [List.drop_of_length_le om, ok2, Bool.true_and, List.drop_of_length_le om, List.all_nil, Bool.true_and] at he
  exact ⟨fun hc => absurd (of_decide_eq_true hc) om, fun _ => hC he⟩
 | succ m ih =>
  intro i hi he
  have hi' : i < q.1.length := by omega
  have hin := get_in default hi'
  have ht := hs _ hin
  have h1 := w1_len (q.1.getD i default)
  have h2 := w2_in hin
  rw [drop_get (l := q.1) default hi', ok2, Bool.and_assoc, Bool.and_assoc] at he
  refine ⟨fun _ => ⟨by omega, by rw [Int.toNat_natCast]; omega, ?_⟩, fun hc => absurd (of_decide_eq_false hc) om⟩
  have go : ∀ s, q.1.getD i default = s → (((s.length : Int) == 0) = false) → r = (ok1 s 0 && (ok2 (q.1.drop (i + 1)) && ((q.2.drop i).all jnB && R))) → ∃ k, pmyl49 N (fun x => x = r) q (i : Int) (pmyl29 N (fun x => x = r) q j C (m + 1)) k 0 := by
   intro s hse hne hr
   subst hse
   refine ⟨_, pmy49 q i hi' om ht om _ _ (fun h => ?_) (q.1.getD i default).length 0 om (by rw [List.drop_zero]; exact hr)⟩
   rw [w64 om, show (i : Int) + 1 = ((i + 1 : Nat) : Int) by omega]
   exact ih (i + 1) om h
  have j39 : pmyj39 N (fun x => x = r) q (i : Int) (pmyl29 N (fun x => x = r) q j C (m + 1)) := by
   unfold pmyj39 pmyV3
   rw [Int.toNat_natCast]
   by_cases h0 : i = 0
   ·subst h0
    have e0 : (decide (((0 : Nat) : Int) > 0)) = false := rfl
    rw [e0, Bool.false_and, Bool.or_false]
    refine ⟨fun hb => ?_, fun hb => ?_⟩
    ·rw [he, hb]; simp
    rw [hb, Bool.not_false, Bool.true_and] at he
    exact go _ rfl hb he
   have e0 : (decide ((i : Int) > 0)) = true := decide_eq_true om
   have e1 : Int.toNat (w6 ((i : Int) - 1)) = i - 1 := by rw [w64 om]; omega
   rw [e0, Bool.true_and, e1]
   rw [drop_get (l := q.2) (k := i - 1) default om, List.all_cons, show i - 1 + 1 = i by omega] at he
   refine ⟨fun hb => ?_, fun hb => ?_⟩
   ·rw [Bool.or_eq_true] at hb
    rcases hb with hb | hb
    ·rw [he, hb]; simp
    have hb : jnB (q.2.getD (i - 1) default) = false := by simpa [jnB] using hb
    rw [he, hb]; simp
   rw [Bool.or_eq_false_iff] at hb
   have hb2 : jnB (q.2.getD (i - 1) default) = true := by simpa [jnB] using hb.2
   rw [hb.1, hb2, Bool.not_false, Bool.true_and, Bool.true_and] at he
   exact go _ rfl hb.1 he
  refine ⟨fun _ => j39, fun _ => ⟨fun hc => ?_, fun _ => j39⟩⟩
  have hc := of_decide_eq_true hc
  rw [w64 om]
  exact ⟨by omega, by omega, by show 4 ≤ 140737488351232; omega, j39⟩
theorem pmy_F (N : Nat) (l : List Ph) (h : pmyP (N + 1) l) : pmyF N l (fun r => r = ptsS l) := by
 have h5 := b3_eq l
 have hlen := w3_len l
 have hin := fun q hq s hs t ht i => ptsP_in h (q := q) hq (s := s) hs (t := t) ht i
 obtain ⟨_, hb, ho⟩ := h
 have loop : ∀ (m i : Nat), i + m = l.length → ptsS l = (ok3 (l.drop i) && decide ((l.length : Int) > 0)) → pmyl7 N l (fun r => r = ptsS l) (m + 1) (i : Int) := by
  intro m
  induction m with
  | zero =>
   intro i hi he
   rw [List.drop_of_length_le om, ok3, Bool.true_and] at he
   exact ⟨fun hc => absurd (of_decide_eq_true hc) om, fun _ => he.symm⟩
  | succ m ih =>
   intro i hi he
   have hi' : i < l.length := by omega
   have hq := get_in default hi'
   have hwq := w3_in hq
   have hq1 := w2_len (l.getD i default).1
   rw [drop_get (l := l) default hi', ok3_cons, Bool.and_assoc, Bool.and_assoc, Bool.and_assoc] at he
   refine ⟨fun _ => ⟨by omega, by rw [Int.toNat_natCast]; omega, ?_⟩, fun hc => absurd (of_decide_eq_false hc) om⟩
   rw [Int.toNat_natCast]
   have j19 : pmyj19 N (fun r => r = ptsS l) (l.getD i default) (i : Int) (pmyl7 N l (fun r => r = ptsS l) (m + 1)) := by
    have hV : pmyV0 (l.getD i default) = (((((l.getD i default).1.length : Int) == 0)) || (((l.getD i default).2.length : Int) != ((l.getD i default).1.length : Int) - 1)) := by
     unfold pmyV0
     rw [w64 om]
    refine ⟨fun h0 => ?_, fun h0 => ?_⟩
    ·rw [hV] at h0
     rw [he, h0]; rfl
    rw [hV] at h0
    have h1 := h0
    rw [Bool.or_eq_false_iff] at h1
    have h2 : (l.getD i default).2.length + 1 = (l.getD i default).1.length := by
     have := bne_eq_false_iff_eq.1 h1.2
     omega
    rw [h0, Bool.not_false, Bool.true_and] at he
    refine ⟨_, pmy29 (l.getD i default) (hin _ hq) om h2 (i : Int) _ _ (fun h => ?_) (l.getD i default).1.length 0 om (by rw [List.drop_zero]; exact he)⟩
    rw [w64 om, show (i : Int) + 1 = ((i + 1 : Nat) : Int) by omega]
    exact ih (i + 1) om h
   exact ⟨fun _ => j19, fun _ => j19⟩
 exact ⟨_, loop l.length 0 om (by rw [List.drop_zero]; rfl)⟩
theorem tmy_rec : ∀ N, tmy_C N ∧ pmy_C N
 | 0 => ⟨(by intro g axt_0 cxt_0 xt xat hRxt_0 hG0 hp; exact (tmy_0 xt xat hp).elim), (by intro g axl_0 cxl_0 xl hRxl_0 hG0 hp; exact (pmy_0 xl hp).elim)⟩
 | N + 1 =>
  have ih := tmy_rec N
  ⟨(by intro g axt_0 cxt_0 xt xat hRxt_0 hG0 hp; exact (tmy_ok N ih.1 ih.2 xt xat hRxt_0 hG0 _ (tmy_F N xt xat hp)).gives (by rintro g' H' v _ ⟨r0, rfl, rfl, hK⟩; subst hK; rfl)), (by intro g axl_0 cxl_0 xl hRxl_0 hG0 hp; exact (pmy_ok N ih.1 ih.2 xl hRxl_0 hG0 _ (pmy_F N xl hp)).gives (by rintro g' H' v _ ⟨r0, rfl, rfl, hK⟩; subst hK; rfl))⟩
def pmyPE (xl : List PH) : Prop := ∃ N, pmyP N xl
theorem pmy_c {g : Ghost} {axl_0 : Option Addr} {cxl_0 : Nat} (xl : List PH) (hRxl_0 : Rep g (.slice yP) [.slice axl_0 xl.length cxl_0] xl) (hG0 : SomeInt g 0)  (hp : pmyPE xl) : CallsG Tryz.prog 18 #[.slice axl_0 xl.length cxl_0] g (.bool (ptsS xl)) := by
 obtain ⟨N, hp⟩ := hp
 exact (tmy_rec N).2 _ xl hRxl_0 hG0 hp
end Go.Proofs.YtcnhdkhkadiohaaGreatDoor.Se
