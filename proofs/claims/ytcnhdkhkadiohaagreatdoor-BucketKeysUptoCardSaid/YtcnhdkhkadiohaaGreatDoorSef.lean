/- selector: what is wrong with a test, with paths, by the program. -/
import Derived.Test.YtcnhdkhkadiohaaGreatDoorSed
namespace Go.Proofs.YtcnhdkhkadiohaaGreatDoor.Se
open Go Go.Eng Go.RowKit Bld Trm Css Tk Ti
set_option maxHeartbeats 4000000
set_option maxRecDepth 100000
set_option linter.unusedSimpArgs false
set_option linter.unusedVariables false
def l0 (x : Lb) (i : Int) : Bool := ((decide (x.1 < 1)) || ((decide (x.1 > 11)) || (((decide (x.1 ≤ 2)) && (decide (i > 0))) || ((!(((decide (x.1 ≥ 2)) && (decide (x.1 ≤ 5))) == !(x.2.1 == ([] : Bs)))) || (((decide (x.1 ≥ 2)) && (decide (x.1 ≤ 5))) && (!(plainS x.2.1)))))))
def l1 (x : Lb) : Bool := (if (x.1 == 2) = true then !(x.2.1 == (lowerS x.2.1)) else ((x.1 == 5) && (!(x.2.1 == (lowerS x.2.1)))))
def l2 (x : Lb) : Bool := (if (x.2.2.1 != 0) = true then ((x.1 != 5) || ((!(hbyS ([61, 126, 124, 94, 36, 42] : Bs) x.2.2.1)) || ((x.2.2.1 == 0) && (!(x.2.2.2.1 == ([] : Bs)))))) else ((x.2.2.1 == 0) && (!(x.2.2.2.1 == ([] : Bs)))))
def l3 (x : Lb) : Bool := (if (!((x.1 == 8) || (x.1 == 9))) = true then ((x.2.2.2.2.1 != 0) || ((x.2.2.2.2.2 != 0) || ((decide ((if x.2.2.2.2.2 < x.2.2.2.2.1 then x.2.2.2.2.2 else x.2.2.2.2.1) < (-1000))) || (decide ((if x.2.2.2.2.1 < x.2.2.2.2.2 then x.2.2.2.2.2 else x.2.2.2.2.1) > 1000))))) else ((decide ((if x.2.2.2.2.2 < x.2.2.2.2.1 then x.2.2.2.2.2 else x.2.2.2.2.1) < (-1000))) || (decide ((if x.2.2.2.2.1 < x.2.2.2.2.2 then x.2.2.2.2.2 else x.2.2.2.2.1) > 1000))))
def labS (x : Lb) (i : Int) : Bool := !(l0 x i) && (!(l1 x) && (!(l2 x) && !(l3 x)))
def jnB (z : Int) : Bool := hbyS ([32, 62, 43, 126] : Bs) z
mutual
def okT : Ts → Int → Bool
 | .mk x l, i => labS x i && (if ((x.1 == 10) || (x.1 == 11)) = true then ok3 l && decide ((l.length : Int) > 0) else ((l.length : Int) == 0))
def ok3 : List Ph → Bool
 | [] => true
 | (p, js) :: l => !(((p.length : Int) == 0) || ((js.length : Int) != (p.length : Int) - 1)) && (ok2 p && (js.all jnB && ok3 l))
def ok2 : List (List Ts) → Bool
 | [] => true
 | s :: l => ok1 s 0 && (!((s.length : Int) == 0) && ok2 l)
def ok1 : List Ts → Int → Bool
 | [], _ => true
 | t :: l, i => okT t i && ok1 l (i + 1)
end
def tstS (t : Ts) (i : Int) : Bool := okT t i
def ptsS (l : List Ph) : Bool := ok3 l && decide ((l.length : Int) > 0)
theorem okT_eq (t : Ts) (i : Int) : okT t i = (labS t.lab i && (if ((t.lab.1 == 10) || (t.lab.1 == 11)) = true then ptsS t.kids else ((t.kids.length : Int) == 0))) := by obtain ⟨x, l⟩ := t; rw [okT]; rfl
theorem ok3_cons (q : Ph) (l : List Ph) : ok3 (q :: l) = (!(((q.1.length : Int) == 0) || ((q.2.length : Int) != (q.1.length : Int) - 1)) && (ok2 q.1 && (q.2.all jnB && ok3 l))) := by obtain ⟨p, js⟩ := q; rw [ok3]
def tstP (N : Nat) (t : Ts) (i : Int) : Prop := bT t < N ∧ bT t ≤ 1048600 ∧ okB t
def ptsP (N : Nat) (l : List Ph) : Prop := b3 l < N ∧ b3 l ≤ 1048600 ∧ okB3 l
theorem ptsP_in {N : Nat} {l : List Ph} (h : ptsP (N + 1) l) {q : Ph} (hq : q ∈ l) {s : List Ts} (hs : s ∈ q.1) {t : Ts} (ht : t ∈ s) (i : Int) : tstP N t i := by
 have h1 := w3_in hq
 have h2 := w2_in hs
 have h3 := w1_in ht
 have h5 := b3_eq l
 obtain ⟨a, b, c⟩ := h
 exact ⟨by omega, by omega, (c q hq).2 s hs t ht⟩
theorem tstP_kids {N : Nat} {t : Ts} {i : Int} (h : tstP (N + 1) t i) : ptsP N t.kids := by
 have := bT_kids t
 obtain ⟨a, b, c⟩ := h
 exact ⟨by omega, by omega, (okB_kids c).2⟩
def tst_C (N : Nat) : Prop := ∀ (g : Ghost) {axt_0 : Option Addr} {cxt_0 : Nat} (xt : TS) (xat : Int) (hRxt_0 : Rep g (.slice yP) [.slice axt_0 xt.kids.length cxt_0] xt.kids) (hG0 : SomeInt g 0)  (hp : tstP N xt xat), CallsG Tryz.prog 50 #[.agg (aL xt.lab axt_0 xt.kids.length cxt_0), iv xat] g (.bool (tstS xt xat))
def pts_C (N : Nat) : Prop := ∀ (g : Ghost) {axl_0 : Option Addr} {cxl_0 : Nat} (xl : List PH) (hRxl_0 : Rep g (.slice yP) [.slice axl_0 xl.length cxl_0] xl) (hG0 : SomeInt g 0)  (hp : ptsP N xl), CallsG Tryz.prog 32 #[.slice axl_0 xl.length cxl_0] g (.bool (ptsS xl))
def tstV0 (xt : TS) (xat : Int) : Bool :=
 ((decide (xt.lab.1 < 1)) || ((decide (xt.lab.1 > 11)) || (((decide (xt.lab.1 ≤ 2)) && (decide (xat > 0))) || ((!(((decide (xt.lab.1 ≥ 2)) && (decide (xt.lab.1 ≤ 5))) == !(xt.lab.2.1 == ([] : Bs)))) || (((decide (xt.lab.1 ≥ 2)) && (decide (xt.lab.1 ≤ 5))) && (!(plainS xt.lab.2.1)))))))
def tstV1 (xt : TS) : Bool :=
 (if (xt.lab.1 == 2) = true then !(xt.lab.2.1 == (lowerS xt.lab.2.1)) else ((xt.lab.1 == 5) && (!(xt.lab.2.1 == (lowerS xt.lab.2.1)))))
def tstV2 (xt : TS) : Bool :=
 (if (xt.lab.2.2.1 != 0) = true then ((xt.lab.1 != 5) || ((decide ((ibS ([61, 126, 124, 94, 36, 42] : Bs) xt.lab.2.2.1) < 0)) || ((xt.lab.2.2.1 == 0) && (!(xt.lab.2.2.2.1 == ([] : Bs)))))) else ((xt.lab.2.2.1 == 0) && (!(xt.lab.2.2.2.1 == ([] : Bs)))))
def tstV3 (xt : TS) : Bool :=
 (if (!((xt.lab.1 == 8) || (xt.lab.1 == 9))) = true then ((xt.lab.2.2.2.2.1 != 0) || ((xt.lab.2.2.2.2.2 != 0) || ((decide ((if xt.lab.2.2.2.2.2 < xt.lab.2.2.2.2.1 then xt.lab.2.2.2.2.2 else xt.lab.2.2.2.2.1) < (-1000))) || (decide ((if xt.lab.2.2.2.2.1 < xt.lab.2.2.2.2.2 then xt.lab.2.2.2.2.2 else xt.lab.2.2.2.2.1) > 1000))))) else ((decide ((if xt.lab.2.2.2.2.2 < xt.lab.2.2.2.2.1 then xt.lab.2.2.2.2.2 else xt.lab.2.2.2.2.1) < (-1000))) || (decide ((if xt.lab.2.2.2.2.1 < xt.lab.2.2.2.2.2 then xt.lab.2.2.2.2.2 else xt.lab.2.2.2.2.1) > 1000))))
def tstj3i117 (N : Nat) (xt : TS) (K : Bool → Prop) : Prop :=
 ((((xt.lab.1 == 10) || (xt.lab.1 == 11))) = true → ptsP N xt.kids ∧ K (ptsS xt.kids)) ∧ ((((xt.lab.1 == 10) || (xt.lab.1 == 11))) = false → K ((xt.kids.length : Int) == 0))
def tstj30 (N : Nat) (xt : TS) (K : Bool → Prop) : Prop :=
 (((tstV3 xt)) = true → K false) ∧ (((tstV3 xt)) = false → (((xt.lab.1 == 10)) = true → tstj3i117 N xt K) ∧ (((xt.lab.1 == 10)) = false → tstj3i117 N xt K))
def tstj3i88 (N : Nat) (xt : TS) (K : Bool → Prop) : Prop :=
 ((!((xt.lab.1 == 8) || (xt.lab.1 == 9))) = true → (((xt.lab.2.2.2.2.1 != 0)) = true → tstj30 N xt K) ∧ (((xt.lab.2.2.2.2.1 != 0)) = false → (((xt.lab.2.2.2.2.2 != 0)) = true → tstj30 N xt K) ∧ (((xt.lab.2.2.2.2.2 != 0)) = false → ((decide ((if xt.lab.2.2.2.2.2 < xt.lab.2.2.2.2.1 then xt.lab.2.2.2.2.2 else xt.lab.2.2.2.2.1) < (-1000))) = true → tstj30 N xt K) ∧ ((decide ((if xt.lab.2.2.2.2.2 < xt.lab.2.2.2.2.1 then xt.lab.2.2.2.2.2 else xt.lab.2.2.2.2.1) < (-1000))) = false → tstj30 N xt K)))) ∧ ((!((xt.lab.1 == 8) || (xt.lab.1 == 9))) = false → ((decide ((if xt.lab.2.2.2.2.2 < xt.lab.2.2.2.2.1 then xt.lab.2.2.2.2.2 else xt.lab.2.2.2.2.1) < (-1000))) = true → tstj30 N xt K) ∧ ((decide ((if xt.lab.2.2.2.2.2 < xt.lab.2.2.2.2.1 then xt.lab.2.2.2.2.2 else xt.lab.2.2.2.2.1) < (-1000))) = false → tstj30 N xt K))
def tstj22 (N : Nat) (xt : TS) (K : Bool → Prop) : Prop :=
 (((tstV2 xt)) = true → K false) ∧ (((tstV2 xt)) = false → (((xt.lab.1 == 8)) = true → tstj3i88 N xt K) ∧ (((xt.lab.1 == 8)) = false → tstj3i88 N xt K))
def tstj14 (N : Nat) (xt : TS) (K : Bool → Prop) : Prop :=
 (((tstV1 xt)) = true → K false) ∧ (((tstV1 xt)) = false → (((xt.lab.2.2.1 != 0)) = true → (((xt.lab.1 != 5)) = true → tstj22 N xt K) ∧ (((xt.lab.1 != 5)) = false → ((decide ((ibS ([61, 126, 124, 94, 36, 42] : Bs) xt.lab.2.2.1) < 0)) = true → tstj22 N xt K) ∧ ((decide ((ibS ([61, 126, 124, 94, 36, 42] : Bs) xt.lab.2.2.1) < 0)) = false → (((xt.lab.2.2.1 == 0)) = true → tstj22 N xt K) ∧ (((xt.lab.2.2.1 == 0)) = false → tstj22 N xt K)))) ∧ (((xt.lab.2.2.1 != 0)) = false → (((xt.lab.2.2.1 == 0)) = true → tstj22 N xt K) ∧ (((xt.lab.2.2.1 == 0)) = false → tstj22 N xt K)))
def tstj6 (N : Nat) (xt : TS) (xat : Int) (K : Bool → Prop) : Prop :=
 (((tstV0 xt xat)) = true → K false) ∧ (((tstV0 xt xat)) = false → (((xt.lab.1 == 2)) = true → lowerP xt.lab.2.1 ∧ tstj14 N xt K) ∧ (((xt.lab.1 == 2)) = false → (((xt.lab.1 == 5)) = true → lowerP xt.lab.2.1 ∧ tstj14 N xt K) ∧ (((xt.lab.1 == 5)) = false → tstj14 N xt K)))
def tstj3 (N : Nat) (xt : TS) (xat : Int) (K : Bool → Prop) : Prop :=
 ((decide (xt.lab.1 < 1)) = true → tstj6 N xt xat K) ∧ ((decide (xt.lab.1 < 1)) = false → ((decide (xt.lab.1 > 11)) = true → tstj6 N xt xat K) ∧ ((decide (xt.lab.1 > 11)) = false → ((((decide (xt.lab.1 ≤ 2)) && (decide (xat > 0)))) = true → tstj6 N xt xat K) ∧ ((((decide (xt.lab.1 ≤ 2)) && (decide (xat > 0)))) = false → ((!(((decide (xt.lab.1 ≥ 2)) && (decide (xt.lab.1 ≤ 5))) == !(xt.lab.2.1 == ([] : Bs)))) = true → tstj6 N xt xat K) ∧ ((!(((decide (xt.lab.1 ≥ 2)) && (decide (xt.lab.1 ≤ 5))) == !(xt.lab.2.1 == ([] : Bs)))) = false → ((((decide (xt.lab.1 ≥ 2)) && (decide (xt.lab.1 ≤ 5)))) = true → cutP xt.lab.2.1 ∧ tstj6 N xt xat K) ∧ ((((decide (xt.lab.1 ≥ 2)) && (decide (xt.lab.1 ≤ 5)))) = false → tstj6 N xt xat K)))))
def tstF (N : Nat) (xt : TS) (xat : Int) (K : Bool → Prop) : Prop :=
 ((decide (xt.lab.1 ≥ 2)) = true → tstj3 N xt xat K) ∧ ((decide (xt.lab.1 ≥ 2)) = false → tstj3 N xt xat K)
theorem tst_ok {g : Ghost} (N : Nat) (ih_tst : tst_C N) (ih_pts : pts_C N) {axt_0 : Option Addr} {cxt_0 : Nat} (xt : TS) (xat : Int) (hRxt_0 : Rep g (.slice yP) [.slice axt_0 xt.kids.length cxt_0] xt.kids) (hG0 : SomeInt g 0) (K : Bool → Prop)
  (hF : tstF N xt xat K) : CallsH Tryz.prog 50 #[.agg (aL xt.lab axt_0 xt.kids.length cxt_0), iv xat] g [] (fun g' H' v => ∃ (r0 : Bool), v = .bool r0 ∧ H' = [] ∧ K r0) := by
 refine CallsH.enter 125 [(0, .agg (aL xt.lab axt_0 xt.kids.length cxt_0)), (1, iv xat)] Tryz.func50 rfl kr kr kr fun w0 => ?_
 refine Ok.sr ((Ok.op rfl (OpOk.box (v := .agg (aL xt.lab axt_0 xt.kids.length cxt_0)) (cs := (aL xt.lab axt_0 xt.kids.length cxt_0)) rfl kr rfl fun bs2 => ?_)))
 refine Ok.B 1 [(1, iv xat), (2, pv bs2 0)] kr (Ok.nt ((Ok.cut (fun a W => StA 125 [(1, iv xat), (2, pv bs2 0), (5, .bool ((decide (xt.lab.1 ≥ 2)) && (decide (xt.lab.1 ≤ 5))))] a ∧ StW w0 [.blk bs2 (.cells (aL xt.lab axt_0 xt.kids.length cxt_0) 48)] g W ∧ tstj3 N xt xat K) ?_ ?_)))
 ·
  refine Ok.r (Ok.b 1 [1, 2] [(6, pv bs2 0)] ?_)
  refine Ok.op rfl (OpOk.s (v := iv xt.lab.1) (Yields.l 0 rfl rfl Tryz.underlying3 rfl kr) rfl rfl (Ok.b 2 [1, 2] [(9, .bool (decide (xt.lab.1 ≥ 2)))] ?_))
  refine Ok.a 9 (decide (xt.lab.1 ≥ 2)) rfl (fun X0 => ?_) (fun X0 => ?_)
  ·replace hF := hF.1 X0
   refine Ok.b 1 [1, 2] [(9, .bool true), (10, pv bs2 0)] ?_
   refine Ok.y (j := 3) (d := 9) (want := true) (b := true) rfl kr kr rfl (OpOk.s (v := iv xt.lab.1) (Yields.l 0 rfl rfl Tryz.underlying3 rfl kr) rfl rfl (Ok.b 3 [1, 2] [(5, .bool (decide (xt.lab.1 ≤ 5)))] ?_))
   refine Ok.nt ((Ok.v 5 rfl (show (.bool (decide (xt.lab.1 ≤ 5)) : Value) = .bool ((decide (xt.lab.1 ≥ 2)) && (decide (xt.lab.1 ≤ 5))) from congrArg (Value.bool) (mand_t X0)) ?_))
   exact fun a W hA hW => ⟨hA.sub kr, hW, hF⟩
  replace hF := hF.2 X0
  refine Ok.b 5 [1, 2] [(5, .bool false)] ?_
  refine Ok.nt ((Ok.v 5 rfl (show (.bool false : Value) = .bool ((decide (xt.lab.1 ≥ 2)) && (decide (xt.lab.1 ≤ 5))) from congrArg (Value.bool) (mand_f X0)) ?_))
  exact fun a W hA hW => ⟨hA.sub kr, hW, hF⟩
 clear hF
 rintro a W ⟨hA, hW, hF⟩
 refine (?_ : Ok _ _ _ _ _ _) a W hA hW
 clear hA hW
 refine Ok.q (Ok.cut (fun a W => StA 125 [(2, pv bs2 0), (46, .bool (tstV0 xt xat))] a ∧ StW w0 [.blk bs2 (.cells (aL xt.lab axt_0 xt.kids.length cxt_0) 48)] g W ∧ tstj6 N xt xat K) ?_ ?_)
 ·
  refine Ok.r (Ok.b 1 [1, 2, 5] [(14, pv bs2 0)] ?_)
  refine Ok.op rfl (OpOk.s (v := iv xt.lab.1) (Yields.l 0 rfl rfl Tryz.underlying3 rfl kr) rfl rfl (Ok.b 2 [1, 2, 5] [(17, .bool (decide (xt.lab.1 < 1)))] ?_))
  refine Ok.a 17 (decide (xt.lab.1 < 1)) rfl (fun e0 => ?_) (fun e0 => ?_)
  ·replace hF := hF.1 e0
   refine Ok.b 29 [2] [(46, .bool true)] ?_
   refine Ok.nt ((Ok.v 46 rfl (show (.bool true : Value) = .bool (tstV0 xt xat) from congrArg (Value.bool) (mor_t e0)) ?_))
   exact fun a W hA hW => ⟨hA.sub kr, hW, hF⟩
  replace hF := hF.2 e0
  refine Ok.b 1 [1, 2, 5] [(17, .bool false), (18, pv bs2 0)] ?_
  refine Ok.y (j := 3) (d := 17) (want := false) (b := false) rfl kr kr rfl (OpOk.s (v := iv xt.lab.1) (Yields.l 0 rfl rfl Tryz.underlying3 rfl kr) rfl rfl (Ok.b 3 [1, 2, 5] [(22, .bool (decide (xt.lab.1 > 11)))] ?_))
  refine Ok.a 22 (decide (xt.lab.1 > 11)) rfl (fun t0 => ?_) (fun t0 => ?_)
  ·replace hF := hF.1 t0
   refine Ok.b 24 [2] [(46, .bool true)] ?_
   refine Ok.nt ((Ok.v 46 rfl (show (.bool true : Value) = .bool (tstV0 xt xat) from congrArg (Value.bool) ((Eq.trans (mor_t t0) (mor_f e0)))) ?_))
   exact fun a W hA hW => ⟨hA.sub kr, hW, hF⟩
  replace hF := hF.2 t0
  refine Ok.b 1 [1, 2, 5] [(22, .bool false), (23, pv bs2 0)] ?_
  refine Ok.y (j := 8) (d := 22) (want := false) (b := false) rfl kr kr rfl (OpOk.s (v := iv xt.lab.1) (Yields.l 0 rfl rfl Tryz.underlying3 rfl kr) rfl rfl (Ok.b 2 [1, 2, 5, 22] [(26, .bool (decide (xt.lab.1 ≤ 2)))] ?_))
  refine Ok.w 3 [(2, pv bs2 0), (5, .bool ((decide (xt.lab.1 ≥ 2)) && (decide (xt.lab.1 ≤ 5)))), (22, .bool false), (29, .bool ((decide (xt.lab.1 ≤ 2)) && (decide (xat > 0))))] (fun M0 => ?_) ?_
  ·refine Ok.a 26 (decide (xt.lab.1 ≤ 2)) rfl (fun F0 => ?_) (fun F0 => ?_)
   ·skip
    refine Ok.b 3 [2, 5, 22] [(29, .bool (decide (xat > 0)))] ?_
    refine Ok.v 29 rfl (show (.bool (decide (xat > 0)) : Value) = .bool ((decide (xt.lab.1 ≤ 2)) && (decide (xat > 0))) from congrArg Value.bool (mand_t F0)) (Ok.b 0 [2, 5, 22] [(29, .bool ((decide (xt.lab.1 ≤ 2)) && (decide (xat > 0))))] ?_)
    exact M0
   skip
   refine Ok.b 3 [2, 5, 22] [(29, .bool false)] ?_
   refine Ok.v 29 rfl (show (.bool false : Value) = .bool ((decide (xt.lab.1 ≤ 2)) && (decide (xat > 0))) from congrArg Value.bool (mand_f F0)) (Ok.b 0 [2, 5, 22] [(29, .bool ((decide (xt.lab.1 ≤ 2)) && (decide (xat > 0))))] ?_)
   exact M0
  refine Ok.b 2 [2, 5] [(31, .bool ((decide (xt.lab.1 ≤ 2)) && (decide (xat > 0))))] ?_
  refine Ok.a 31 (((decide (xt.lab.1 ≤ 2)) && (decide (xat > 0)))) rfl (fun Z0 => ?_) (fun Z0 => ?_)
  ·replace hF := hF.1 Z0
   refine Ok.b 15 [2] [(46, .bool true)] ?_
   refine Ok.nt ((Ok.v 46 rfl (show (.bool true : Value) = .bool (tstV0 xt xat) from congrArg (Value.bool) ((Eq.trans ((Eq.trans (mor_t Z0) (mor_f t0))) (mor_f e0)))) ?_))
   exact fun a W hA hW => ⟨hA.sub kr, hW, hF⟩
  replace hF := hF.2 Z0
  refine Ok.b 2 [2, 5] [(31, .bool false), (32, .bool ((decide (xt.lab.1 ≥ 2)) && (decide (xt.lab.1 ≤ 5)))), (33, pv bs2 1)] ?_
  refine Ok.y (j := 17) (d := 31) (want := false) (b := false) rfl kr kr rfl (OpOk.s (v := sv xt.lab.2.1) (Yields.l 0 rfl rfl Tryz.underlying9 rfl kr) rfl rfl (Ok.y (j := 17) (d := 31) (want := false) (b := false) rfl kr kr rfl (OpOk.s (v := .bool (!(xt.lab.2.1 == ([] : Bs)))) (Yields.sc (f := .neq) (a := xt.lab.2.1) (b := ([] : Bs)) kr kr rfl) rfl rfl (Ok.b 3 [2, 5] [(38, .bool (!(((decide (xt.lab.1 ≥ 2)) && (decide (xt.lab.1 ≤ 5))) == !(xt.lab.2.1 == ([] : Bs)))))] ?_))))
  refine Ok.a 38 (!(((decide (xt.lab.1 ≥ 2)) && (decide (xt.lab.1 ≤ 5))) == !(xt.lab.2.1 == ([] : Bs)))) rfl (fun U0 => ?_) (fun U0 => ?_)
  ·replace hF := hF.1 U0
   refine Ok.b 8 [2] [(46, .bool true)] ?_
   refine Ok.nt ((Ok.v 46 rfl (show (.bool true : Value) = .bool (tstV0 xt xat) from congrArg (Value.bool) ((Eq.trans ((Eq.trans ((Eq.trans (mor_t U0) (mor_f Z0))) (mor_f t0))) (mor_f e0)))) ?_))
   exact fun a W hA hW => ⟨hA.sub kr, hW, hF⟩
  replace hF := hF.2 U0
  refine Ok.b 2 [2] [(38, .bool false), (40, .bool ((decide (xt.lab.1 ≥ 2)) && (decide (xt.lab.1 ≤ 5))))] ?_
  refine Ok.a 40 (((decide (xt.lab.1 ≥ 2)) && (decide (xt.lab.1 ≤ 5)))) rfl (fun S0 => ?_) (fun S0 => ?_)
  ·replace hF := hF.1 S0
   refine Ok.b 1 [2, 38] [(40, .bool true), (41, pv bs2 1)] ?_
   refine Ok.y (j := 26) (d := 40) (want := true) (b := true) rfl kr kr rfl (OpOk.s (v := sv xt.lab.2.1) (Yields.l 0 rfl rfl Tryz.underlying9 rfl kr) rfl rfl ?_)
   obtain ⟨hp33, hF⟩ := hF
   refine Ok.y (j := 26) (d := 40) (want := true) (b := true) rfl kr kr rfl (OpOk.f enr (fun W hW => snm_c xt.lab.2.1 (hG0.mono hW.sees) hp33) rfl ?_)
   refine Ok.b 3 [2] [(46, .bool (!(plainS xt.lab.2.1)))] ?_
   refine Ok.nt ((Ok.v 46 rfl (show (.bool (!(plainS xt.lab.2.1)) : Value) = .bool (tstV0 xt xat) from congrArg (Value.bool) ((Eq.trans ((Eq.trans ((Eq.trans ((Eq.trans (mand_t S0) (mor_f U0))) (mor_f Z0))) (mor_f t0))) (mor_f e0)))) ?_))
   exact fun a W hA hW => ⟨hA.sub kr, hW, hF⟩
  replace hF := hF.2 S0
  refine Ok.b 6 [2] [(46, .bool false)] ?_
  refine Ok.nt ((Ok.v 46 rfl (show (.bool false : Value) = .bool (tstV0 xt xat) from congrArg (Value.bool) ((Eq.trans ((Eq.trans ((Eq.trans ((Eq.trans (mand_f S0) (mor_f U0))) (mor_f Z0))) (mor_f t0))) (mor_f e0)))) ?_))
  exact fun a W hA hW => ⟨hA.sub kr, hW, hF⟩
 clear hF
 rintro a W ⟨hA, hW, hF⟩
 refine (?_ : Ok _ _ _ _ _ _) a W hA hW
 clear hA hW
 refine Ok.cn hF rfl (fun hc2 => ?_) (fun hc2 => ?_)
 ·replace hF := hF.1 hc2
  refine Ok.sr ((Ok.B 1 [(4, .bool false)] kr (Ok.nt ((Ok.ret (Ok.tr ?_))))))
  exact Ok.p (vs := [.bool false]) [] [] dc rfl (.inl rfl) rfl (.cons (.tmp rfl) .nil) (Gext.r w0 g) ⟨false, rfl, rfl, hF⟩
 replace hF := hF.2 hc2
 refine Ok.k (Ok.t (Ok.q (Ok.cut (fun a W => StA 125 [(2, pv bs2 0), (62, .bool (tstV1 xt))] a ∧ StW w0 [.blk bs2 (.cells (aL xt.lab axt_0 xt.kids.length cxt_0) 48)] g W ∧ tstj14 N xt K) ?_ ?_)))
 ·
  refine Ok.quiet' kr kr (OkQ.b 1 [2] [(47, pv bs2 0)] ?_)
  refine OkQ.op rfl (OpQ.s (v := iv xt.lab.1) (Yields.l 0 rfl rfl Tryz.underlying3 rfl kr) rfl rfl (OkQ.b 2 [2] [(50, .bool (xt.lab.1 == 2))] ?_))
  refine OkQ.boolAt 50 ((xt.lab.1 == 2)) rfl (fun J0 => ?_) (fun J0 => ?_)
  ·replace hF := hF.1 J0
   refine OkQ.b 6 [2] [(55, .bool true), (56, pv bs2 1)] ?_
   refine OkQ.y (j := 8) (d := 55) (want := true) (b := true) rfl kr kr rfl (OpQ.s (v := sv xt.lab.2.1) (Yields.l 0 rfl rfl Tryz.underlying9 rfl kr) rfl rfl (OkQ.b 1 [2, 55] [(57, sv xt.lab.2.1), (58, pv bs2 1)] ?_))
   refine OkQ.y (j := 8) (d := 55) (want := true) (b := true) rfl kr kr rfl (OpQ.s (v := sv xt.lab.2.1) (Yields.l 0 rfl rfl Tryz.underlying9 rfl kr) rfl rfl ?_)
   obtain ⟨hp23, hF⟩ := hF
   refine OkQ.y (j := 8) (d := 55) (want := true) (b := true) rfl kr kr rfl (OpQ.f enr (fun W hW => slw_c xt.lab.2.1 hp23) rfl ?_)
   refine OkQ.y (j := 8) (d := 55) (want := true) (b := true) rfl kr kr rfl (OpQ.s (v := .bool (!(xt.lab.2.1 == (lowerS xt.lab.2.1)))) (Yields.sc (f := .neq) (a := xt.lab.2.1) (b := (lowerS xt.lab.2.1)) kr kr rfl) rfl rfl (OkQ.b 1 [2] [(62, .bool (!(xt.lab.2.1 == (lowerS xt.lab.2.1))))] ?_))
   refine OkQ.j (Ok.t (Ok.v 62 rfl (show (.bool (!(xt.lab.2.1 == (lowerS xt.lab.2.1))) : Value) = .bool (tstV1 xt) from congrArg (Value.bool) ((if_t J0).symm)) ?_))
   exact fun a W hA hW => ⟨hA.sub kr, hW, hF⟩
  replace hF := hF.2 J0
  refine OkQ.b 1 [2] [(50, .bool false), (51, pv bs2 0)] ?_
  refine OkQ.y (j := 3) (d := 50) (want := false) (b := false) rfl kr kr rfl (OpQ.s (v := iv xt.lab.1) (Yields.l 0 rfl rfl Tryz.underlying3 rfl kr) rfl rfl (OkQ.b 3 [2] [(55, .bool (xt.lab.1 == 5))] ?_))
  refine OkQ.boolAt 55 ((xt.lab.1 == 5)) rfl (fun B0 => ?_) (fun B0 => ?_)
  ·replace hF := hF.1 B0
   refine OkQ.b 1 [2] [(55, .bool true), (56, pv bs2 1)] ?_
   refine OkQ.y (j := 8) (d := 55) (want := true) (b := true) rfl kr kr rfl (OpQ.s (v := sv xt.lab.2.1) (Yields.l 0 rfl rfl Tryz.underlying9 rfl kr) rfl rfl (OkQ.b 1 [2, 55] [(57, sv xt.lab.2.1), (58, pv bs2 1)] ?_))
   refine OkQ.y (j := 8) (d := 55) (want := true) (b := true) rfl kr kr rfl (OpQ.s (v := sv xt.lab.2.1) (Yields.l 0 rfl rfl Tryz.underlying9 rfl kr) rfl rfl ?_)
   obtain ⟨hp25, hF⟩ := hF
   refine OkQ.y (j := 8) (d := 55) (want := true) (b := true) rfl kr kr rfl (OpQ.f enr (fun W hW => slw_c xt.lab.2.1 hp25) rfl ?_)
   refine OkQ.y (j := 8) (d := 55) (want := true) (b := true) rfl kr kr rfl (OpQ.s (v := .bool (!(xt.lab.2.1 == (lowerS xt.lab.2.1)))) (Yields.sc (f := .neq) (a := xt.lab.2.1) (b := (lowerS xt.lab.2.1)) kr kr rfl) rfl rfl (OkQ.b 1 [2] [(62, .bool (!(xt.lab.2.1 == (lowerS xt.lab.2.1))))] ?_))
   refine OkQ.j (Ok.t (Ok.v 62 rfl (show (.bool (!(xt.lab.2.1 == (lowerS xt.lab.2.1))) : Value) = .bool (tstV1 xt) from congrArg (Value.bool) ((Eq.trans (mand_t B0) ((if_f J0).symm)))) ?_))
   exact fun a W hA hW => ⟨hA.sub kr, hW, hF⟩
  replace hF := hF.2 B0
  refine OkQ.b 7 [2] [(62, .bool false)] ?_
  refine OkQ.j (Ok.t (Ok.v 62 rfl (show (.bool false : Value) = .bool (tstV1 xt) from congrArg (Value.bool) ((Eq.trans (mand_f B0) ((if_f J0).symm)))) ?_))
  exact fun a W hA hW => ⟨hA.sub kr, hW, hF⟩
 clear hF
 rintro a W ⟨hA, hW, hF⟩
 refine (?_ : Ok _ _ _ _ _ _) a W hA hW
 clear hA hW
 refine Ok.cn hF rfl (fun hc3 => ?_) (fun hc3 => ?_)
 ·replace hF := hF.1 hc3
  refine Ok.sr ((Ok.B 1 [(4, .bool false)] kr (Ok.nt ((Ok.ret (Ok.tr ?_))))))
  exact Ok.p (vs := [.bool false]) [] [] dc rfl (.inl rfl) rfl (.cons (.tmp rfl) .nil) (Gext.r w0 g) ⟨false, rfl, rfl, hF⟩
 replace hF := hF.2 hc3
 refine Ok.k (Ok.t (Ok.q (Ok.cut (fun a W => StA 125 [(2, pv bs2 0), (86, .bool (tstV2 xt))] a ∧ StW w0 [.blk bs2 (.cells (aL xt.lab axt_0 xt.kids.length cxt_0) 48)] g W ∧ tstj22 N xt K) ?_ ?_)))
 ·
  refine Ok.r (Ok.b 1 [2] [(63, pv bs2 2)] ?_)
  refine Ok.op rfl (OpOk.s (v := .int .u8 xt.lab.2.2.1) (Yields.l 0 rfl rfl Tryz.underlying5 rfl kr) rfl rfl (Ok.b 2 [2] [(66, .bool (xt.lab.2.2.1 != 0))] ?_))
  refine Ok.a 66 ((xt.lab.2.2.1 != 0)) rfl (fun f0 => ?_) (fun f0 => ?_)
  ·replace hF := hF.1 f0
   refine Ok.b 1 [2] [(66, .bool true), (67, pv bs2 0)] ?_
   refine Ok.y (j := 3) (d := 66) (want := true) (b := true) rfl kr kr rfl (OpOk.s (v := iv xt.lab.1) (Yields.l 0 rfl rfl Tryz.underlying3 rfl kr) rfl rfl (Ok.b 2 [2, 66] [(70, .bool (xt.lab.1 != 5))] ?_))
   refine Ok.a 70 ((xt.lab.1 != 5)) rfl (fun V0 => ?_) (fun V0 => ?_)
   ·replace hF := hF.1 V0
    refine Ok.b 16 [2] [(86, .bool true)] ?_
    refine Ok.nt ((Ok.v 86 rfl (show (.bool true : Value) = .bool (tstV2 xt) from congrArg (Value.bool) ((Eq.trans (mor_t V0) ((if_t f0).symm)))) ?_))
    exact fun a W hA hW => ⟨hA.sub kr, hW, hF⟩
   replace hF := hF.2 V0
   refine Ok.b 1 [2, 66] [(70, .bool false), (71, pv bs2 2)] ?_
   refine Ok.y (j := 7) (d := 70) (want := false) (b := false) rfl kr kr rfl (OpOk.s (v := .int .u8 xt.lab.2.2.1) (Yields.l 0 rfl rfl Tryz.underlying5 rfl kr) rfl rfl (Ok.y (j := 7) (d := 70) (want := false) (b := false) rfl kr kr rfl (OpOk.f enr (fun W hW => ib_c ([61, 126, 124, 94, 36, 42] : Bs) xt.lab.2.2.1) rfl ?_)))
   refine Ok.b 4 [2] [(77, .bool (decide ((ibS ([61, 126, 124, 94, 36, 42] : Bs) xt.lab.2.2.1) < 0)))] ?_
   refine Ok.a 77 (decide ((ibS ([61, 126, 124, 94, 36, 42] : Bs) xt.lab.2.2.1) < 0)) rfl (fun d0 => ?_) (fun d0 => ?_)
   ·replace hF := hF.1 d0
    refine Ok.b 9 [2] [(86, .bool true)] ?_
    refine Ok.nt ((Ok.v 86 rfl (show (.bool true : Value) = .bool (tstV2 xt) from congrArg (Value.bool) ((Eq.trans ((Eq.trans (mor_t d0) (mor_f V0))) ((if_t f0).symm)))) ?_))
    exact fun a W hA hW => ⟨hA.sub kr, hW, hF⟩
   replace hF := hF.2 d0
   refine Ok.b 1 [2] [(77, .bool false), (78, pv bs2 2)] ?_
   refine Ok.y (j := 14) (d := 77) (want := false) (b := false) rfl kr kr rfl (OpOk.s (v := .int .u8 xt.lab.2.2.1) (Yields.l 0 rfl rfl Tryz.underlying5 rfl kr) rfl rfl (Ok.b 2 [2, 77] [(81, .bool (xt.lab.2.2.1 == 0))] ?_))
   refine Ok.a 81 ((xt.lab.2.2.1 == 0)) rfl (fun c0 => ?_) (fun c0 => ?_)
   ·replace hF := hF.1 c0
    refine Ok.b 1 [2, 77] [(81, .bool true), (82, pv bs2 3)] ?_
    refine Ok.y (j := 18) (d := 81) (want := true) (b := true) rfl kr kr rfl (OpOk.s (v := sv xt.lab.2.2.2.1) (Yields.l 0 rfl rfl Tryz.underlying9 rfl kr) rfl rfl (Ok.y (j := 18) (d := 81) (want := true) (b := true) rfl kr kr rfl (OpOk.s (v := .bool (!(xt.lab.2.2.2.1 == ([] : Bs)))) (Yields.sc (f := .neq) (a := xt.lab.2.2.2.1) (b := ([] : Bs)) kr kr rfl) rfl rfl (Ok.b 2 [2] [(86, .bool (!(xt.lab.2.2.2.1 == ([] : Bs))))] ?_))))
    refine Ok.nt ((Ok.v 86 rfl (show (.bool (!(xt.lab.2.2.2.1 == ([] : Bs))) : Value) = .bool (tstV2 xt) from congrArg (Value.bool) ((Eq.trans ((Eq.trans ((Eq.trans (mand_t c0) (mor_f d0))) (mor_f V0))) ((if_t f0).symm)))) ?_))
    exact fun a W hA hW => ⟨hA.sub kr, hW, hF⟩
   replace hF := hF.2 c0
   refine Ok.b 5 [2] [(86, .bool false)] ?_
   refine Ok.nt ((Ok.v 86 rfl (show (.bool false : Value) = .bool (tstV2 xt) from congrArg (Value.bool) ((Eq.trans ((Eq.trans ((Eq.trans (mand_f c0) (mor_f d0))) (mor_f V0))) ((if_t f0).symm)))) ?_))
   exact fun a W hA hW => ⟨hA.sub kr, hW, hF⟩
  replace hF := hF.2 f0
  refine Ok.b 12 [2] [(77, .bool false), (78, pv bs2 2)] ?_
  refine Ok.y (j := 14) (d := 77) (want := false) (b := false) rfl kr kr rfl (OpOk.s (v := .int .u8 xt.lab.2.2.1) (Yields.l 0 rfl rfl Tryz.underlying5 rfl kr) rfl rfl (Ok.b 2 [2, 77] [(81, .bool (xt.lab.2.2.1 == 0))] ?_))
  refine Ok.a 81 ((xt.lab.2.2.1 == 0)) rfl (fun C0 => ?_) (fun C0 => ?_)
  ·replace hF := hF.1 C0
   refine Ok.b 1 [2, 77] [(81, .bool true), (82, pv bs2 3)] ?_
   refine Ok.y (j := 18) (d := 81) (want := true) (b := true) rfl kr kr rfl (OpOk.s (v := sv xt.lab.2.2.2.1) (Yields.l 0 rfl rfl Tryz.underlying9 rfl kr) rfl rfl (Ok.y (j := 18) (d := 81) (want := true) (b := true) rfl kr kr rfl (OpOk.s (v := .bool (!(xt.lab.2.2.2.1 == ([] : Bs)))) (Yields.sc (f := .neq) (a := xt.lab.2.2.2.1) (b := ([] : Bs)) kr kr rfl) rfl rfl (Ok.b 2 [2] [(86, .bool (!(xt.lab.2.2.2.1 == ([] : Bs))))] ?_))))
   refine Ok.nt ((Ok.v 86 rfl (show (.bool (!(xt.lab.2.2.2.1 == ([] : Bs))) : Value) = .bool (tstV2 xt) from congrArg (Value.bool) ((Eq.trans (mand_t C0) ((if_f f0).symm)))) ?_))
   exact fun a W hA hW => ⟨hA.sub kr, hW, hF⟩
  replace hF := hF.2 C0
  refine Ok.b 5 [2] [(86, .bool false)] ?_
  refine Ok.nt ((Ok.v 86 rfl (show (.bool false : Value) = .bool (tstV2 xt) from congrArg (Value.bool) ((Eq.trans (mand_f C0) ((if_f f0).symm)))) ?_))
  exact fun a W hA hW => ⟨hA.sub kr, hW, hF⟩
 clear hF
 rintro a W ⟨hA, hW, hF⟩
 refine (?_ : Ok _ _ _ _ _ _) a W hA hW
 clear hA hW
 refine Ok.cn hF rfl (fun hc4 => ?_) (fun hc4 => ?_)
 ·replace hF := hF.1 hc4
  refine Ok.sr ((Ok.B 1 [(4, .bool false)] kr (Ok.nt ((Ok.ret (Ok.tr ?_))))))
  exact Ok.p (vs := [.bool false]) [] [] dc rfl (.inl rfl) rfl (.cons (.tmp rfl) .nil) (Gext.r w0 g) ⟨false, rfl, rfl, hF⟩
 replace hF := hF.2 hc4
 refine Ok.k (Ok.t (Ok.q (Ok.cut (fun a W => StA 125 [(2, pv bs2 0), (115, .bool (tstV3 xt))] a ∧ StW w0 [.blk bs2 (.cells (aL xt.lab axt_0 xt.kids.length cxt_0) 48)] g W ∧ tstj30 N xt K) ?_ ?_)))
 ·
  refine Ok.r (Ok.op rfl (OpOk.s (v := .agg (aL xt.lab axt_0 xt.kids.length cxt_0)) (Yields.loadAgg 0 7 (aL xt.lab axt_0 xt.kids.length cxt_0) rfl rfl Tryz.underlying48 rfl kr kr kr) rfl rfl (Ok.op rfl (OpOk.i (args := #[.agg (aL xt.lab axt_0 xt.kids.length cxt_0)]) 11 [(0, .agg (aL xt.lab axt_0 xt.kids.length cxt_0))] enr Tryz.func78 rfl rfl rfl rfl (Ok.sr ((Ok.op rfl (OpOk.box (v := .agg (aL xt.lab axt_0 xt.kids.length cxt_0)) (cs := (aL xt.lab axt_0 xt.kids.length cxt_0)) rfl kr rfl fun Q0 => ?_))))))))
  refine Ok.B 1 [(1, pv Q0 0)] kr (Ok.nt ((Ok.cut (fun a W => StA 11 [(2, .bool ((xt.lab.1 == 8) || (xt.lab.1 == 9)))] a ∧ StW w0 [.blk bs2 (.cells (aL xt.lab axt_0 xt.kids.length cxt_0) 48)] g W ∧ tstj3i88 N xt K) ?_ ?_)))
  ·
   refine Ok.r (Ok.b 1 [1] [(3, pv Q0 0)] ?_)
   refine Ok.op rfl (OpOk.s (v := iv xt.lab.1) (Yields.l 0 rfl rfl Tryz.underlying3 rfl kr) rfl rfl (Ok.b 2 [1] [(6, .bool (xt.lab.1 == 8))] ?_))
   refine Ok.a 6 ((xt.lab.1 == 8)) rfl (fun g0 => ?_) (fun g0 => ?_)
   ·replace hF := hF.1 g0
    refine Ok.B 5 [(2, .bool true)] kr (Ok.nt ((Ok.v 2 rfl (show (.bool true : Value) = .bool ((xt.lab.1 == 8) || (xt.lab.1 == 9)) from congrArg (Value.bool) (mor_t g0)) ?_)))
    exact fun a W hA hW => ⟨hA.sub kr, hW.sub (.cons _ (.cons_cons _ .slnil)), hF⟩
   replace hF := hF.2 g0
   refine Ok.B 1 [(6, .bool false), (7, pv Q0 0)] kr (Ok.y (j := 3) (d := 6) (want := false) (b := false) rfl kr kr rfl (OpOk.s (v := iv xt.lab.1) (Yields.l 0 rfl rfl Tryz.underlying3 rfl kr) rfl rfl (Ok.B 3 [(2, .bool (xt.lab.1 == 9))] kr (Ok.nt ((Ok.v 2 rfl (show (.bool (xt.lab.1 == 9) : Value) = .bool ((xt.lab.1 == 8) || (xt.lab.1 == 9)) from congrArg (Value.bool) (mor_f g0)) ?_))))))
   exact fun a W hA hW => ⟨hA.sub kr, hW.sub (.cons _ (.cons_cons _ .slnil)), hF⟩
  clear hF
  rintro a W ⟨hA, hW, hF⟩
  refine (?_ : Ok _ _ _ _ _ _) a W hA hW
  clear hA hW
  refine Ok.ret (Ok.back (vs := [.bool ((xt.lab.1 == 8) || (xt.lab.1 == 9))]) (.inl rfl) rfl (.cons (.tmp rfl) .nil) rfl (Ok.B 2 [(2, pv bs2 0), (90, .bool (!((xt.lab.1 == 8) || (xt.lab.1 == 9))))] kr (Ok.a 90 (!((xt.lab.1 == 8) || (xt.lab.1 == 9))) rfl (fun m0 => ?_) (fun m0 => ?_))))
  ·replace hF := hF.1 m0
   refine Ok.b 1 [2] [(90, .bool true), (91, pv bs2 4)] ?_
   refine Ok.y (j := 3) (d := 90) (want := true) (b := true) rfl kr kr rfl (OpOk.s (v := iv xt.lab.2.2.2.2.1) (Yields.l 0 rfl rfl Tryz.underlying3 rfl kr) rfl rfl (Ok.b 2 [2, 90] [(94, .bool (xt.lab.2.2.2.2.1 != 0))] ?_))
   refine Ok.a 94 ((xt.lab.2.2.2.2.1 != 0)) rfl (fun K0 => ?_) (fun K0 => ?_)
   ·replace hF := hF.1 K0
    refine Ok.b 21 [2] [(115, .bool true)] ?_
    refine Ok.nt ((Ok.v 115 rfl (show (.bool true : Value) = .bool (tstV3 xt) from congrArg (Value.bool) ((Eq.trans (mor_t K0) ((if_t m0).symm)))) ?_))
    exact fun a W hA hW => ⟨hA.sub kr, hW, hF⟩
   replace hF := hF.2 K0
   refine Ok.b 1 [2, 90] [(94, .bool false), (95, pv bs2 5)] ?_
   refine Ok.y (j := 7) (d := 94) (want := false) (b := false) rfl kr kr rfl (OpOk.s (v := iv xt.lab.2.2.2.2.2) (Yields.l 0 rfl rfl Tryz.underlying3 rfl kr) rfl rfl (Ok.b 4 [2] [(100, .bool (xt.lab.2.2.2.2.2 != 0))] ?_))
   refine Ok.a 100 ((xt.lab.2.2.2.2.2 != 0)) rfl (fun W0 => ?_) (fun W0 => ?_)
   ·replace hF := hF.1 W0
    refine Ok.b 15 [2] [(115, .bool true)] ?_
    refine Ok.nt ((Ok.v 115 rfl (show (.bool true : Value) = .bool (tstV3 xt) from congrArg (Value.bool) ((Eq.trans ((Eq.trans (mor_t W0) (mor_f K0))) ((if_t m0).symm)))) ?_))
    exact fun a W hA hW => ⟨hA.sub kr, hW, hF⟩
   replace hF := hF.2 W0
   refine Ok.b 1 [2] [(100, .bool false), (101, pv bs2 4)] ?_
   refine Ok.y (j := 13) (d := 100) (want := false) (b := false) rfl kr kr rfl (OpOk.s (v := iv xt.lab.2.2.2.2.1) (Yields.l 0 rfl rfl Tryz.underlying3 rfl kr) rfl rfl (Ok.b 1 [2, 100] [(102, iv xt.lab.2.2.2.2.1), (103, pv bs2 5)] ?_))
   refine Ok.y (j := 13) (d := 100) (want := false) (b := false) rfl kr kr rfl (OpOk.s (v := iv xt.lab.2.2.2.2.2) (Yields.l 0 rfl rfl Tryz.underlying3 rfl kr) rfl rfl (Ok.b 4 [2] [(108, .bool (decide ((if xt.lab.2.2.2.2.2 < xt.lab.2.2.2.2.1 then xt.lab.2.2.2.2.2 else xt.lab.2.2.2.2.1) < (-1000))))] ?_))
   refine Ok.a 108 (decide ((if xt.lab.2.2.2.2.2 < xt.lab.2.2.2.2.1 then xt.lab.2.2.2.2.2 else xt.lab.2.2.2.2.1) < (-1000))) rfl (fun n0 => ?_) (fun n0 => ?_)
   ·replace hF := hF.1 n0
    refine Ok.b 7 [2] [(115, .bool true)] ?_
    refine Ok.nt ((Ok.v 115 rfl (show (.bool true : Value) = .bool (tstV3 xt) from congrArg (Value.bool) ((Eq.trans ((Eq.trans ((Eq.trans (mor_t n0) (mor_f W0))) (mor_f K0))) ((if_t m0).symm)))) ?_))
    exact fun a W hA hW => ⟨hA.sub kr, hW, hF⟩
   replace hF := hF.2 n0
   refine Ok.b 1 [2] [(108, .bool false), (109, pv bs2 4)] ?_
   refine Ok.y (j := 21) (d := 108) (want := false) (b := false) rfl kr kr rfl (OpOk.s (v := iv xt.lab.2.2.2.2.1) (Yields.l 0 rfl rfl Tryz.underlying3 rfl kr) rfl rfl (Ok.b 1 [2, 108] [(110, iv xt.lab.2.2.2.2.1), (111, pv bs2 5)] ?_))
   refine Ok.y (j := 21) (d := 108) (want := false) (b := false) rfl kr kr rfl (OpOk.s (v := iv xt.lab.2.2.2.2.2) (Yields.l 0 rfl rfl Tryz.underlying3 rfl kr) rfl rfl (Ok.b 3 [2] [(115, .bool (decide ((if xt.lab.2.2.2.2.1 < xt.lab.2.2.2.2.2 then xt.lab.2.2.2.2.2 else xt.lab.2.2.2.2.1) > 1000)))] ?_))
   refine Ok.nt ((Ok.v 115 rfl (show (.bool (decide ((if xt.lab.2.2.2.2.1 < xt.lab.2.2.2.2.2 then xt.lab.2.2.2.2.2 else xt.lab.2.2.2.2.1) > 1000)) : Value) = .bool (tstV3 xt) from congrArg (Value.bool) ((Eq.trans ((Eq.trans ((Eq.trans (mor_f n0) (mor_f W0))) (mor_f K0))) ((if_t m0).symm)))) ?_))
   exact fun a W hA hW => ⟨hA.sub kr, hW, hF⟩
  replace hF := hF.2 m0
  refine Ok.b 11 [2] [(100, .bool false), (101, pv bs2 4)] ?_
  refine Ok.y (j := 13) (d := 100) (want := false) (b := false) rfl kr kr rfl (OpOk.s (v := iv xt.lab.2.2.2.2.1) (Yields.l 0 rfl rfl Tryz.underlying3 rfl kr) rfl rfl (Ok.b 1 [2, 100] [(102, iv xt.lab.2.2.2.2.1), (103, pv bs2 5)] ?_))
  refine Ok.y (j := 13) (d := 100) (want := false) (b := false) rfl kr kr rfl (OpOk.s (v := iv xt.lab.2.2.2.2.2) (Yields.l 0 rfl rfl Tryz.underlying3 rfl kr) rfl rfl (Ok.b 4 [2] [(108, .bool (decide ((if xt.lab.2.2.2.2.2 < xt.lab.2.2.2.2.1 then xt.lab.2.2.2.2.2 else xt.lab.2.2.2.2.1) < (-1000))))] ?_))
  refine Ok.a 108 (decide ((if xt.lab.2.2.2.2.2 < xt.lab.2.2.2.2.1 then xt.lab.2.2.2.2.2 else xt.lab.2.2.2.2.1) < (-1000))) rfl (fun o0 => ?_) (fun o0 => ?_)
  ·replace hF := hF.1 o0
   refine Ok.b 7 [2] [(115, .bool true)] ?_
   refine Ok.nt ((Ok.v 115 rfl (show (.bool true : Value) = .bool (tstV3 xt) from congrArg (Value.bool) ((Eq.trans (mor_t o0) ((if_f m0).symm)))) ?_))
   exact fun a W hA hW => ⟨hA.sub kr, hW, hF⟩
  replace hF := hF.2 o0
  refine Ok.b 1 [2] [(108, .bool false), (109, pv bs2 4)] ?_
  refine Ok.y (j := 21) (d := 108) (want := false) (b := false) rfl kr kr rfl (OpOk.s (v := iv xt.lab.2.2.2.2.1) (Yields.l 0 rfl rfl Tryz.underlying3 rfl kr) rfl rfl (Ok.b 1 [2, 108] [(110, iv xt.lab.2.2.2.2.1), (111, pv bs2 5)] ?_))
  refine Ok.y (j := 21) (d := 108) (want := false) (b := false) rfl kr kr rfl (OpOk.s (v := iv xt.lab.2.2.2.2.2) (Yields.l 0 rfl rfl Tryz.underlying3 rfl kr) rfl rfl (Ok.b 3 [2] [(115, .bool (decide ((if xt.lab.2.2.2.2.1 < xt.lab.2.2.2.2.2 then xt.lab.2.2.2.2.2 else xt.lab.2.2.2.2.1) > 1000)))] ?_))
  refine Ok.nt ((Ok.v 115 rfl (show (.bool (decide ((if xt.lab.2.2.2.2.1 < xt.lab.2.2.2.2.2 then xt.lab.2.2.2.2.2 else xt.lab.2.2.2.2.1) > 1000)) : Value) = .bool (tstV3 xt) from congrArg (Value.bool) ((Eq.trans (mor_f o0) ((if_f m0).symm)))) ?_))
  exact fun a W hA hW => ⟨hA.sub kr, hW, hF⟩
 clear hF
 rintro a W ⟨hA, hW, hF⟩
 refine (?_ : Ok _ _ _ _ _ _) a W hA hW
 clear hA hW
 refine Ok.cn hF rfl (fun hc5 => ?_) (fun hc5 => ?_)
 ·replace hF := hF.1 hc5
  refine Ok.sr ((Ok.B 1 [(4, .bool false)] kr (Ok.nt ((Ok.ret (Ok.tr ?_))))))
  exact Ok.p (vs := [.bool false]) [] [] dc rfl (.inl rfl) rfl (.cons (.tmp rfl) .nil) (Gext.r w0 g) ⟨false, rfl, rfl, hF⟩
 replace hF := hF.2 hc5
 refine Ok.k (Ok.t (Ok.q (Ok.sr ((Ok.op rfl (OpOk.s (v := .agg (aL xt.lab axt_0 xt.kids.length cxt_0)) (Yields.loadAgg 0 7 (aL xt.lab axt_0 xt.kids.length cxt_0) rfl rfl Tryz.underlying48 rfl kr kr kr) rfl rfl (Ok.op rfl (OpOk.i (args := #[.agg (aL xt.lab axt_0 xt.kids.length cxt_0)]) 11 [(0, .agg (aL xt.lab axt_0 xt.kids.length cxt_0))] enr Tryz.func79 rfl rfl rfl rfl (Ok.sr ((Ok.op rfl (OpOk.box (v := .agg (aL xt.lab axt_0 xt.kids.length cxt_0)) (cs := (aL xt.lab axt_0 xt.kids.length cxt_0)) rfl kr rfl fun p0 => ?_))))))))))))
 refine Ok.B 1 [(1, pv p0 0)] kr (Ok.nt ((Ok.cut (fun a W => StA 11 [(2, .bool ((xt.lab.1 == 10) || (xt.lab.1 == 11)))] a ∧ StW w0 [.blk bs2 (.cells (aL xt.lab axt_0 xt.kids.length cxt_0) 48)] g W ∧ tstj3i117 N xt K) ?_ ?_)))
 ·
  refine Ok.r (Ok.b 1 [1] [(3, pv p0 0)] ?_)
  refine Ok.op rfl (OpOk.s (v := iv xt.lab.1) (Yields.l 0 rfl rfl Tryz.underlying3 rfl kr) rfl rfl (Ok.b 2 [1] [(6, .bool (xt.lab.1 == 10))] ?_))
  refine Ok.a 6 ((xt.lab.1 == 10)) rfl (fun hc9 => ?_) (fun hc9 => ?_)
  ·replace hF := hF.1 hc9
   refine Ok.B 5 [(2, .bool true)] kr (Ok.nt ((Ok.v 2 rfl (show (.bool true : Value) = .bool ((xt.lab.1 == 10) || (xt.lab.1 == 11)) from congrArg (Value.bool) (mor_t hc9)) ?_)))
   exact fun a W hA hW => ⟨hA.sub kr, hW.sub (.cons _ (.cons_cons _ .slnil)), hF⟩
  replace hF := hF.2 hc9
  refine Ok.B 1 [(6, .bool false), (7, pv p0 0)] kr (Ok.y (j := 3) (d := 6) (want := false) (b := false) rfl kr kr rfl (OpOk.s (v := iv xt.lab.1) (Yields.l 0 rfl rfl Tryz.underlying3 rfl kr) rfl rfl (Ok.B 3 [(2, .bool (xt.lab.1 == 11))] kr (Ok.nt ((Ok.v 2 rfl (show (.bool (xt.lab.1 == 11) : Value) = .bool ((xt.lab.1 == 10) || (xt.lab.1 == 11)) from congrArg (Value.bool) (mor_f hc9)) ?_))))))
  exact fun a W hA hW => ⟨hA.sub kr, hW.sub (.cons _ (.cons_cons _ .slnil)), hF⟩
 clear hF
 rintro a W ⟨hA, hW, hF⟩
 refine (?_ : Ok _ _ _ _ _ _) a W hA hW
 clear hA hW
 refine Ok.ret (Ok.back (vs := [.bool ((xt.lab.1 == 10) || (xt.lab.1 == 11))]) (.inl rfl) rfl (.cons (.tmp rfl) .nil) rfl (Ok.nt ((Ok.cn hF rfl (fun hc7 => ?_) (fun hc7 => ?_)))))
 ·replace hF := hF.1 hc7
  refine Ok.sr ((Ok.B 1 [(118, pv bs2 6)] kr (Ok.op rfl (OpOk.s (v := .slice axt_0 xt.kids.length cxt_0) (Yields.l 0 rfl rfl Tryz.underlying29 rfl kr) rfl rfl ?_))))
  obtain ⟨hp8, hF⟩ := hF
  refine Ok.op rfl (OpOk.f enr (fun W hW => ih_pts _ xt.kids (hRxt_0.mono hW.sees) (hG0.mono hW.sees) hp8) rfl ?_)
  refine Ok.B 1 [(4, .bool (ptsS xt.kids))] kr (Ok.nt ((Ok.ret (Ok.tr ?_))))
  exact Ok.p (vs := [.bool (ptsS xt.kids)]) [] [] dc rfl (.inl rfl) rfl (.cons (.tmp rfl) .nil) (Gext.r w0 g) ⟨(ptsS xt.kids), rfl, rfl, hF⟩
 replace hF := hF.2 hc7
 refine Ok.k (Ok.t (Ok.sr ((Ok.B 1 [(121, pv bs2 6)] kr (Ok.op rfl (OpOk.s (v := .slice axt_0 xt.kids.length cxt_0) (Yields.l 0 rfl rfl Tryz.underlying29 rfl kr) rfl rfl (Ok.B 3 [(4, .bool ((xt.kids.length : Int) == 0))] kr (Ok.nt ((Ok.ret ?_))))))))))
 exact Ok.p (vs := [.bool ((xt.kids.length : Int) == 0)]) [] [] dc rfl (.inl rfl) rfl (.cons (.tmp rfl) .nil) (Gext.r w0 g) ⟨((xt.kids.length : Int) == 0), rfl, rfl, hF⟩
def ptsV0 (e3 : PH) : Bool :=
 (((e3.1.length : Int) == 0) || ((e3.2.length : Int) != (w6 ((e3.1.length : Int) - 1))))
def ptsl45b (N : Nat) (K : Bool → Prop) (q0 : Int) (e8 : List TS) (C30 : Int → Prop) (v0 : Int) (C45 : Int → Prop) : Prop :=
 ((decide (v0 < (e8.length : Int))) = true → 0 ≤ v0 ∧ Int.toNat v0 < e8.length ∧ tstP N (e8.getD (Int.toNat v0) default) v0 ∧ ((!(tstS (e8.getD (Int.toNat v0) default) v0)) = true → K false) ∧ ((!(tstS (e8.getD (Int.toNat v0) default) v0)) = false → C45 (w6 (v0 + 1)))) ∧ ((decide (v0 < (e8.length : Int))) = false → ((((e8.length : Int) == 0)) = true → K false) ∧ ((((e8.length : Int) == 0)) = false → C30 (w6 (q0 + 1))))
def ptsl45 (N : Nat) (K : Bool → Prop) (q0 : Int) (e8 : List TS) (C30 : Int → Prop) : Nat → Int → Prop
 | 0, _ => False
 | k + 1, v0 => ptsl45b N K q0 e8 C30 v0 (ptsl45 N K q0 e8 C30 k)
def ptsl75b (K : Bool → Prop) (e3 : PH) (z0 : Int) (C7 : Int → Prop) (k0 : Int) (C75 : Int → Prop) : Prop :=
 ((decide (k0 < (e3.2.length : Int))) = true → 0 ≤ k0 ∧ Int.toNat k0 < e3.2.length ∧ ((decide ((ibS ([32, 62, 43, 126] : Bs) (e3.2.getD (Int.toNat k0) default)) < 0)) = true → K false) ∧ ((decide ((ibS ([32, 62, 43, 126] : Bs) (e3.2.getD (Int.toNat k0) default)) < 0)) = false → C75 (w6 (k0 + 1)))) ∧ ((decide (k0 < (e3.2.length : Int))) = false → C7 (w6 (z0 + 1)))
def ptsl75 (K : Bool → Prop) (e3 : PH) (z0 : Int) (C7 : Int → Prop) : Nat → Int → Prop
 | 0, _ => False
 | k + 1, k0 => ptsl75b K e3 z0 C7 k0 (ptsl75 K e3 z0 C7 k)
def ptsl30b (N : Nat) (K : Bool → Prop) (e3 : PH) (z0 : Int) (C7 : Int → Prop) (q0 : Int) (C30 : Int → Prop) : Prop :=
 ((decide (q0 < (e3.1.length : Int))) = true → 0 ≤ q0 ∧ Int.toNat q0 < e3.1.length ∧ ∃ k, ptsl45 N K q0 (e3.1.getD (Int.toNat q0) default) C30 k 0) ∧ ((decide (q0 < (e3.1.length : Int))) = false → ∃ k, ptsl75 K e3 z0 C7 k 0)
def ptsl30 (N : Nat) (K : Bool → Prop) (e3 : PH) (z0 : Int) (C7 : Int → Prop) : Nat → Int → Prop
 | 0, _ => False
 | k + 1, q0 => ptsl30b N K e3 z0 C7 q0 (ptsl30 N K e3 z0 C7 k)
def ptsj19 (N : Nat) (K : Bool → Prop) (e3 : PH) (z0 : Int) (C7 : Int → Prop) : Prop :=
 (((ptsV0 e3)) = true → K false) ∧ (((ptsV0 e3)) = false → ∃ k, ptsl30 N K e3 z0 C7 k 0)
def ptsl7b (N : Nat) (xl : List PH) (K : Bool → Prop) (z0 : Int) (C7 : Int → Prop) : Prop :=
 ((decide (z0 < (xl.length : Int))) = true → 0 ≤ z0 ∧ Int.toNat z0 < xl.length ∧ (((((xl.getD (Int.toNat z0) default).1.length : Int) == 0)) = true → ptsj19 N K (xl.getD (Int.toNat z0) default) z0 C7) ∧ (((((xl.getD (Int.toNat z0) default).1.length : Int) == 0)) = false → ptsj19 N K (xl.getD (Int.toNat z0) default) z0 C7)) ∧ ((decide (z0 < (xl.length : Int))) = false → K (decide ((xl.length : Int) > 0)))
def ptsl7 (N : Nat) (xl : List PH) (K : Bool → Prop) : Nat → Int → Prop
 | 0, _ => False
 | k + 1, z0 => ptsl7b N xl K z0 (ptsl7 N xl K k)
def ptsF (N : Nat) (xl : List PH) (K : Bool → Prop) : Prop :=
 ∃ k, ptsl7 N xl K k 0
theorem pts_ok {g : Ghost} (N : Nat) (ih_tst : tst_C N) (ih_pts : pts_C N) {axl_0 : Option Addr} {cxl_0 : Nat} (xl : List PH) (hRxl_0 : Rep g (.slice yP) [.slice axl_0 xl.length cxl_0] xl) (hG0 : SomeInt g 0) (K : Bool → Prop)
  (hF : ptsF N xl K) : CallsH Tryz.prog 32 #[.slice axl_0 xl.length cxl_0] g [] (fun g' H' v => ∃ (r0 : Bool), v = .bool r0 ∧ H' = [] ∧ K r0) := by
 refine CallsH.enter 69 [(0, .slice axl_0 xl.length cxl_0)] Tryz.func32 rfl kr kr kr fun w0 => ?_
 refine Ok.sr ((Ok.B 1 [(0, .slice axl_0 xl.length cxl_0)] kr (Ok.nt ((Ok.q (Ok.sr ((Ok.b 3 [0] [(11, .slice axl_0 xl.length cxl_0), (12, iv (xl.length : Int)), (13, iv 0)] ?_))))))))
 refine Ok.nt ((Ok.block ?_))
 obtain ⟨k, hF⟩ := hF
 refine Ok.L (fun k a W => ∃ (z0 : Int), StA 69 [(0, .slice axl_0 xl.length cxl_0), (11, .slice axl_0 xl.length cxl_0), (12, iv (xl.length : Int)), (13, iv z0)] a ∧ StW w0 [] g W ∧ ptsl7 N xl K k z0) k ?_ ?_
 ·
  exact fun a W hA hW => ⟨0, hA.sub kr, hW, hF⟩
 clear hF
 rintro k7 a W ⟨z0, hA, hW, hF⟩
 cases k7 with
 | zero => exact (hF : False).elim
 | succ k7 =>
  refine (?_ : Ok _ _ _ _ _ _) a W hA hW
  clear hA hW
  refine Ok.sr ((Ok.b 1 [0, 11, 12, 13] [(14, .bool (decide (z0 < (xl.length : Int))))] ?_))
  refine Ok.nt ((Ok.q (Ok.cn hF rfl (fun hc1 => ?_) (fun hc1 => ?_))))
  ·replace hF := hF.1 hc1
   refine Ok.k (Ok.t (Ok.q (Ok.block (Ok.q (Ok.r ?_)))))
   obtain ⟨h03, h13, hF⟩ := hF
   have he3 := get_of (l := xl) (default : PH) h13
   generalize hg3 : (xl.getD (Int.toNat z0) default) = e3 at he3 hF ⊢
   refine Ok.op rfl (OpOk.indexRo (e := yP) (i := z0) (el := e3) rfl rfl Tryz.underlying29 kr hRxl_0 h03 he3 rfl fun q2 o2 cs2 _ G0 hr2 => ?_)
   obtain ⟨_, _, rfl, ⟨j0, x0, rfl, hm2_0, hr2_0⟩, ⟨s0, b0, rfl, hm2_1, hr2_1⟩⟩ := hr2
   have hR2_0 : Rep g (.slice (.slice yS)) [.slice j0 e3.1.length x0] e3.1 := ⟨j0, x0, rfl, hm2_0, hr2_0⟩
   have hR2_1 : Rep g (.slice yb) [.slice s0 e3.2.length b0] e3.2 := ⟨s0, b0, rfl, hm2_1, hr2_1⟩
   replace G0 : At g q2 o2 [.slice j0 e3.1.length x0, .slice s0 e3.2.length b0] := G0
   refine Ok.op rfl (OpOk.s (v := .agg #[.slice j0 e3.1.length x0, .slice s0 e3.2.length b0]) (Yields.loadAggRo 0 2 #[.slice j0 e3.1.length x0, .slice s0 e3.2.length b0] G0 kr Tryz.underlying25 rfl kr kr kr) rfl rfl (Ok.op rfl (OpOk.a (z := .agg #[.slice none 0 0, .slice none 0 0]) (cs := #[.slice none 0 0, .slice none 0 0]) kr kr rfl fun bs4 => ?_)))
   refine Ok.op rfl (OpOk.sto (k := 2) (v := .agg #[.slice j0 e3.1.length x0, .slice s0 e3.2.length b0]) 0 #[.slice j0 e3.1.length x0, .slice s0 e3.2.length b0] rfl rfl rfl ?_)
   refine Ok.nt ((Ok.q (Ok.cut (fun a W => StA 69 [(0, .slice axl_0 xl.length cxl_0), (4, pv bs4 0), (11, .slice axl_0 xl.length cxl_0), (12, iv (xl.length : Int)), (13, iv z0), (30, .bool (ptsV0 e3))] a ∧ StW w0 [.blk bs4 (.cells #[.slice j0 e3.1.length x0, .slice s0 e3.2.length b0] 25)] g W ∧ ptsj19 N K e3 z0 (ptsl7 N xl K k7)) ?_ ?_)))
   ·
    refine Ok.r (Ok.b 1 [0, 11, 12, 13] [(4, pv bs4 0), (17, pv bs4 0)] ?_)
    refine Ok.op rfl (OpOk.s (v := .slice j0 e3.1.length x0) (Yields.l 0 rfl rfl Tryz.underlying22 rfl kr) rfl rfl (Ok.b 3 [0, 4, 11, 12, 13] [(21, .bool ((e3.1.length : Int) == 0))] ?_))
    refine Ok.a 21 (((e3.1.length : Int) == 0)) rfl (fun c0 => ?_) (fun c0 => ?_)
    ·replace hF := hF.1 c0
     refine Ok.b 9 [0, 4, 11, 12, 13] [(30, .bool true)] ?_
     refine Ok.nt ((Ok.v 30 rfl (show (.bool true : Value) = .bool (ptsV0 e3) from congrArg (Value.bool) (mor_t c0)) ?_))
     exact fun a W hA hW => ⟨hA.sub kr, hW, hF⟩
    replace hF := hF.2 c0
    refine Ok.b 1 [0, 4, 11, 12, 13] [(21, .bool false), (22, pv bs4 1)] ?_
    refine Ok.y (j := 4) (d := 21) (want := false) (b := false) rfl kr kr rfl (OpOk.s (v := .slice s0 e3.2.length b0) (Yields.l 0 rfl rfl Tryz.underlying23 rfl kr) rfl rfl (Ok.b 2 [0, 4, 11, 12, 13, 21] [(24, iv (e3.2.length : Int)), (25, pv bs4 0)] ?_))
    refine Ok.y (j := 4) (d := 21) (want := false) (b := false) rfl kr kr rfl (OpOk.s (v := .slice j0 e3.1.length x0) (Yields.l 0 rfl rfl Tryz.underlying22 rfl kr) rfl rfl (Ok.b 4 [0, 4, 11, 12, 13] [(30, .bool ((e3.2.length : Int) != (w6 ((e3.1.length : Int) - 1))))] ?_))
    refine Ok.nt ((Ok.v 30 rfl (show (.bool ((e3.2.length : Int) != (w6 ((e3.1.length : Int) - 1))) : Value) = .bool (ptsV0 e3) from congrArg (Value.bool) (mor_f c0)) ?_))
    exact fun a W hA hW => ⟨hA.sub kr, hW, hF⟩
   clear hF
   rintro a W ⟨hA, hW, hF⟩
   refine (?_ : Ok _ _ _ _ _ _) a W hA hW
   clear hA hW
   refine Ok.cn hF rfl (fun hc5 => ?_) (fun hc5 => ?_)
   ·replace hF := hF.1 hc5
    refine Ok.sr ((Ok.B 1 [(2, .bool false)] kr (Ok.nt ((Ok.ret (Ok.tr (Ok.kr (Ok.tr (Ok.tr (Ok.kr (Ok.tr ?_)))))))))))
    exact Ok.p (vs := [.bool false]) [] [] dc rfl (.inl rfl) rfl (.cons (.tmp rfl) .nil) (Gext.r w0 g) ⟨false, rfl, rfl, hF⟩
   replace hF := hF.2 hc5
   refine Ok.k (Ok.t (Ok.q (Ok.sr ((Ok.b 1 [0, 4, 11, 12, 13] [(31, pv bs4 0)] ?_)))))
   refine Ok.op rfl (OpOk.s (v := .slice j0 e3.1.length x0) (Yields.l 0 rfl rfl Tryz.underlying22 rfl kr) rfl rfl (Ok.b 2 [0, 4, 11, 12, 13] [(32, .slice j0 e3.1.length x0), (33, iv (e3.1.length : Int)), (34, iv 0)] ?_))
   refine Ok.nt ((Ok.block ?_))
   obtain ⟨k, hF⟩ := hF
   refine Ok.L (fun k a W => ∃ (q0 : Int), StA 69 [(0, .slice axl_0 xl.length cxl_0), (4, pv bs4 0), (11, .slice axl_0 xl.length cxl_0), (12, iv (xl.length : Int)), (13, iv z0), (32, .slice j0 e3.1.length x0), (33, iv (e3.1.length : Int)), (34, iv q0)] a ∧ StW w0 [.blk bs4 (.cells #[.slice j0 e3.1.length x0, .slice s0 e3.2.length b0] 25)] g W ∧ ptsl30 N K e3 z0 (ptsl7 N xl K k7) k q0) k ?_ ?_
   ·
    exact fun a W hA hW => ⟨0, hA.sub kr, hW, hF⟩
   clear hF
   rintro k30 a W ⟨q0, hA, hW, hF⟩
   cases k30 with
   | zero => exact (hF : False).elim
   | succ k30 =>
    refine (?_ : Ok _ _ _ _ _ _) a W hA hW
    clear hA hW
    refine Ok.sr ((Ok.b 1 [0, 4, 11, 12, 13, 32, 33, 34] [(35, .bool (decide (q0 < (e3.1.length : Int))))] ?_))
    refine Ok.nt ((Ok.q (Ok.cn hF rfl (fun hc6 => ?_) (fun hc6 => ?_))))
    ·replace hF := hF.1 hc6
     refine Ok.k (Ok.t (Ok.q (Ok.block (Ok.q (Ok.r ?_)))))
     obtain ⟨h08, h18, hF⟩ := hF
     have he8 := get_of (l := e3.1) (default : List TS) h18
     generalize hg8 : (e3.1.getD (Int.toNat q0) default) = e8 at he8 hF ⊢
     refine Ok.op rfl (OpOk.indexRo (e := .slice yS) (i := q0) (el := e8) rfl rfl Tryz.underlying22 kr hR2_0 h08 he8 rfl fun q7 o7 cs7 _ H0 hr7 => ?_)
     obtain ⟨a0, i0, rfl, hm7_0, hr7_0⟩ := hr7
     have hR7_0 : Rep g (.slice yS) [.slice a0 e8.length i0] e8 := ⟨a0, i0, rfl, hm7_0, hr7_0⟩
     replace H0 : At g q7 o7 [.slice a0 e8.length i0] := H0
     refine Ok.op rfl (OpOk.s (v := .slice a0 e8.length i0) (Yields.lr 0 H0 kr Tryz.underlying41 rfl kr) rfl rfl (Ok.b 1 [0, 4, 11, 12, 13, 32, 33, 34] [(6, .slice a0 e8.length i0)] ?_))
     refine Ok.nt ((Ok.q (Ok.sr ((Ok.b 3 [0, 4, 6, 11, 12, 13, 32, 33, 34] [(38, .slice a0 e8.length i0), (39, iv (e8.length : Int)), (40, iv 0)] ?_)))))
     refine Ok.nt ((Ok.block ?_))
     obtain ⟨k, hF⟩ := hF
     refine Ok.L (fun k a W => ∃ (v0 : Int), StA 69 [(0, .slice axl_0 xl.length cxl_0), (4, pv bs4 0), (6, .slice a0 e8.length i0), (11, .slice axl_0 xl.length cxl_0), (12, iv (xl.length : Int)), (13, iv z0), (32, .slice j0 e3.1.length x0), (33, iv (e3.1.length : Int)), (34, iv q0), (38, .slice a0 e8.length i0), (39, iv (e8.length : Int)), (40, iv v0)] a ∧ StW w0 [.blk bs4 (.cells #[.slice j0 e3.1.length x0, .slice s0 e3.2.length b0] 25)] g W ∧ ptsl45 N K q0 e8 (ptsl30 N K e3 z0 (ptsl7 N xl K k7) k30) k v0) k ?_ ?_
     ·
      exact fun a W hA hW => ⟨0, hA.sub kr, hW, hF⟩
     clear hF
     rintro k45 a W ⟨v0, hA, hW, hF⟩
     cases k45 with
     | zero => exact (hF : False).elim
     | succ k45 =>
      refine (?_ : Ok _ _ _ _ _ _) a W hA hW
      clear hA hW
      refine Ok.sr ((Ok.b 1 [0, 4, 6, 11, 12, 13, 32, 33, 34, 38, 39, 40] [(41, .bool (decide (v0 < (e8.length : Int))))] ?_))
      refine Ok.nt ((Ok.q (Ok.cn hF rfl (fun hc9 => ?_) (fun hc9 => ?_))))
      ·replace hF := hF.1 hc9
       refine Ok.k (Ok.t (Ok.q (Ok.block (Ok.sr ((Ok.b 1 [0, 4, 6, 11, 12, 13, 32, 33, 34, 38, 39, 40] [(42, iv v0)] ?_))))))
       obtain ⟨h011, h111, hF⟩ := hF
       have N0 := get_of (l := e8) (default : TS) h111
       generalize hg11 : (e8.getD (Int.toNat v0) default) = e11 at N0 hF ⊢
       refine Ok.op rfl (OpOk.indexRo (e := yS) (i := v0) (el := e11) rfl rfl Tryz.underlying41 kr hR7_0 h011 N0 rfl fun q10 o10 cs10 _ D0 hr10 => ?_)
       have Y0 := hr10
       replace Y0 := Rep.tst.1 Y0
       obtain ⟨_, _, rfl, ⟨_, _, rfl, rfl, ⟨_, _, rfl, rfl, ⟨_, _, rfl, rfl, ⟨_, _, rfl, rfl, ⟨_, _, rfl, rfl, rfl⟩⟩⟩⟩⟩, ⟨y0, u0, rfl, hm10_6, hr10_6⟩⟩ := Y0
       have hR10_6 : Rep g (.slice yP) [.slice y0 e11.kids.length u0] e11.kids := ⟨y0, u0, rfl, hm10_6, hr10_6⟩
       replace D0 : At g q10 o10 (vL e11.lab y0 e11.kids.length u0) := D0
       refine Ok.op rfl (OpOk.s (v := .agg (aL e11.lab y0 e11.kids.length u0)) (Yields.loadAggRo 0 7 (aL e11.lab y0 e11.kids.length u0) D0 kr Tryz.underlying48 rfl kr kr kr) rfl rfl (Ok.op rfl (OpOk.a (z := .agg #[iv 0, sv ([] : Bs), .int .u8 0, sv ([] : Bs), iv 0, iv 0, .slice none 0 0]) (cs := #[iv 0, sv ([] : Bs), .int .u8 0, sv ([] : Bs), iv 0, iv 0, .slice none 0 0]) kr kr rfl fun bs8 => ?_)))
       refine Ok.b 1 [0, 4, 6, 11, 12, 13, 32, 33, 34, 38, 39, 40] [(7, iv v0), (8, pv bs8 0), (44, .agg (aL e11.lab y0 e11.kids.length u0))] ?_
       refine Ok.op rfl (OpOk.sto (k := 7) (v := .agg (aL e11.lab y0 e11.kids.length u0)) 0 (aL e11.lab y0 e11.kids.length u0) rfl rfl rfl ?_)
       refine Ok.nt ((Ok.sr ((Ok.op rfl (OpOk.s (v := .agg (aL e11.lab y0 e11.kids.length u0)) (Yields.loadAgg 0 7 (aL e11.lab y0 e11.kids.length u0) rfl rfl Tryz.underlying48 rfl kr kr kr) rfl rfl (Ok.b 1 [0, 4, 6, 11, 12, 13, 32, 33, 34, 38, 39, 40] [(45, .agg (aL e11.lab y0 e11.kids.length u0)), (46, iv v0)] ?_))))))
       obtain ⟨hp13, hF⟩ := hF
       refine Ok.op rfl (OpOk.f enr (fun W hW => ih_tst _ e11 v0 (hR10_6.mono hW.sees) (hG0.mono hW.sees) hp13) rfl ?_)
       refine Ok.b 1 [0, 4, 6, 11, 12, 13, 32, 33, 34, 38, 39, 40] [(48, .bool (!(tstS e11 v0)))] ?_
       refine Ok.nt ((Ok.cn hF rfl (fun n0 => ?_) (fun n0 => ?_)))
       ·replace hF := hF.1 n0
        refine Ok.sr ((Ok.B 1 [(2, .bool false)] kr (Ok.nt ((Ok.ret (Ok.kr (Ok.tr (Ok.tr (Ok.kr (Ok.tr (Ok.kr (Ok.tr (Ok.tr (Ok.kr (Ok.tr (Ok.kr (Ok.tr (Ok.tr (Ok.kr (Ok.tr ?_))))))))))))))))))))
        exact Ok.p (vs := [.bool false]) [] [] dc rfl (.inl rfl) rfl (.cons (.tmp rfl) .nil) (Gext.r w0 g) ⟨false, rfl, rfl, hF⟩
       replace hF := hF.2 n0
       refine Ok.k (Ok.kn (Ok.t (Ok.r (Ok.b 2 [0, 4, 6, 11, 12, 13, 32, 33, 34, 38, 39] [(40, iv (w6 (v0 + 1)))] ?_))))
       refine Ok.j (Ok.t ?_)
       subst hg11
       exact fun a W hA hW => ⟨k45, Nat.lt_succ_self _, w6 (v0 + 1), hA.sub kr, hW.sub (.cons _ (.cons_cons _ .slnil)), hF⟩
      replace hF := hF.2 hc9
      refine Ok.x (Ok.thenE (Ok.thenE (Ok.blockHit (Ok.t (Ok.sr ((Ok.b 3 [0, 4, 11, 12, 13, 32, 33, 34] [(52, .bool ((e8.length : Int) == 0))] ?_)))))))
      refine Ok.nt ((Ok.cn hF rfl (fun o0 => ?_) (fun o0 => ?_)))
      ·replace hF := hF.1 o0
       refine Ok.sr ((Ok.B 1 [(2, .bool false)] kr (Ok.nt ((Ok.ret (Ok.kr (Ok.tr (Ok.tr (Ok.kr (Ok.tr (Ok.kr (Ok.tr (Ok.tr (Ok.kr (Ok.tr ?_)))))))))))))))
       exact Ok.p (vs := [.bool false]) [] [] dc rfl (.inl rfl) rfl (.cons (.tmp rfl) .nil) (Gext.r w0 g) ⟨false, rfl, rfl, hF⟩
      replace hF := hF.2 o0
      refine Ok.k (Ok.kn (Ok.t (Ok.r (Ok.b 2 [0, 4, 11, 12, 13, 32, 33] [(34, iv (w6 (q0 + 1)))] ?_))))
      refine Ok.j (Ok.t ?_)
      subst hg8
      exact fun a W hA hW => ⟨k30, Nat.lt_succ_self _, w6 (q0 + 1), hA.sub kr, hW, hF⟩
    replace hF := hF.2 hc6
    refine Ok.x (Ok.thenE (Ok.thenE (Ok.blockHit (Ok.t (Ok.sr ((Ok.b 1 [0, 11, 12, 13] [(54, pv bs4 1)] ?_)))))))
    refine Ok.op rfl (OpOk.s (v := .slice s0 e3.2.length b0) (Yields.l 0 rfl rfl Tryz.underlying23 rfl kr) rfl rfl (Ok.b 2 [0, 11, 12, 13] [(55, .slice s0 e3.2.length b0), (56, iv (e3.2.length : Int)), (57, iv 0)] ?_))
    refine Ok.nt ((Ok.block ?_))
    obtain ⟨k, hF⟩ := hF
    refine Ok.L (fun k a W => ∃ (k0 : Int), StA 69 [(0, .slice axl_0 xl.length cxl_0), (11, .slice axl_0 xl.length cxl_0), (12, iv (xl.length : Int)), (13, iv z0), (55, .slice s0 e3.2.length b0), (56, iv (e3.2.length : Int)), (57, iv k0)] a ∧ StW w0 [] g W ∧ ptsl75 K e3 z0 (ptsl7 N xl K k7) k k0) k ?_ ?_
    ·
     exact fun a W hA hW => ⟨0, hA.sub kr, hW.sub (.cons _ .slnil), hF⟩
    clear hF
    rintro k75 a W ⟨k0, hA, hW, hF⟩
    cases k75 with
    | zero => exact (hF : False).elim
    | succ k75 =>
     refine (?_ : Ok _ _ _ _ _ _) a W hA hW
     clear hA hW
     refine Ok.sr ((Ok.b 1 [0, 11, 12, 13, 55, 56, 57] [(58, .bool (decide (k0 < (e3.2.length : Int))))] ?_))
     refine Ok.nt ((Ok.q (Ok.cn hF rfl (fun g0 => ?_) (fun g0 => ?_))))
     ·replace hF := hF.1 g0
      refine Ok.k (Ok.t (Ok.q (Ok.block (Ok.q (Ok.r ?_)))))
      obtain ⟨h018, h118, hF⟩ := hF
      have O0 := get_of (l := e3.2) (default : Int) h118
      generalize hg18 : (e3.2.getD (Int.toNat k0) default) = e18 at O0 hF ⊢
      refine Ok.op rfl (OpOk.indexRo (e := .int .u8) (i := k0) (el := e18) rfl rfl Tryz.underlying23 kr hR2_1 h018 O0 rfl fun q17 o17 cs17 _ E0 hr17 => ?_)
      obtain rfl := hr17
      replace E0 : At g q17 o17 [.int .u8 e18] := E0
      refine Ok.op rfl (OpOk.s (v := .int .u8 e18) (Yields.lr 0 E0 kr Tryz.underlying5 rfl kr) rfl rfl (Ok.b 1 [0, 11, 12, 13, 55, 56, 57] [(10, .int .u8 e18)] ?_))
      refine Ok.nt ((Ok.sr ((Ok.b 1 [0, 11, 12, 13, 55, 56, 57] [(61, .int .u8 e18)] ?_))))
      refine Ok.op rfl (OpOk.f enr (fun W hW => ib_c ([32, 62, 43, 126] : Bs) e18) rfl ?_)
      refine Ok.b 1 [0, 11, 12, 13, 55, 56, 57] [(63, .bool (decide ((ibS ([32, 62, 43, 126] : Bs) e18) < 0)))] ?_
      refine Ok.nt ((Ok.cn hF rfl (fun d0 => ?_) (fun d0 => ?_)))
      ·replace hF := hF.1 d0
       refine Ok.sr ((Ok.B 1 [(2, .bool false)] kr (Ok.nt ((Ok.ret (Ok.kr (Ok.tr (Ok.tr (Ok.kr (Ok.kr (Ok.tr (Ok.tr (Ok.kr (Ok.tr ?_))))))))))))))
       exact Ok.resH (vs := [.bool false]) (.inl rfl) rfl (.cons (.tmp rfl) .nil) (Gext.r w0 g) ⟨false, rfl, rfl, hF⟩
      replace hF := hF.2 d0
      refine Ok.k (Ok.kn (Ok.t (Ok.r (Ok.b 2 [0, 11, 12, 13, 55, 56] [(57, iv (w6 (k0 + 1)))] ?_))))
      refine Ok.j (Ok.t ?_)
      subst hg18
      exact fun a W hA hW => ⟨k75, Nat.lt_succ_self _, w6 (k0 + 1), hA.sub kr, hW, hF⟩
     replace hF := hF.2 g0
     refine Ok.x (Ok.thenE (Ok.thenE (Ok.blockHit (Ok.kn (Ok.t (Ok.r (Ok.b 2 [0, 11, 12] [(13, iv (w6 (z0 + 1)))] ?_)))))))
     refine Ok.j (Ok.t ?_)
     subst hg3
     exact fun a W hA hW => ⟨k7, Nat.lt_succ_self _, w6 (z0 + 1), hA.sub kr, hW, hF⟩
  replace hF := hF.2 hc1
  refine Ok.x (Ok.thenE (Ok.thenE (Ok.blockHit (Ok.t (Ok.sr ((Ok.B 4 [(2, .bool (decide ((xl.length : Int) > 0)))] kr (Ok.nt ((Ok.ret ?_))))))))))
  exact Ok.resH (vs := [.bool (decide ((xl.length : Int) > 0))]) (.inl rfl) rfl (.cons (.tmp rfl) .nil) (Gext.r w0 g) ⟨(decide ((xl.length : Int) > 0)), rfl, rfl, hF⟩
theorem tst_0 (t : Ts) (i : Int) : ¬ tstP 0 t i := fun h => absurd h.1 (Nat.not_lt_zero _)
theorem pts_0 (l : List Ph) : ¬ ptsP 0 l := fun h => absurd h.1 (Nat.not_lt_zero _)
theorem tst_F (N : Nat) (t : Ts) (i : Int) (h : tstP (N + 1) t i) : tstF N t i (fun r => r = tstS t i) := by
 have hk := tstP_kids h
 have hb := bT_kids t
 have hc : cutP t.lab.2.1 := by have := h.2.1; show t.lab.2.1.length < 4294967281; omega
 have hl : lowerP t.lab.2.1 := by have := h.2.1; show t.lab.2.1.length ≤ 140737488351232; omega
 have e := okT_eq t i
 have hop := (okB_kids h.2.2).1
 have hV2 : tstV2 t = l2 t.lab := by
  unfold tstV2 l2
  rw [ib_ops hop]
 have P0 : l0 t.lab i = false → l1 t.lab = false → l2 t.lab = false → l3 t.lab = false → tstj3i117 N t (fun r => r = tstS t i) := by
  intro h0 h1 h2 h3
  have e2 : labS t.lab i = true := by unfold labS; rw [h0, h1, h2, h3]; rfl
  rw [e2, Bool.true_and] at e
  refine ⟨fun hn => ⟨hk, ?_⟩, fun hn => ?_⟩
  ·rw [if_t hn] at e; exact e.symm
  rw [if_f hn] at e; exact e.symm
 have j30 : l0 t.lab i = false → l1 t.lab = false → l2 t.lab = false → tstj30 N t (fun r => r = tstS t i) := by
  intro h0 h1 h2
  refine ⟨fun h3 => ?_, fun h3 => ⟨fun _ => P0 h0 h1 h2 h3, fun _ => P0 h0 h1 h2 h3⟩⟩
  have h3 : l3 t.lab = true := h3
  show false = okT t i
  rw [e]; unfold labS; rw [h3]; simp
 have j88 : l0 t.lab i = false → l1 t.lab = false → l2 t.lab = false → tstj3i88 N t (fun r => r = tstS t i) := by
  intro h0 h1 h2
  have k := j30 h0 h1 h2
  exact ⟨fun _ => ⟨fun _ => k, fun _ => ⟨fun _ => k, fun _ => ⟨fun _ => k, fun _ => k⟩⟩⟩, fun _ => ⟨fun _ => k, fun _ => k⟩⟩
 have j22 : l0 t.lab i = false → l1 t.lab = false → tstj22 N t (fun r => r = tstS t i) := by
  intro h0 h1
  refine ⟨fun h2 => ?_, fun h2 => ?_⟩
  ·rw [hV2] at h2
   show false = okT t i
   rw [e]; unfold labS; rw [h2]; simp
  rw [hV2] at h2
  exact ⟨fun _ => j88 h0 h1 h2, fun _ => j88 h0 h1 h2⟩
 have j14 : l0 t.lab i = false → tstj14 N t (fun r => r = tstS t i) := by
  intro h0
  refine ⟨fun h1 => ?_, fun h1 => ?_⟩
  ·have h1 : l1 t.lab = true := h1
   show false = okT t i
   rw [e]; unfold labS; rw [h1]; simp
  have k := j22 h0 h1
  exact ⟨fun _ => ⟨fun _ => k, fun _ => ⟨fun _ => k, fun _ => ⟨fun _ => k, fun _ => k⟩⟩⟩, fun _ => ⟨fun _ => k, fun _ => k⟩⟩
 have j6 : tstj6 N t i (fun r => r = tstS t i) := by
  refine ⟨fun h0 => ?_, fun h0 => ?_⟩
  ·have h0 : l0 t.lab i = true := h0
   show false = okT t i
   rw [e]; unfold labS; rw [h0]; simp
  have k := j14 h0
  exact ⟨fun _ => ⟨hl, k⟩, fun _ => ⟨fun _ => ⟨hl, k⟩, fun _ => k⟩⟩
 have j3 : tstj3 N t i (fun r => r = tstS t i) := ⟨fun _ => j6, fun _ => ⟨fun _ => j6, fun _ => ⟨fun _ => j6, fun _ => ⟨fun _ => j6, fun _ => ⟨fun _ => ⟨hc, j6⟩, fun _ => j6⟩⟩⟩⟩⟩
 exact ⟨fun _ => j3, fun _ => j3⟩
theorem pts45 {N : Nat} {r : Bool} (s : List Ts) (hs : ∀ t ∈ s, ∀ i, tstP N t i) (hl : s.length ≤ 1048600) (k : Int) (C : Int → Prop) (R : Bool) (hC : r = R → C (w6 (k + 1))) :
  ∀ (m i : Nat), i + m = s.length → r = (ok1 (s.drop i) i && (!((s.length : Int) == 0) && R)) → ptsl45 N (fun x => x = r) k s C (m + 1) (i : Int) := by
 intro m
 induction m with
 | zero =>
  intro i hi he
  rw [List.drop_of_length_le om, ok1, Bool.true_and] at he
  refine ⟨fun hc => absurd (of_decide_eq_true hc) om, fun _ => ⟨fun h0 => ?_, fun h0 => ?_⟩⟩
  ·rw [he, h0]; rfl
  rw [h0, Bool.not_false, Bool.true_and] at he; exact hC he
 | succ m ih =>
  intro i hi he
  have hi' : i < s.length := by omega
  have ht := hs _ (get_in default hi') i
  rw [drop_get (l := s) default hi', ok1, Bool.and_assoc] at he
  refine ⟨fun _ => ⟨by omega, by rw [Int.toNat_natCast]; omega, ?_⟩, fun hc => absurd (of_decide_eq_false hc) om⟩
  rw [Int.toNat_natCast]
  refine ⟨ht, fun hb => ?_, fun hb => ?_⟩
  ·have hb : okT (s.getD i default) i = false := by simpa [tstS] using hb
   rw [he, hb, Bool.false_and]
  have hb : okT (s.getD i default) i = true := by simpa [tstS] using hb
  rw [hb, Bool.true_and] at he
  rw [show (i : Int) + 1 = ((i + 1 : Nat) : Int) by omega] at he
  rw [w64 om, show (i : Int) + 1 = ((i + 1 : Nat) : Int) by omega]
  exact ih (i + 1) om he
theorem pts75 {r : Bool} (q : Ph) (hj : ∀ z ∈ q.2, btN z) (hl : q.2.length ≤ 1048600) (j : Int) (C : Int → Prop) (R : Bool) (hC : r = R → C (w6 (j + 1))) :
  ∀ (m i : Nat), i + m = q.2.length → r = ((q.2.drop i).all jnB && R) → ptsl75 (fun x => x = r) q j C (m + 1) (i : Int) := by
 intro m
 induction m with
 | zero =>
  intro i hi he
  rw [List.drop_of_length_le om, List.all_nil, Bool.true_and] at he
  exact ⟨fun hc => absurd (of_decide_eq_true hc) om, fun _ => hC he⟩
 | succ m ih =>
  intro i hi he
  have hi' : i < q.2.length := by omega
  have hz := hj _ (get_in default hi')
  rw [drop_get (l := q.2) default hi', List.all_cons, Bool.and_assoc] at he
  refine ⟨fun _ => ⟨by omega, by rw [Int.toNat_natCast]; omega, ?_⟩, fun hc => absurd (of_decide_eq_false hc) om⟩
  rw [Int.toNat_natCast, ib_joins hz]
  refine ⟨fun hb => ?_, fun hb => ?_⟩
  ·have hb : jnB (q.2.getD i default) = false := by simpa [jnB] using hb
   rw [he, hb, Bool.false_and]
  have hb : jnB (q.2.getD i default) = true := by simpa [jnB] using hb
  rw [hb, Bool.true_and] at he
  rw [w64 om, show (i : Int) + 1 = ((i + 1 : Nat) : Int) by omega]
  exact ih (i + 1) om he
theorem pts30 {N : Nat} {r : Bool} (q : Ph) (hj : ∀ z ∈ q.2, btN z) (hs : ∀ s ∈ q.1, ∀ t ∈ s, ∀ i, tstP N t i) (hw : w2 q.1 ≤ 1048600) (hl : q.2.length ≤ 1048600) (j : Int) (C : Int → Prop) (R : Bool) (hC : r = R → C (w6 (j + 1))) :
  ∀ (m i : Nat), i + m = q.1.length → r = (ok2 (q.1.drop i) && (q.2.all jnB && R)) → ptsl30 N (fun x => x = r) q j C (m + 1) (i : Int) := by
 intro m
 induction m with
 | zero =>
  intro i hi he
  rw [List.drop_of_length_le om, ok2, Bool.true_and] at he
  exact ⟨fun hc => absurd (of_decide_eq_true hc) om, fun _ => ⟨_, pts75 q hj hl j C R hC q.2.length 0 om (by rw [List.drop_zero]; exact he)⟩⟩
 | succ m ih =>
  intro i hi he
  have hi' : i < q.1.length := by omega
  have hin := get_in default hi'
  have ht := hs _ hin
  have h1 := w1_len (q.1.getD i default)
  have h2 := w2_in hin
  have h3 := w2_len q.1
  rw [drop_get (l := q.1) default hi', ok2, Bool.and_assoc, Bool.and_assoc] at he
  refine ⟨fun _ => ⟨by omega, by rw [Int.toNat_natCast]; omega, ?_⟩, fun hc => absurd (of_decide_eq_false hc) om⟩
  rw [Int.toNat_natCast]
  refine ⟨_, pts45 (q.1.getD i default) ht om (i : Int) _ _ (fun h => ?_) (q.1.getD i default).length 0 om (by rw [List.drop_zero]; exact he)⟩
  rw [w64 om, show (i : Int) + 1 = ((i + 1 : Nat) : Int) by omega]
  exact ih (i + 1) om h
theorem pts_F (N : Nat) (l : List Ph) (h : ptsP (N + 1) l) : ptsF N l (fun r => r = ptsS l) := by
 have h5 := b3_eq l
 have hlen := w3_len l
 have hin := fun q hq s hs t ht i => ptsP_in h (q := q) hq (s := s) hs (t := t) ht i
 obtain ⟨_, hb, ho⟩ := h
 have loop : ∀ (m i : Nat), i + m = l.length → ptsS l = (ok3 (l.drop i) && decide ((l.length : Int) > 0)) → ptsl7 N l (fun r => r = ptsS l) (m + 1) (i : Int) := by
  intro m
  induction m with
  | zero =>
   intro i hi he
   rw [List.drop_of_length_le om, ok3, Bool.true_and] at he
   exact ⟨fun hc => absurd (of_decide_eq_true hc) om, fun _ => he.symm⟩
  | succ m ih =>
   intro i hi he
   have hi' : i < l.length := by omega
   have hq := get_in default hi'
   have hwq := w3_in hq
   have hq1 := w2_len (l.getD i default).1
   rw [drop_get (l := l) default hi', ok3_cons, Bool.and_assoc, Bool.and_assoc, Bool.and_assoc] at he
   refine ⟨fun _ => ⟨by omega, by rw [Int.toNat_natCast]; omega, ?_⟩, fun hc => absurd (of_decide_eq_false hc) om⟩
   rw [Int.toNat_natCast]
   have j19 : ptsj19 N (fun r => r = ptsS l) (l.getD i default) (i : Int) (ptsl7 N l (fun r => r = ptsS l) (m + 1)) := by
    have hV : ptsV0 (l.getD i default) = (((((l.getD i default).1.length : Int) == 0)) || (((l.getD i default).2.length : Int) != ((l.getD i default).1.length : Int) - 1)) := by
     unfold ptsV0
     rw [w64 om]
    refine ⟨fun h0 => ?_, fun h0 => ?_⟩
    ·rw [hV] at h0
     rw [he, h0]; rfl
    rw [hV] at h0
    rw [h0, Bool.not_false, Bool.true_and] at he
    refine ⟨_, pts30 (l.getD i default) (ho _ hq).1 (hin _ hq) om om (i : Int) _ _ (fun h => ?_) (l.getD i default).1.length 0 om (by rw [List.drop_zero]; exact he)⟩
    rw [w64 om, show (i : Int) + 1 = ((i + 1 : Nat) : Int) by omega]
    exact ih (i + 1) om h
   exact ⟨fun _ => j19, fun _ => j19⟩
 exact ⟨_, loop l.length 0 om (by rw [List.drop_zero]; rfl)⟩
theorem tst_rec : ∀ N, tst_C N ∧ pts_C N
 | 0 => ⟨(by intro g axt_0 cxt_0 xt xat hRxt_0 hG0 hp; exact (tst_0 xt xat hp).elim), (by intro g axl_0 cxl_0 xl hRxl_0 hG0 hp; exact (pts_0 xl hp).elim)⟩
 | N + 1 =>
  have ih := tst_rec N
  ⟨(by intro g axt_0 cxt_0 xt xat hRxt_0 hG0 hp; exact (tst_ok N ih.1 ih.2 xt xat hRxt_0 hG0 _ (tst_F N xt xat hp)).gives (by rintro g' H' v _ ⟨r0, rfl, rfl, hK⟩; subst hK; rfl)), (by intro g axl_0 cxl_0 xl hRxl_0 hG0 hp; exact (pts_ok N ih.1 ih.2 xl hRxl_0 hG0 _ (pts_F N xl hp)).gives (by rintro g' H' v _ ⟨r0, rfl, rfl, hK⟩; subst hK; rfl))⟩
def ptsPE (xl : List PH) : Prop := ∃ N, ptsP N xl
theorem pts_c {g : Ghost} {axl_0 : Option Addr} {cxl_0 : Nat} (xl : List PH) (hRxl_0 : Rep g (.slice yP) [.slice axl_0 xl.length cxl_0] xl) (hG0 : SomeInt g 0)  (hp : ptsPE xl) : CallsG Tryz.prog 32 #[.slice axl_0 xl.length cxl_0] g (.bool (ptsS xl)) := by
 obtain ⟨N, hp⟩ := hp
 exact (tst_rec N).2 _ xl hRxl_0 hG0 hp
end Go.Proofs.YtcnhdkhkadiohaaGreatDoor.Se
