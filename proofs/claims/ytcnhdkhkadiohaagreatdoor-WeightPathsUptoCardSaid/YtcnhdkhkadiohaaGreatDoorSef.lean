/- selector: what is wrong with a test, with paths, by the program. -/
import Derived.Test.YtcnhdkhkadiohaaGreatDoorSed
namespace Go.Proofs.YtcnhdkhkadiohaaGreatDoor.Se
open Go Go.Eng Go.RowKit Bld Trm Css Tk Ti
set_option maxHeartbeats 4000000
set_option maxRecDepth 100000
set_option linter.unusedSimpArgs false
set_option linter.unusedVariables false
def l0 (x : Lb) (i : Int) : Bool := ((decide (x.1 < 1)) || ((decide (x.1 > 11)) || (((decide (x.1 ≤ 2)) && (decide (i > 0))) || ((!(((decide (x.1 ≥ 2)) && (decide (x.1 ≤ 5))) == !(x.2.1 == ([] : Bs)))) || (((decide (x.1 ≥ 2)) && (decide (x.1 ≤ 5))) && (!(plainS x.2.1)))))))
def l1 (x : Lb) : Bool := (if (x.1 == 2) = true then !(x.2.1 == (lowerS x.2.1)) else ((x.1 == 5) && (!(x.2.1 == (lowerS x.2.1)))))
def l2 (x : Lb) : Bool := (if (x.2.2.1 != 0) = true then ((x.1 != 5) || ((!(hbyS ([61, 126, 124, 94, 36, 42] : Bs) x.2.2.1)) || ((x.2.2.1 == 0) && (!(x.2.2.2.1 == ([] : Bs)))))) else ((x.2.2.1 == 0) && (!(x.2.2.2.1 == ([] : Bs)))))
def l3 (x : Lb) : Bool := (if (!((x.1 == 8) || (x.1 == 9))) = true then ((x.2.2.2.2.1 != 0) || ((x.2.2.2.2.2 != 0) || ((decide ((if x.2.2.2.2.2 < x.2.2.2.2.1 then x.2.2.2.2.2 else x.2.2.2.2.1) < (-1000))) || (decide ((if x.2.2.2.2.1 < x.2.2.2.2.2 then x.2.2.2.2.2 else x.2.2.2.2.1) > 1000))))) else ((decide ((if x.2.2.2.2.2 < x.2.2.2.2.1 then x.2.2.2.2.2 else x.2.2.2.2.1) < (-1000))) || (decide ((if x.2.2.2.2.1 < x.2.2.2.2.2 then x.2.2.2.2.2 else x.2.2.2.2.1) > 1000))))
def labS (x : Lb) (i : Int) : Bool := !(l0 x i) && (!(l1 x) && (!(l2 x) && !(l3 x)))
def jnB (z : Int) : Bool := hbyS ([32, 62, 43, 126] : Bs) z
mutual
def okT : Ts → Int → Bool
 | .mk x l, i => labS x i && (if ((x.1 == 10) || (x.1 == 11)) = true then ok3 l && decide ((l.length : Int) > 0) else ((l.length : Int) == 0))
def ok3 : List Ph → Bool
 | [] => true
 | (p, js) :: l => !(((p.length : Int) == 0) || ((js.length : Int) != (p.length : Int) - 1)) && (ok2 p && (js.all jnB && ok3 l))
def ok2 : List (List Ts) → Bool
 | [] => true
 | s :: l => ok1 s 0 && (!((s.length : Int) == 0) && ok2 l)
def ok1 : List Ts → Int → Bool
 | [], _ => true
 | t :: l, i => okT t i && ok1 l (i + 1)
end
def tstS (t : Ts) (i : Int) : Bool := okT t i
def ptsS (l : List Ph) : Bool := ok3 l && decide ((l.length : Int) > 0)
theorem okT_eq (t : Ts) (i : Int) : okT t i = (labS t.lab i && (if ((t.lab.1 == 10) || (t.lab.1 == 11)) = true then ptsS t.kids else ((t.kids.length : Int) == 0))) := by obtain ⟨x, l⟩ := t; rw [okT]; rfl
theorem ok3_cons (q : Ph) (l : List Ph) : ok3 (q :: l) = (!(((q.1.length : Int) == 0) || ((q.2.length : Int) != (q.1.length : Int) - 1)) && (ok2 q.1 && (q.2.all jnB && ok3 l))) := by obtain ⟨p, js⟩ := q; rw [ok3]
def tstP (N : Nat) (t : Ts) (i : Int) : Prop := bT t < N ∧ bT t ≤ 1048600 ∧ okB t
def ptsP (N : Nat) (l : List Ph) : Prop := b3 l < N ∧ b3 l ≤ 1048600 ∧ okB3 l
theorem ptsP_in {N : Nat} {l : List Ph} (h : ptsP (N + 1) l) {q : Ph} (hq : q ∈ l) {s : List Ts} (hs : s ∈ q.1) {t : Ts} (ht : t ∈ s) (i : Int) : tstP N t i := by
 have h1 := w3_in hq
 have h2 := w2_in hs
 have h3 := w1_in ht
 have h5 := b3_eq l
 obtain ⟨a, b, c⟩ := h
 exact ⟨by omega, by omega, (c q hq).2 s hs t ht⟩
theorem tstP_kids {N : Nat} {t : Ts} {i : Int} (h : tstP (N + 1) t i) : ptsP N t.kids := by
 have := bT_kids t
 obtain ⟨a, b, c⟩ := h
 exact ⟨by omega, by omega, (okB_kids c).2⟩
def tst_C (N : Nat) : Prop := ∀ (g : Ghost) {axt_0 : Option Addr} {cxt_0 : Nat} (xt : Tst (Int × Bs × Int × Bs × Int × Int)) (xat : Int) (hRxt_0 : Rep g (.slice (.pair (.slice (.slice (.tst (.pair (.int .i64) (.pair (.str) (.pair (.int .u8) (.pair (.str) (.pair (.int .i64) (.int .i64))))))))) (.slice (.int .u8)))) [.slice axt_0 xt.kids.length cxt_0] xt.kids) (hG0 : SomeInt g 0)  (hp : tstP N xt xat), CallsG Tryz.prog 50 #[.agg #[.int .i64 xt.lab.1, sv xt.lab.2.1, .int .u8 xt.lab.2.2.1, sv xt.lab.2.2.2.1, .int .i64 xt.lab.2.2.2.2.1, .int .i64 xt.lab.2.2.2.2.2, .slice axt_0 xt.kids.length cxt_0], .int .i64 xat] g (.bool (tstS xt xat))
def pts_C (N : Nat) : Prop := ∀ (g : Ghost) {axl_0 : Option Addr} {cxl_0 : Nat} (xl : List ((List (List (Tst (Int × Bs × Int × Bs × Int × Int)))) × List (Int))) (hRxl_0 : Rep g (.slice (.pair (.slice (.slice (.tst (.pair (.int .i64) (.pair (.str) (.pair (.int .u8) (.pair (.str) (.pair (.int .i64) (.int .i64))))))))) (.slice (.int .u8)))) [.slice axl_0 xl.length cxl_0] xl) (hG0 : SomeInt g 0)  (hp : ptsP N xl), CallsG Tryz.prog 32 #[.slice axl_0 xl.length cxl_0] g (.bool (ptsS xl))
def tstV0 (xt : Tst (Int × Bs × Int × Bs × Int × Int)) (xat : Int) : Bool :=
 ((decide (xt.lab.1 < 1)) || ((decide (xt.lab.1 > 11)) || (((decide (xt.lab.1 ≤ 2)) && (decide (xat > 0))) || ((!(((decide (xt.lab.1 ≥ 2)) && (decide (xt.lab.1 ≤ 5))) == !(xt.lab.2.1 == ([] : Bs)))) || (((decide (xt.lab.1 ≥ 2)) && (decide (xt.lab.1 ≤ 5))) && (!(plainS xt.lab.2.1)))))))
def tstV1 (xt : Tst (Int × Bs × Int × Bs × Int × Int)) : Bool :=
 (if (xt.lab.1 == 2) = true then !(xt.lab.2.1 == (lowerS xt.lab.2.1)) else ((xt.lab.1 == 5) && (!(xt.lab.2.1 == (lowerS xt.lab.2.1)))))
def tstV2 (xt : Tst (Int × Bs × Int × Bs × Int × Int)) : Bool :=
 (if (xt.lab.2.2.1 != 0) = true then ((xt.lab.1 != 5) || ((decide ((ibS ([61, 126, 124, 94, 36, 42] : Bs) xt.lab.2.2.1) < 0)) || ((xt.lab.2.2.1 == 0) && (!(xt.lab.2.2.2.1 == ([] : Bs)))))) else ((xt.lab.2.2.1 == 0) && (!(xt.lab.2.2.2.1 == ([] : Bs)))))
def tstV3 (xt : Tst (Int × Bs × Int × Bs × Int × Int)) : Bool :=
 (if (!((xt.lab.1 == 8) || (xt.lab.1 == 9))) = true then ((xt.lab.2.2.2.2.1 != 0) || ((xt.lab.2.2.2.2.2 != 0) || ((decide ((if xt.lab.2.2.2.2.2 < xt.lab.2.2.2.2.1 then xt.lab.2.2.2.2.2 else xt.lab.2.2.2.2.1) < (-1000))) || (decide ((if xt.lab.2.2.2.2.1 < xt.lab.2.2.2.2.2 then xt.lab.2.2.2.2.2 else xt.lab.2.2.2.2.1) > 1000))))) else ((decide ((if xt.lab.2.2.2.2.2 < xt.lab.2.2.2.2.1 then xt.lab.2.2.2.2.2 else xt.lab.2.2.2.2.1) < (-1000))) || (decide ((if xt.lab.2.2.2.2.1 < xt.lab.2.2.2.2.2 then xt.lab.2.2.2.2.2 else xt.lab.2.2.2.2.1) > 1000))))
def tstj3i117 (N : Nat) (xt : Tst (Int × Bs × Int × Bs × Int × Int)) (K : Bool → Prop) : Prop :=
 ((((xt.lab.1 == 10) || (xt.lab.1 == 11))) = true → ptsP N xt.kids ∧ K (ptsS xt.kids)) ∧ ((((xt.lab.1 == 10) || (xt.lab.1 == 11))) = false → K ((xt.kids.length : Int) == 0))
def tstj30 (N : Nat) (xt : Tst (Int × Bs × Int × Bs × Int × Int)) (K : Bool → Prop) : Prop :=
 (((tstV3 xt)) = true → K false) ∧ (((tstV3 xt)) = false → (((xt.lab.1 == 10)) = true → tstj3i117 N xt K) ∧ (((xt.lab.1 == 10)) = false → tstj3i117 N xt K))
def tstj3i88 (N : Nat) (xt : Tst (Int × Bs × Int × Bs × Int × Int)) (K : Bool → Prop) : Prop :=
 ((!((xt.lab.1 == 8) || (xt.lab.1 == 9))) = true → (((xt.lab.2.2.2.2.1 != 0)) = true → tstj30 N xt K) ∧ (((xt.lab.2.2.2.2.1 != 0)) = false → (((xt.lab.2.2.2.2.2 != 0)) = true → tstj30 N xt K) ∧ (((xt.lab.2.2.2.2.2 != 0)) = false → ((decide ((if xt.lab.2.2.2.2.2 < xt.lab.2.2.2.2.1 then xt.lab.2.2.2.2.2 else xt.lab.2.2.2.2.1) < (-1000))) = true → tstj30 N xt K) ∧ ((decide ((if xt.lab.2.2.2.2.2 < xt.lab.2.2.2.2.1 then xt.lab.2.2.2.2.2 else xt.lab.2.2.2.2.1) < (-1000))) = false → tstj30 N xt K)))) ∧ ((!((xt.lab.1 == 8) || (xt.lab.1 == 9))) = false → ((decide ((if xt.lab.2.2.2.2.2 < xt.lab.2.2.2.2.1 then xt.lab.2.2.2.2.2 else xt.lab.2.2.2.2.1) < (-1000))) = true → tstj30 N xt K) ∧ ((decide ((if xt.lab.2.2.2.2.2 < xt.lab.2.2.2.2.1 then xt.lab.2.2.2.2.2 else xt.lab.2.2.2.2.1) < (-1000))) = false → tstj30 N xt K))
def tstj22 (N : Nat) (xt : Tst (Int × Bs × Int × Bs × Int × Int)) (K : Bool → Prop) : Prop :=
 (((tstV2 xt)) = true → K false) ∧ (((tstV2 xt)) = false → (((xt.lab.1 == 8)) = true → tstj3i88 N xt K) ∧ (((xt.lab.1 == 8)) = false → tstj3i88 N xt K))
def tstj14 (N : Nat) (xt : Tst (Int × Bs × Int × Bs × Int × Int)) (K : Bool → Prop) : Prop :=
 (((tstV1 xt)) = true → K false) ∧ (((tstV1 xt)) = false → (((xt.lab.2.2.1 != 0)) = true → (((xt.lab.1 != 5)) = true → tstj22 N xt K) ∧ (((xt.lab.1 != 5)) = false → ((decide ((ibS ([61, 126, 124, 94, 36, 42] : Bs) xt.lab.2.2.1) < 0)) = true → tstj22 N xt K) ∧ ((decide ((ibS ([61, 126, 124, 94, 36, 42] : Bs) xt.lab.2.2.1) < 0)) = false → (((xt.lab.2.2.1 == 0)) = true → tstj22 N xt K) ∧ (((xt.lab.2.2.1 == 0)) = false → tstj22 N xt K)))) ∧ (((xt.lab.2.2.1 != 0)) = false → (((xt.lab.2.2.1 == 0)) = true → tstj22 N xt K) ∧ (((xt.lab.2.2.1 == 0)) = false → tstj22 N xt K)))
def tstj6 (N : Nat) (xt : Tst (Int × Bs × Int × Bs × Int × Int)) (xat : Int) (K : Bool → Prop) : Prop :=
 (((tstV0 xt xat)) = true → K false) ∧ (((tstV0 xt xat)) = false → (((xt.lab.1 == 2)) = true → lowerP xt.lab.2.1 ∧ tstj14 N xt K) ∧ (((xt.lab.1 == 2)) = false → (((xt.lab.1 == 5)) = true → lowerP xt.lab.2.1 ∧ tstj14 N xt K) ∧ (((xt.lab.1 == 5)) = false → tstj14 N xt K)))
def tstj3 (N : Nat) (xt : Tst (Int × Bs × Int × Bs × Int × Int)) (xat : Int) (K : Bool → Prop) : Prop :=
 ((decide (xt.lab.1 < 1)) = true → tstj6 N xt xat K) ∧ ((decide (xt.lab.1 < 1)) = false → ((decide (xt.lab.1 > 11)) = true → tstj6 N xt xat K) ∧ ((decide (xt.lab.1 > 11)) = false → ((((decide (xt.lab.1 ≤ 2)) && (decide (xat > 0)))) = true → tstj6 N xt xat K) ∧ ((((decide (xt.lab.1 ≤ 2)) && (decide (xat > 0)))) = false → ((!(((decide (xt.lab.1 ≥ 2)) && (decide (xt.lab.1 ≤ 5))) == !(xt.lab.2.1 == ([] : Bs)))) = true → tstj6 N xt xat K) ∧ ((!(((decide (xt.lab.1 ≥ 2)) && (decide (xt.lab.1 ≤ 5))) == !(xt.lab.2.1 == ([] : Bs)))) = false → ((((decide (xt.lab.1 ≥ 2)) && (decide (xt.lab.1 ≤ 5)))) = true → cutP xt.lab.2.1 ∧ tstj6 N xt xat K) ∧ ((((decide (xt.lab.1 ≥ 2)) && (decide (xt.lab.1 ≤ 5)))) = false → tstj6 N xt xat K)))))
def tstF (N : Nat) (xt : Tst (Int × Bs × Int × Bs × Int × Int)) (xat : Int) (K : Bool → Prop) : Prop :=
 ((decide (xt.lab.1 ≥ 2)) = true → tstj3 N xt xat K) ∧ ((decide (xt.lab.1 ≥ 2)) = false → tstj3 N xt xat K)
theorem tst_ok {g : Ghost} (N : Nat) (ih_tst : tst_C N) (ih_pts : pts_C N) {axt_0 : Option Addr} {cxt_0 : Nat} (xt : Tst (Int × Bs × Int × Bs × Int × Int)) (xat : Int) (hRxt_0 : Rep g (.slice (.pair (.slice (.slice (.tst (.pair (.int .i64) (.pair (.str) (.pair (.int .u8) (.pair (.str) (.pair (.int .i64) (.int .i64))))))))) (.slice (.int .u8)))) [.slice axt_0 xt.kids.length cxt_0] xt.kids) (hG0 : SomeInt g 0) (K : Bool → Prop)
  (hF : tstF N xt xat K) : CallsH Tryz.prog 50 #[.agg #[.int .i64 xt.lab.1, sv xt.lab.2.1, .int .u8 xt.lab.2.2.1, sv xt.lab.2.2.2.1, .int .i64 xt.lab.2.2.2.2.1, .int .i64 xt.lab.2.2.2.2.2, .slice axt_0 xt.kids.length cxt_0], .int .i64 xat] g [] (fun g' H' v => ∃ (r0 : Bool), v = .bool r0 ∧ H' = [] ∧ K r0) := by
 refine CallsH.enter 125 [(0, .agg #[.int .i64 xt.lab.1, sv xt.lab.2.1, .int .u8 xt.lab.2.2.1, sv xt.lab.2.2.2.1, .int .i64 xt.lab.2.2.2.2.1, .int .i64 xt.lab.2.2.2.2.2, .slice axt_0 xt.kids.length cxt_0]), (1, .int .i64 xat)] Tryz.func50 rfl (by kernel_rfl) (by kernel_rfl) (by kernel_rfl) fun w0 => ?_
 refine Ok.seq (Ok.region (Ok.op rfl (OpOk.box (v := .agg #[.int .i64 xt.lab.1, sv xt.lab.2.1, .int .u8 xt.lab.2.2.1, sv xt.lab.2.2.2.1, .int .i64 xt.lab.2.2.2.2.1, .int .i64 xt.lab.2.2.2.2.2, .slice axt_0 xt.kids.length cxt_0]) (cs := #[.int .i64 xt.lab.1, sv xt.lab.2.1, .int .u8 xt.lab.2.2.1, sv xt.lab.2.2.2.1, .int .i64 xt.lab.2.2.2.2.1, .int .i64 xt.lab.2.2.2.2.2, .slice axt_0 xt.kids.length cxt_0]) rfl (by kernel_rfl) rfl fun bs2 => ?_)))
 refine Ok.batch 1 [(1, .int .i64 xat), (2, pv bs2 0)] (by kernel_rfl) (Ok.nil (Ok.thenN (Ok.cut (fun a W => StA 125 [(1, .int .i64 xat), (2, pv bs2 0), (5, .bool ((decide (xt.lab.1 ≥ 2)) && (decide (xt.lab.1 ≤ 5))))] a ∧ StW w0 [.blk bs2 (.cells #[.int .i64 xt.lab.1, sv xt.lab.2.1, .int .u8 xt.lab.2.2.1, sv xt.lab.2.2.2.1, .int .i64 xt.lab.2.2.2.2.1, .int .i64 xt.lab.2.2.2.2.2, .slice axt_0 xt.kids.length cxt_0] 48)] g W ∧ tstj3 N xt xat K) ?_ ?_)))
 ·
  refine Ok.region (Ok.bat 1 [1, 2] [(6, pv bs2 0)] ?_)
  refine Ok.op rfl (OpOk.step (v := .int .i64 xt.lab.1) (Yields.load 0 rfl rfl Tryz.underlying3 rfl (by kernel_rfl)) rfl rfl (Ok.bat 2 [1, 2] [(9, .bool (decide (xt.lab.1 ≥ 2)))] ?_))
  refine Ok.boolAt 9 (decide (xt.lab.1 ≥ 2)) rfl (fun hc34 => ?_) (fun hc34 => ?_)
  ·replace hF := hF.1 hc34
   refine Ok.bat 1 [1, 2] [(9, .bool true), (10, pv bs2 0)] ?_
   refine Ok.opYes (j := 3) (d := 9) (want := true) (b := true) rfl (by kernel_rfl) (by kernel_rfl) rfl (OpOk.step (v := .int .i64 xt.lab.1) (Yields.load 0 rfl rfl Tryz.underlying3 rfl (by kernel_rfl)) rfl rfl (Ok.bat 3 [1, 2] [(5, .bool (decide (xt.lab.1 ≤ 5)))] ?_))
   refine Ok.nil (Ok.thenN (Ok.reval 5 rfl (show (.bool (decide (xt.lab.1 ≤ 5)) : Value) = .bool ((decide (xt.lab.1 ≥ 2)) && (decide (xt.lab.1 ≤ 5))) from congrArg (Value.bool) (mand_t hc34)) ?_))
   exact fun a W hA hW => ⟨hA.sub (by kernel_rfl), hW, hF⟩
  ·replace hF := hF.2 hc34
   refine Ok.bat 5 [1, 2] [(5, .bool false)] ?_
   refine Ok.nil (Ok.thenN (Ok.reval 5 rfl (show (.bool false : Value) = .bool ((decide (xt.lab.1 ≥ 2)) && (decide (xt.lab.1 ≤ 5))) from congrArg (Value.bool) (mand_f hc34)) ?_))
   exact fun a W hA hW => ⟨hA.sub (by kernel_rfl), hW, hF⟩
 ·
  clear hF
  rintro a W ⟨hA, hW, hF⟩
  refine (?_ : Ok _ _ _ _ _ _) a W hA hW
  clear hA hW
  refine Ok.seq (Ok.cut (fun a W => StA 125 [(2, pv bs2 0), (46, .bool (tstV0 xt xat))] a ∧ StW w0 [.blk bs2 (.cells #[.int .i64 xt.lab.1, sv xt.lab.2.1, .int .u8 xt.lab.2.2.1, sv xt.lab.2.2.2.1, .int .i64 xt.lab.2.2.2.2.1, .int .i64 xt.lab.2.2.2.2.2, .slice axt_0 xt.kids.length cxt_0] 48)] g W ∧ tstj6 N xt xat K) ?_ ?_)
  ·
   refine Ok.region (Ok.bat 1 [1, 2, 5] [(14, pv bs2 0)] ?_)
   refine Ok.op rfl (OpOk.step (v := .int .i64 xt.lab.1) (Yields.load 0 rfl rfl Tryz.underlying3 rfl (by kernel_rfl)) rfl rfl (Ok.bat 2 [1, 2, 5] [(17, .bool (decide (xt.lab.1 < 1)))] ?_))
   refine Ok.boolAt 17 (decide (xt.lab.1 < 1)) rfl (fun hc26 => ?_) (fun hc26 => ?_)
   ·replace hF := hF.1 hc26
    refine Ok.bat 29 [2] [(46, .bool true)] ?_
    refine Ok.nil (Ok.thenN (Ok.reval 46 rfl (show (.bool true : Value) = .bool (tstV0 xt xat) from congrArg (Value.bool) (mor_t hc26)) ?_))
    exact fun a W hA hW => ⟨hA.sub (by kernel_rfl), hW, hF⟩
   ·replace hF := hF.2 hc26
    refine Ok.bat 1 [1, 2, 5] [(17, .bool false), (18, pv bs2 0)] ?_
    refine Ok.opYes (j := 3) (d := 17) (want := false) (b := false) rfl (by kernel_rfl) (by kernel_rfl) rfl (OpOk.step (v := .int .i64 xt.lab.1) (Yields.load 0 rfl rfl Tryz.underlying3 rfl (by kernel_rfl)) rfl rfl (Ok.bat 3 [1, 2, 5] [(22, .bool (decide (xt.lab.1 > 11)))] ?_))
    refine Ok.boolAt 22 (decide (xt.lab.1 > 11)) rfl (fun hc27 => ?_) (fun hc27 => ?_)
    ·replace hF := hF.1 hc27
     refine Ok.bat 24 [2] [(46, .bool true)] ?_
     refine Ok.nil (Ok.thenN (Ok.reval 46 rfl (show (.bool true : Value) = .bool (tstV0 xt xat) from congrArg (Value.bool) ((Eq.trans (mor_t hc27) (mor_f hc26)))) ?_))
     exact fun a W hA hW => ⟨hA.sub (by kernel_rfl), hW, hF⟩
    ·replace hF := hF.2 hc27
     refine Ok.bat 1 [1, 2, 5] [(22, .bool false), (23, pv bs2 0)] ?_
     refine Ok.opYes (j := 8) (d := 22) (want := false) (b := false) rfl (by kernel_rfl) (by kernel_rfl) rfl (OpOk.step (v := .int .i64 xt.lab.1) (Yields.load 0 rfl rfl Tryz.underlying3 rfl (by kernel_rfl)) rfl rfl (Ok.bat 2 [1, 2, 5, 22] [(26, .bool (decide (xt.lab.1 ≤ 2)))] ?_))
     refine Ok.midway 3 [(2, pv bs2 0), (5, .bool ((decide (xt.lab.1 ≥ 2)) && (decide (xt.lab.1 ≤ 5)))), (22, .bool false), (29, .bool ((decide (xt.lab.1 ≤ 2)) && (decide (xat > 0))))] (fun hR28 => ?_) ?_
     ·refine Ok.boolAt 26 (decide (xt.lab.1 ≤ 2)) rfl (fun hc29 => ?_) (fun hc29 => ?_)
      ·skip
       refine Ok.bat 3 [2, 5, 22] [(29, .bool (decide (xat > 0)))] ?_
       refine Ok.reval 29 rfl (show (.bool (decide (xat > 0)) : Value) = .bool ((decide (xt.lab.1 ≤ 2)) && (decide (xat > 0))) from congrArg Value.bool (mand_t hc29)) (Ok.bat 0 [2, 5, 22] [(29, .bool ((decide (xt.lab.1 ≤ 2)) && (decide (xat > 0))))] ?_)
       exact hR28
      ·skip
       refine Ok.bat 3 [2, 5, 22] [(29, .bool false)] ?_
       refine Ok.reval 29 rfl (show (.bool false : Value) = .bool ((decide (xt.lab.1 ≤ 2)) && (decide (xat > 0))) from congrArg Value.bool (mand_f hc29)) (Ok.bat 0 [2, 5, 22] [(29, .bool ((decide (xt.lab.1 ≤ 2)) && (decide (xat > 0))))] ?_)
       exact hR28
     refine Ok.bat 2 [2, 5] [(31, .bool ((decide (xt.lab.1 ≤ 2)) && (decide (xat > 0))))] ?_
     refine Ok.boolAt 31 (((decide (xt.lab.1 ≤ 2)) && (decide (xat > 0)))) rfl (fun hc30 => ?_) (fun hc30 => ?_)
     ·replace hF := hF.1 hc30
      refine Ok.bat 15 [2] [(46, .bool true)] ?_
      refine Ok.nil (Ok.thenN (Ok.reval 46 rfl (show (.bool true : Value) = .bool (tstV0 xt xat) from congrArg (Value.bool) ((Eq.trans ((Eq.trans (mor_t hc30) (mor_f hc27))) (mor_f hc26)))) ?_))
      exact fun a W hA hW => ⟨hA.sub (by kernel_rfl), hW, hF⟩
     ·replace hF := hF.2 hc30
      refine Ok.bat 2 [2, 5] [(31, .bool false), (32, .bool ((decide (xt.lab.1 ≥ 2)) && (decide (xt.lab.1 ≤ 5)))), (33, pv bs2 1)] ?_
      refine Ok.opYes (j := 17) (d := 31) (want := false) (b := false) rfl (by kernel_rfl) (by kernel_rfl) rfl (OpOk.step (v := sv xt.lab.2.1) (Yields.load 0 rfl rfl Tryz.underlying9 rfl (by kernel_rfl)) rfl rfl (Ok.opYes (j := 17) (d := 31) (want := false) (b := false) rfl (by kernel_rfl) (by kernel_rfl) rfl (OpOk.step (v := .bool (!(xt.lab.2.1 == ([] : Bs)))) (Yields.strCmp (f := .neq) (a := xt.lab.2.1) (b := ([] : Bs)) (by kernel_rfl) (by kernel_rfl) rfl) rfl rfl (Ok.bat 3 [2, 5] [(38, .bool (!(((decide (xt.lab.1 ≥ 2)) && (decide (xt.lab.1 ≤ 5))) == !(xt.lab.2.1 == ([] : Bs)))))] ?_))))
      refine Ok.boolAt 38 (!(((decide (xt.lab.1 ≥ 2)) && (decide (xt.lab.1 ≤ 5))) == !(xt.lab.2.1 == ([] : Bs)))) rfl (fun hc31 => ?_) (fun hc31 => ?_)
      ·replace hF := hF.1 hc31
       refine Ok.bat 8 [2] [(46, .bool true)] ?_
       refine Ok.nil (Ok.thenN (Ok.reval 46 rfl (show (.bool true : Value) = .bool (tstV0 xt xat) from congrArg (Value.bool) ((Eq.trans ((Eq.trans ((Eq.trans (mor_t hc31) (mor_f hc30))) (mor_f hc27))) (mor_f hc26)))) ?_))
       exact fun a W hA hW => ⟨hA.sub (by kernel_rfl), hW, hF⟩
      ·replace hF := hF.2 hc31
       refine Ok.bat 2 [2] [(38, .bool false), (40, .bool ((decide (xt.lab.1 ≥ 2)) && (decide (xt.lab.1 ≤ 5))))] ?_
       refine Ok.boolAt 40 (((decide (xt.lab.1 ≥ 2)) && (decide (xt.lab.1 ≤ 5)))) rfl (fun hc32 => ?_) (fun hc32 => ?_)
       ·replace hF := hF.1 hc32
        refine Ok.bat 1 [2, 38] [(40, .bool true), (41, pv bs2 1)] ?_
        refine Ok.opYes (j := 26) (d := 40) (want := true) (b := true) rfl (by kernel_rfl) (by kernel_rfl) rfl (OpOk.step (v := sv xt.lab.2.1) (Yields.load 0 rfl rfl Tryz.underlying9 rfl (by kernel_rfl)) rfl rfl ?_)
        obtain ⟨hp33, hF⟩ := hF
        refine Ok.opYes (j := 26) (d := 40) (want := true) (b := true) rfl (by kernel_rfl) (by kernel_rfl) rfl (OpOk.callG (v := .bool (plainS xt.lab.2.1)) enr (fun W hW => snm_c xt.lab.2.1 (hG0.mono hW.sees) hp33) rfl ?_)
        refine Ok.bat 3 [2] [(46, .bool (!(plainS xt.lab.2.1)))] ?_
        refine Ok.nil (Ok.thenN (Ok.reval 46 rfl (show (.bool (!(plainS xt.lab.2.1)) : Value) = .bool (tstV0 xt xat) from congrArg (Value.bool) ((Eq.trans ((Eq.trans ((Eq.trans ((Eq.trans (mand_t hc32) (mor_f hc31))) (mor_f hc30))) (mor_f hc27))) (mor_f hc26)))) ?_))
        exact fun a W hA hW => ⟨hA.sub (by kernel_rfl), hW, hF⟩
       ·replace hF := hF.2 hc32
        refine Ok.bat 6 [2] [(46, .bool false)] ?_
        refine Ok.nil (Ok.thenN (Ok.reval 46 rfl (show (.bool false : Value) = .bool (tstV0 xt xat) from congrArg (Value.bool) ((Eq.trans ((Eq.trans ((Eq.trans ((Eq.trans (mand_f hc32) (mor_f hc31))) (mor_f hc30))) (mor_f hc27))) (mor_f hc26)))) ?_))
        exact fun a W hA hW => ⟨hA.sub (by kernel_rfl), hW, hF⟩
  ·
   clear hF
   rintro a W ⟨hA, hW, hF⟩
   refine (?_ : Ok _ _ _ _ _ _) a W hA hW
   clear hA hW
   refine Ok.cond (b := (tstV0 xt xat)) rfl (fun hc2 => ?_) (fun hc2 => ?_)
   ·replace hF := hF.1 hc2
    refine Ok.seq (Ok.region (Ok.batch 1 [(4, .bool false)] (by kernel_rfl) (Ok.nil (Ok.thenN (Ok.ret (Ok.thenR ?_))))))
    exact Ok.resP (vs := [.bool false]) [] [] (by decide) rfl (.inl rfl) rfl (.cons (.tmp rfl) .nil) (Gext.refl w0 g) ⟨false, rfl, rfl, hF⟩
   ·replace hF := hF.2 hc2
    refine Ok.skip (Ok.thenN (Ok.seq (Ok.cut (fun a W => StA 125 [(2, pv bs2 0), (62, .bool (tstV1 xt))] a ∧ StW w0 [.blk bs2 (.cells #[.int .i64 xt.lab.1, sv xt.lab.2.1, .int .u8 xt.lab.2.2.1, sv xt.lab.2.2.2.1, .int .i64 xt.lab.2.2.2.2.1, .int .i64 xt.lab.2.2.2.2.2, .slice axt_0 xt.kids.length cxt_0] 48)] g W ∧ tstj14 N xt K) ?_ ?_)))
    ·
     refine Ok.quiet' (by kernel_rfl) (by kernel_rfl) (OkQ.bat 1 [2] [(47, pv bs2 0)] ?_)
     refine OkQ.op rfl (OpQ.step (v := .int .i64 xt.lab.1) (Yields.load 0 rfl rfl Tryz.underlying3 rfl (by kernel_rfl)) rfl rfl (OkQ.bat 2 [2] [(50, .bool (xt.lab.1 == 2))] ?_))
     refine OkQ.boolAt 50 ((xt.lab.1 == 2)) rfl (fun hc22 => ?_) (fun hc22 => ?_)
     ·replace hF := hF.1 hc22
      refine OkQ.bat 6 [2] [(55, .bool true), (56, pv bs2 1)] ?_
      refine OkQ.opYes (j := 8) (d := 55) (want := true) (b := true) rfl (by kernel_rfl) (by kernel_rfl) rfl (OpQ.step (v := sv xt.lab.2.1) (Yields.load 0 rfl rfl Tryz.underlying9 rfl (by kernel_rfl)) rfl rfl (OkQ.bat 1 [2, 55] [(57, sv xt.lab.2.1), (58, pv bs2 1)] ?_))
      refine OkQ.opYes (j := 8) (d := 55) (want := true) (b := true) rfl (by kernel_rfl) (by kernel_rfl) rfl (OpQ.step (v := sv xt.lab.2.1) (Yields.load 0 rfl rfl Tryz.underlying9 rfl (by kernel_rfl)) rfl rfl ?_)
      obtain ⟨hp23, hF⟩ := hF
      refine OkQ.opYes (j := 8) (d := 55) (want := true) (b := true) rfl (by kernel_rfl) (by kernel_rfl) rfl (OpQ.callG (v := sv (lowerS xt.lab.2.1)) enr (fun W hW => slw_c xt.lab.2.1 hp23) rfl ?_)
      refine OkQ.opYes (j := 8) (d := 55) (want := true) (b := true) rfl (by kernel_rfl) (by kernel_rfl) rfl (OpQ.step (v := .bool (!(xt.lab.2.1 == (lowerS xt.lab.2.1)))) (Yields.strCmp (f := .neq) (a := xt.lab.2.1) (b := (lowerS xt.lab.2.1)) (by kernel_rfl) (by kernel_rfl) rfl) rfl rfl (OkQ.bat 1 [2] [(62, .bool (!(xt.lab.2.1 == (lowerS xt.lab.2.1))))] ?_))
      refine OkQ.nil (Ok.thenN (Ok.reval 62 rfl (show (.bool (!(xt.lab.2.1 == (lowerS xt.lab.2.1))) : Value) = .bool (tstV1 xt) from congrArg (Value.bool) ((if_t hc22).symm)) ?_))
      exact fun a W hA hW => ⟨hA.sub (by kernel_rfl), hW, hF⟩
     ·replace hF := hF.2 hc22
      refine OkQ.bat 1 [2] [(50, .bool false), (51, pv bs2 0)] ?_
      refine OkQ.opYes (j := 3) (d := 50) (want := false) (b := false) rfl (by kernel_rfl) (by kernel_rfl) rfl (OpQ.step (v := .int .i64 xt.lab.1) (Yields.load 0 rfl rfl Tryz.underlying3 rfl (by kernel_rfl)) rfl rfl (OkQ.bat 3 [2] [(55, .bool (xt.lab.1 == 5))] ?_))
      refine OkQ.boolAt 55 ((xt.lab.1 == 5)) rfl (fun hc24 => ?_) (fun hc24 => ?_)
      ·replace hF := hF.1 hc24
       refine OkQ.bat 1 [2] [(55, .bool true), (56, pv bs2 1)] ?_
       refine OkQ.opYes (j := 8) (d := 55) (want := true) (b := true) rfl (by kernel_rfl) (by kernel_rfl) rfl (OpQ.step (v := sv xt.lab.2.1) (Yields.load 0 rfl rfl Tryz.underlying9 rfl (by kernel_rfl)) rfl rfl (OkQ.bat 1 [2, 55] [(57, sv xt.lab.2.1), (58, pv bs2 1)] ?_))
       refine OkQ.opYes (j := 8) (d := 55) (want := true) (b := true) rfl (by kernel_rfl) (by kernel_rfl) rfl (OpQ.step (v := sv xt.lab.2.1) (Yields.load 0 rfl rfl Tryz.underlying9 rfl (by kernel_rfl)) rfl rfl ?_)
       obtain ⟨hp25, hF⟩ := hF
       refine OkQ.opYes (j := 8) (d := 55) (want := true) (b := true) rfl (by kernel_rfl) (by kernel_rfl) rfl (OpQ.callG (v := sv (lowerS xt.lab.2.1)) enr (fun W hW => slw_c xt.lab.2.1 hp25) rfl ?_)
       refine OkQ.opYes (j := 8) (d := 55) (want := true) (b := true) rfl (by kernel_rfl) (by kernel_rfl) rfl (OpQ.step (v := .bool (!(xt.lab.2.1 == (lowerS xt.lab.2.1)))) (Yields.strCmp (f := .neq) (a := xt.lab.2.1) (b := (lowerS xt.lab.2.1)) (by kernel_rfl) (by kernel_rfl) rfl) rfl rfl (OkQ.bat 1 [2] [(62, .bool (!(xt.lab.2.1 == (lowerS xt.lab.2.1))))] ?_))
       refine OkQ.nil (Ok.thenN (Ok.reval 62 rfl (show (.bool (!(xt.lab.2.1 == (lowerS xt.lab.2.1))) : Value) = .bool (tstV1 xt) from congrArg (Value.bool) ((Eq.trans (mand_t hc24) ((if_f hc22).symm)))) ?_))
       exact fun a W hA hW => ⟨hA.sub (by kernel_rfl), hW, hF⟩
      ·replace hF := hF.2 hc24
       refine OkQ.bat 7 [2] [(62, .bool false)] ?_
       refine OkQ.nil (Ok.thenN (Ok.reval 62 rfl (show (.bool false : Value) = .bool (tstV1 xt) from congrArg (Value.bool) ((Eq.trans (mand_f hc24) ((if_f hc22).symm)))) ?_))
       exact fun a W hA hW => ⟨hA.sub (by kernel_rfl), hW, hF⟩
    ·
     clear hF
     rintro a W ⟨hA, hW, hF⟩
     refine (?_ : Ok _ _ _ _ _ _) a W hA hW
     clear hA hW
     refine Ok.cond (b := (tstV1 xt)) rfl (fun hc3 => ?_) (fun hc3 => ?_)
     ·replace hF := hF.1 hc3
      refine Ok.seq (Ok.region (Ok.batch 1 [(4, .bool false)] (by kernel_rfl) (Ok.nil (Ok.thenN (Ok.ret (Ok.thenR ?_))))))
      exact Ok.resP (vs := [.bool false]) [] [] (by decide) rfl (.inl rfl) rfl (.cons (.tmp rfl) .nil) (Gext.refl w0 g) ⟨false, rfl, rfl, hF⟩
     ·replace hF := hF.2 hc3
      refine Ok.skip (Ok.thenN (Ok.seq (Ok.cut (fun a W => StA 125 [(2, pv bs2 0), (86, .bool (tstV2 xt))] a ∧ StW w0 [.blk bs2 (.cells #[.int .i64 xt.lab.1, sv xt.lab.2.1, .int .u8 xt.lab.2.2.1, sv xt.lab.2.2.2.1, .int .i64 xt.lab.2.2.2.2.1, .int .i64 xt.lab.2.2.2.2.2, .slice axt_0 xt.kids.length cxt_0] 48)] g W ∧ tstj22 N xt K) ?_ ?_)))
      ·
       refine Ok.region (Ok.bat 1 [2] [(63, pv bs2 2)] ?_)
       refine Ok.op rfl (OpOk.step (v := .int .u8 xt.lab.2.2.1) (Yields.load 0 rfl rfl Tryz.underlying5 rfl (by kernel_rfl)) rfl rfl (Ok.bat 2 [2] [(66, .bool (xt.lab.2.2.1 != 0))] ?_))
       refine Ok.boolAt 66 ((xt.lab.2.2.1 != 0)) rfl (fun hc17 => ?_) (fun hc17 => ?_)
       ·replace hF := hF.1 hc17
        refine Ok.bat 1 [2] [(66, .bool true), (67, pv bs2 0)] ?_
        refine Ok.opYes (j := 3) (d := 66) (want := true) (b := true) rfl (by kernel_rfl) (by kernel_rfl) rfl (OpOk.step (v := .int .i64 xt.lab.1) (Yields.load 0 rfl rfl Tryz.underlying3 rfl (by kernel_rfl)) rfl rfl (Ok.bat 2 [2, 66] [(70, .bool (xt.lab.1 != 5))] ?_))
        refine Ok.boolAt 70 ((xt.lab.1 != 5)) rfl (fun hc18 => ?_) (fun hc18 => ?_)
        ·replace hF := hF.1 hc18
         refine Ok.bat 16 [2] [(86, .bool true)] ?_
         refine Ok.nil (Ok.thenN (Ok.reval 86 rfl (show (.bool true : Value) = .bool (tstV2 xt) from congrArg (Value.bool) ((Eq.trans (mor_t hc18) ((if_t hc17).symm)))) ?_))
         exact fun a W hA hW => ⟨hA.sub (by kernel_rfl), hW, hF⟩
        ·replace hF := hF.2 hc18
         refine Ok.bat 1 [2, 66] [(70, .bool false), (71, pv bs2 2)] ?_
         refine Ok.opYes (j := 7) (d := 70) (want := false) (b := false) rfl (by kernel_rfl) (by kernel_rfl) rfl (OpOk.step (v := .int .u8 xt.lab.2.2.1) (Yields.load 0 rfl rfl Tryz.underlying5 rfl (by kernel_rfl)) rfl rfl (Ok.opYes (j := 7) (d := 70) (want := false) (b := false) rfl (by kernel_rfl) (by kernel_rfl) rfl (OpOk.callG (v := .int .i64 (ibS ([61, 126, 124, 94, 36, 42] : Bs) xt.lab.2.2.1)) enr (fun W hW => ib_c ([61, 126, 124, 94, 36, 42] : Bs) xt.lab.2.2.1) rfl ?_)))
         refine Ok.bat 4 [2] [(77, .bool (decide ((ibS ([61, 126, 124, 94, 36, 42] : Bs) xt.lab.2.2.1) < 0)))] ?_
         refine Ok.boolAt 77 (decide ((ibS ([61, 126, 124, 94, 36, 42] : Bs) xt.lab.2.2.1) < 0)) rfl (fun hc19 => ?_) (fun hc19 => ?_)
         ·replace hF := hF.1 hc19
          refine Ok.bat 9 [2] [(86, .bool true)] ?_
          refine Ok.nil (Ok.thenN (Ok.reval 86 rfl (show (.bool true : Value) = .bool (tstV2 xt) from congrArg (Value.bool) ((Eq.trans ((Eq.trans (mor_t hc19) (mor_f hc18))) ((if_t hc17).symm)))) ?_))
          exact fun a W hA hW => ⟨hA.sub (by kernel_rfl), hW, hF⟩
         ·replace hF := hF.2 hc19
          refine Ok.bat 1 [2] [(77, .bool false), (78, pv bs2 2)] ?_
          refine Ok.opYes (j := 14) (d := 77) (want := false) (b := false) rfl (by kernel_rfl) (by kernel_rfl) rfl (OpOk.step (v := .int .u8 xt.lab.2.2.1) (Yields.load 0 rfl rfl Tryz.underlying5 rfl (by kernel_rfl)) rfl rfl (Ok.bat 2 [2, 77] [(81, .bool (xt.lab.2.2.1 == 0))] ?_))
          refine Ok.boolAt 81 ((xt.lab.2.2.1 == 0)) rfl (fun hc20 => ?_) (fun hc20 => ?_)
          ·replace hF := hF.1 hc20
           refine Ok.bat 1 [2, 77] [(81, .bool true), (82, pv bs2 3)] ?_
           refine Ok.opYes (j := 18) (d := 81) (want := true) (b := true) rfl (by kernel_rfl) (by kernel_rfl) rfl (OpOk.step (v := sv xt.lab.2.2.2.1) (Yields.load 0 rfl rfl Tryz.underlying9 rfl (by kernel_rfl)) rfl rfl (Ok.opYes (j := 18) (d := 81) (want := true) (b := true) rfl (by kernel_rfl) (by kernel_rfl) rfl (OpOk.step (v := .bool (!(xt.lab.2.2.2.1 == ([] : Bs)))) (Yields.strCmp (f := .neq) (a := xt.lab.2.2.2.1) (b := ([] : Bs)) (by kernel_rfl) (by kernel_rfl) rfl) rfl rfl (Ok.bat 2 [2] [(86, .bool (!(xt.lab.2.2.2.1 == ([] : Bs))))] ?_))))
           refine Ok.nil (Ok.thenN (Ok.reval 86 rfl (show (.bool (!(xt.lab.2.2.2.1 == ([] : Bs))) : Value) = .bool (tstV2 xt) from congrArg (Value.bool) ((Eq.trans ((Eq.trans ((Eq.trans (mand_t hc20) (mor_f hc19))) (mor_f hc18))) ((if_t hc17).symm)))) ?_))
           exact fun a W hA hW => ⟨hA.sub (by kernel_rfl), hW, hF⟩
          ·replace hF := hF.2 hc20
           refine Ok.bat 5 [2] [(86, .bool false)] ?_
           refine Ok.nil (Ok.thenN (Ok.reval 86 rfl (show (.bool false : Value) = .bool (tstV2 xt) from congrArg (Value.bool) ((Eq.trans ((Eq.trans ((Eq.trans (mand_f hc20) (mor_f hc19))) (mor_f hc18))) ((if_t hc17).symm)))) ?_))
           exact fun a W hA hW => ⟨hA.sub (by kernel_rfl), hW, hF⟩
       ·replace hF := hF.2 hc17
        refine Ok.bat 12 [2] [(77, .bool false), (78, pv bs2 2)] ?_
        refine Ok.opYes (j := 14) (d := 77) (want := false) (b := false) rfl (by kernel_rfl) (by kernel_rfl) rfl (OpOk.step (v := .int .u8 xt.lab.2.2.1) (Yields.load 0 rfl rfl Tryz.underlying5 rfl (by kernel_rfl)) rfl rfl (Ok.bat 2 [2, 77] [(81, .bool (xt.lab.2.2.1 == 0))] ?_))
        refine Ok.boolAt 81 ((xt.lab.2.2.1 == 0)) rfl (fun hc21 => ?_) (fun hc21 => ?_)
        ·replace hF := hF.1 hc21
         refine Ok.bat 1 [2, 77] [(81, .bool true), (82, pv bs2 3)] ?_
         refine Ok.opYes (j := 18) (d := 81) (want := true) (b := true) rfl (by kernel_rfl) (by kernel_rfl) rfl (OpOk.step (v := sv xt.lab.2.2.2.1) (Yields.load 0 rfl rfl Tryz.underlying9 rfl (by kernel_rfl)) rfl rfl (Ok.opYes (j := 18) (d := 81) (want := true) (b := true) rfl (by kernel_rfl) (by kernel_rfl) rfl (OpOk.step (v := .bool (!(xt.lab.2.2.2.1 == ([] : Bs)))) (Yields.strCmp (f := .neq) (a := xt.lab.2.2.2.1) (b := ([] : Bs)) (by kernel_rfl) (by kernel_rfl) rfl) rfl rfl (Ok.bat 2 [2] [(86, .bool (!(xt.lab.2.2.2.1 == ([] : Bs))))] ?_))))
         refine Ok.nil (Ok.thenN (Ok.reval 86 rfl (show (.bool (!(xt.lab.2.2.2.1 == ([] : Bs))) : Value) = .bool (tstV2 xt) from congrArg (Value.bool) ((Eq.trans (mand_t hc21) ((if_f hc17).symm)))) ?_))
         exact fun a W hA hW => ⟨hA.sub (by kernel_rfl), hW, hF⟩
        ·replace hF := hF.2 hc21
         refine Ok.bat 5 [2] [(86, .bool false)] ?_
         refine Ok.nil (Ok.thenN (Ok.reval 86 rfl (show (.bool false : Value) = .bool (tstV2 xt) from congrArg (Value.bool) ((Eq.trans (mand_f hc21) ((if_f hc17).symm)))) ?_))
         exact fun a W hA hW => ⟨hA.sub (by kernel_rfl), hW, hF⟩
      ·
       clear hF
       rintro a W ⟨hA, hW, hF⟩
       refine (?_ : Ok _ _ _ _ _ _) a W hA hW
       clear hA hW
       refine Ok.cond (b := (tstV2 xt)) rfl (fun hc4 => ?_) (fun hc4 => ?_)
       ·replace hF := hF.1 hc4
        refine Ok.seq (Ok.region (Ok.batch 1 [(4, .bool false)] (by kernel_rfl) (Ok.nil (Ok.thenN (Ok.ret (Ok.thenR ?_))))))
        exact Ok.resP (vs := [.bool false]) [] [] (by decide) rfl (.inl rfl) rfl (.cons (.tmp rfl) .nil) (Gext.refl w0 g) ⟨false, rfl, rfl, hF⟩
       ·replace hF := hF.2 hc4
        refine Ok.skip (Ok.thenN (Ok.seq (Ok.cut (fun a W => StA 125 [(2, pv bs2 0), (115, .bool (tstV3 xt))] a ∧ StW w0 [.blk bs2 (.cells #[.int .i64 xt.lab.1, sv xt.lab.2.1, .int .u8 xt.lab.2.2.1, sv xt.lab.2.2.2.1, .int .i64 xt.lab.2.2.2.2.1, .int .i64 xt.lab.2.2.2.2.2, .slice axt_0 xt.kids.length cxt_0] 48)] g W ∧ tstj30 N xt K) ?_ ?_)))
        ·
         refine Ok.region (Ok.op rfl (OpOk.step (v := .agg #[.int .i64 xt.lab.1, sv xt.lab.2.1, .int .u8 xt.lab.2.2.1, sv xt.lab.2.2.2.1, .int .i64 xt.lab.2.2.2.2.1, .int .i64 xt.lab.2.2.2.2.2, .slice axt_0 xt.kids.length cxt_0]) (Yields.loadAgg 0 7 #[.int .i64 xt.lab.1, sv xt.lab.2.1, .int .u8 xt.lab.2.2.1, sv xt.lab.2.2.2.1, .int .i64 xt.lab.2.2.2.2.1, .int .i64 xt.lab.2.2.2.2.2, .slice axt_0 xt.kids.length cxt_0] rfl rfl Tryz.underlying48 rfl (by kernel_rfl) (by kernel_rfl) (by kernel_rfl)) rfl rfl (Ok.op rfl (OpOk.inline (args := #[.agg #[.int .i64 xt.lab.1, sv xt.lab.2.1, .int .u8 xt.lab.2.2.1, sv xt.lab.2.2.2.1, .int .i64 xt.lab.2.2.2.2.1, .int .i64 xt.lab.2.2.2.2.2, .slice axt_0 xt.kids.length cxt_0]]) 11 [(0, .agg #[.int .i64 xt.lab.1, sv xt.lab.2.1, .int .u8 xt.lab.2.2.1, sv xt.lab.2.2.2.1, .int .i64 xt.lab.2.2.2.2.1, .int .i64 xt.lab.2.2.2.2.2, .slice axt_0 xt.kids.length cxt_0])] enr Tryz.func78 rfl rfl rfl rfl (Ok.seq (Ok.region (Ok.op rfl (OpOk.box (v := .agg #[.int .i64 xt.lab.1, sv xt.lab.2.1, .int .u8 xt.lab.2.2.1, sv xt.lab.2.2.2.1, .int .i64 xt.lab.2.2.2.2.1, .int .i64 xt.lab.2.2.2.2.2, .slice axt_0 xt.kids.length cxt_0]) (cs := #[.int .i64 xt.lab.1, sv xt.lab.2.1, .int .u8 xt.lab.2.2.1, sv xt.lab.2.2.2.1, .int .i64 xt.lab.2.2.2.2.1, .int .i64 xt.lab.2.2.2.2.2, .slice axt_0 xt.kids.length cxt_0]) rfl (by kernel_rfl) rfl fun bs1i88 => ?_))))))))
         refine Ok.batch 1 [(1, pv bs1i88 0)] (by kernel_rfl) (Ok.nil (Ok.thenN (Ok.cut (fun a W => StA 11 [(2, .bool ((xt.lab.1 == 8) || (xt.lab.1 == 9)))] a ∧ StW w0 [.blk bs2 (.cells #[.int .i64 xt.lab.1, sv xt.lab.2.1, .int .u8 xt.lab.2.2.1, sv xt.lab.2.2.2.1, .int .i64 xt.lab.2.2.2.2.1, .int .i64 xt.lab.2.2.2.2.2, .slice axt_0 xt.kids.length cxt_0] 48)] g W ∧ tstj3i88 N xt K) ?_ ?_)))
         ·
          refine Ok.region (Ok.bat 1 [1] [(3, pv bs1i88 0)] ?_)
          refine Ok.op rfl (OpOk.step (v := .int .i64 xt.lab.1) (Yields.load 0 rfl rfl Tryz.underlying3 rfl (by kernel_rfl)) rfl rfl (Ok.bat 2 [1] [(6, .bool (xt.lab.1 == 8))] ?_))
          refine Ok.boolAt 6 ((xt.lab.1 == 8)) rfl (fun hc16 => ?_) (fun hc16 => ?_)
          ·replace hF := hF.1 hc16
           refine Ok.batch 5 [(2, .bool true)] (by kernel_rfl) (Ok.nil (Ok.thenN (Ok.reval 2 rfl (show (.bool true : Value) = .bool ((xt.lab.1 == 8) || (xt.lab.1 == 9)) from congrArg (Value.bool) (mor_t hc16)) ?_)))
           exact fun a W hA hW => ⟨hA.sub (by kernel_rfl), hW.sub (.cons _ (.cons_cons _ .slnil)), hF⟩
          ·replace hF := hF.2 hc16
           refine Ok.batch 1 [(6, .bool false), (7, pv bs1i88 0)] (by kernel_rfl) (Ok.opYes (j := 3) (d := 6) (want := false) (b := false) rfl (by kernel_rfl) (by kernel_rfl) rfl (OpOk.step (v := .int .i64 xt.lab.1) (Yields.load 0 rfl rfl Tryz.underlying3 rfl (by kernel_rfl)) rfl rfl (Ok.batch 3 [(2, .bool (xt.lab.1 == 9))] (by kernel_rfl) (Ok.nil (Ok.thenN (Ok.reval 2 rfl (show (.bool (xt.lab.1 == 9) : Value) = .bool ((xt.lab.1 == 8) || (xt.lab.1 == 9)) from congrArg (Value.bool) (mor_f hc16)) ?_))))))
           exact fun a W hA hW => ⟨hA.sub (by kernel_rfl), hW.sub (.cons _ (.cons_cons _ .slnil)), hF⟩
         ·
          clear hF
          rintro a W ⟨hA, hW, hF⟩
          refine (?_ : Ok _ _ _ _ _ _) a W hA hW
          clear hA hW
          refine Ok.ret (Ok.back (vs := [.bool ((xt.lab.1 == 8) || (xt.lab.1 == 9))]) (.inl rfl) rfl (.cons (.tmp rfl) .nil) rfl (Ok.batch 2 [(2, pv bs2 0), (90, .bool (!((xt.lab.1 == 8) || (xt.lab.1 == 9))))] (by kernel_rfl) (Ok.boolAt 90 (!((xt.lab.1 == 8) || (xt.lab.1 == 9))) rfl (fun hc11 => ?_) (fun hc11 => ?_))))
          ·replace hF := hF.1 hc11
           refine Ok.bat 1 [2] [(90, .bool true), (91, pv bs2 4)] ?_
           refine Ok.opYes (j := 3) (d := 90) (want := true) (b := true) rfl (by kernel_rfl) (by kernel_rfl) rfl (OpOk.step (v := .int .i64 xt.lab.2.2.2.2.1) (Yields.load 0 rfl rfl Tryz.underlying3 rfl (by kernel_rfl)) rfl rfl (Ok.bat 2 [2, 90] [(94, .bool (xt.lab.2.2.2.2.1 != 0))] ?_))
           refine Ok.boolAt 94 ((xt.lab.2.2.2.2.1 != 0)) rfl (fun hc12 => ?_) (fun hc12 => ?_)
           ·replace hF := hF.1 hc12
            refine Ok.bat 21 [2] [(115, .bool true)] ?_
            refine Ok.nil (Ok.thenN (Ok.reval 115 rfl (show (.bool true : Value) = .bool (tstV3 xt) from congrArg (Value.bool) ((Eq.trans (mor_t hc12) ((if_t hc11).symm)))) ?_))
            exact fun a W hA hW => ⟨hA.sub (by kernel_rfl), hW, hF⟩
           ·replace hF := hF.2 hc12
            refine Ok.bat 1 [2, 90] [(94, .bool false), (95, pv bs2 5)] ?_
            refine Ok.opYes (j := 7) (d := 94) (want := false) (b := false) rfl (by kernel_rfl) (by kernel_rfl) rfl (OpOk.step (v := .int .i64 xt.lab.2.2.2.2.2) (Yields.load 0 rfl rfl Tryz.underlying3 rfl (by kernel_rfl)) rfl rfl (Ok.bat 4 [2] [(100, .bool (xt.lab.2.2.2.2.2 != 0))] ?_))
            refine Ok.boolAt 100 ((xt.lab.2.2.2.2.2 != 0)) rfl (fun hc13 => ?_) (fun hc13 => ?_)
            ·replace hF := hF.1 hc13
             refine Ok.bat 15 [2] [(115, .bool true)] ?_
             refine Ok.nil (Ok.thenN (Ok.reval 115 rfl (show (.bool true : Value) = .bool (tstV3 xt) from congrArg (Value.bool) ((Eq.trans ((Eq.trans (mor_t hc13) (mor_f hc12))) ((if_t hc11).symm)))) ?_))
             exact fun a W hA hW => ⟨hA.sub (by kernel_rfl), hW, hF⟩
            ·replace hF := hF.2 hc13
             refine Ok.bat 1 [2] [(100, .bool false), (101, pv bs2 4)] ?_
             refine Ok.opYes (j := 13) (d := 100) (want := false) (b := false) rfl (by kernel_rfl) (by kernel_rfl) rfl (OpOk.step (v := .int .i64 xt.lab.2.2.2.2.1) (Yields.load 0 rfl rfl Tryz.underlying3 rfl (by kernel_rfl)) rfl rfl (Ok.bat 1 [2, 100] [(102, .int .i64 xt.lab.2.2.2.2.1), (103, pv bs2 5)] ?_))
             refine Ok.opYes (j := 13) (d := 100) (want := false) (b := false) rfl (by kernel_rfl) (by kernel_rfl) rfl (OpOk.step (v := .int .i64 xt.lab.2.2.2.2.2) (Yields.load 0 rfl rfl Tryz.underlying3 rfl (by kernel_rfl)) rfl rfl (Ok.bat 4 [2] [(108, .bool (decide ((if xt.lab.2.2.2.2.2 < xt.lab.2.2.2.2.1 then xt.lab.2.2.2.2.2 else xt.lab.2.2.2.2.1) < (-1000))))] ?_))
             refine Ok.boolAt 108 (decide ((if xt.lab.2.2.2.2.2 < xt.lab.2.2.2.2.1 then xt.lab.2.2.2.2.2 else xt.lab.2.2.2.2.1) < (-1000))) rfl (fun hc14 => ?_) (fun hc14 => ?_)
             ·replace hF := hF.1 hc14
              refine Ok.bat 7 [2] [(115, .bool true)] ?_
              refine Ok.nil (Ok.thenN (Ok.reval 115 rfl (show (.bool true : Value) = .bool (tstV3 xt) from congrArg (Value.bool) ((Eq.trans ((Eq.trans ((Eq.trans (mor_t hc14) (mor_f hc13))) (mor_f hc12))) ((if_t hc11).symm)))) ?_))
              exact fun a W hA hW => ⟨hA.sub (by kernel_rfl), hW, hF⟩
             ·replace hF := hF.2 hc14
              refine Ok.bat 1 [2] [(108, .bool false), (109, pv bs2 4)] ?_
              refine Ok.opYes (j := 21) (d := 108) (want := false) (b := false) rfl (by kernel_rfl) (by kernel_rfl) rfl (OpOk.step (v := .int .i64 xt.lab.2.2.2.2.1) (Yields.load 0 rfl rfl Tryz.underlying3 rfl (by kernel_rfl)) rfl rfl (Ok.bat 1 [2, 108] [(110, .int .i64 xt.lab.2.2.2.2.1), (111, pv bs2 5)] ?_))
              refine Ok.opYes (j := 21) (d := 108) (want := false) (b := false) rfl (by kernel_rfl) (by kernel_rfl) rfl (OpOk.step (v := .int .i64 xt.lab.2.2.2.2.2) (Yields.load 0 rfl rfl Tryz.underlying3 rfl (by kernel_rfl)) rfl rfl (Ok.bat 3 [2] [(115, .bool (decide ((if xt.lab.2.2.2.2.1 < xt.lab.2.2.2.2.2 then xt.lab.2.2.2.2.2 else xt.lab.2.2.2.2.1) > 1000)))] ?_))
              refine Ok.nil (Ok.thenN (Ok.reval 115 rfl (show (.bool (decide ((if xt.lab.2.2.2.2.1 < xt.lab.2.2.2.2.2 then xt.lab.2.2.2.2.2 else xt.lab.2.2.2.2.1) > 1000)) : Value) = .bool (tstV3 xt) from congrArg (Value.bool) ((Eq.trans ((Eq.trans ((Eq.trans (mor_f hc14) (mor_f hc13))) (mor_f hc12))) ((if_t hc11).symm)))) ?_))
              exact fun a W hA hW => ⟨hA.sub (by kernel_rfl), hW, hF⟩
          ·replace hF := hF.2 hc11
           refine Ok.bat 11 [2] [(100, .bool false), (101, pv bs2 4)] ?_
           refine Ok.opYes (j := 13) (d := 100) (want := false) (b := false) rfl (by kernel_rfl) (by kernel_rfl) rfl (OpOk.step (v := .int .i64 xt.lab.2.2.2.2.1) (Yields.load 0 rfl rfl Tryz.underlying3 rfl (by kernel_rfl)) rfl rfl (Ok.bat 1 [2, 100] [(102, .int .i64 xt.lab.2.2.2.2.1), (103, pv bs2 5)] ?_))
           refine Ok.opYes (j := 13) (d := 100) (want := false) (b := false) rfl (by kernel_rfl) (by kernel_rfl) rfl (OpOk.step (v := .int .i64 xt.lab.2.2.2.2.2) (Yields.load 0 rfl rfl Tryz.underlying3 rfl (by kernel_rfl)) rfl rfl (Ok.bat 4 [2] [(108, .bool (decide ((if xt.lab.2.2.2.2.2 < xt.lab.2.2.2.2.1 then xt.lab.2.2.2.2.2 else xt.lab.2.2.2.2.1) < (-1000))))] ?_))
           refine Ok.boolAt 108 (decide ((if xt.lab.2.2.2.2.2 < xt.lab.2.2.2.2.1 then xt.lab.2.2.2.2.2 else xt.lab.2.2.2.2.1) < (-1000))) rfl (fun hc15 => ?_) (fun hc15 => ?_)
           ·replace hF := hF.1 hc15
            refine Ok.bat 7 [2] [(115, .bool true)] ?_
            refine Ok.nil (Ok.thenN (Ok.reval 115 rfl (show (.bool true : Value) = .bool (tstV3 xt) from congrArg (Value.bool) ((Eq.trans (mor_t hc15) ((if_f hc11).symm)))) ?_))
            exact fun a W hA hW => ⟨hA.sub (by kernel_rfl), hW, hF⟩
           ·replace hF := hF.2 hc15
            refine Ok.bat 1 [2] [(108, .bool false), (109, pv bs2 4)] ?_
            refine Ok.opYes (j := 21) (d := 108) (want := false) (b := false) rfl (by kernel_rfl) (by kernel_rfl) rfl (OpOk.step (v := .int .i64 xt.lab.2.2.2.2.1) (Yields.load 0 rfl rfl Tryz.underlying3 rfl (by kernel_rfl)) rfl rfl (Ok.bat 1 [2, 108] [(110, .int .i64 xt.lab.2.2.2.2.1), (111, pv bs2 5)] ?_))
            refine Ok.opYes (j := 21) (d := 108) (want := false) (b := false) rfl (by kernel_rfl) (by kernel_rfl) rfl (OpOk.step (v := .int .i64 xt.lab.2.2.2.2.2) (Yields.load 0 rfl rfl Tryz.underlying3 rfl (by kernel_rfl)) rfl rfl (Ok.bat 3 [2] [(115, .bool (decide ((if xt.lab.2.2.2.2.1 < xt.lab.2.2.2.2.2 then xt.lab.2.2.2.2.2 else xt.lab.2.2.2.2.1) > 1000)))] ?_))
            refine Ok.nil (Ok.thenN (Ok.reval 115 rfl (show (.bool (decide ((if xt.lab.2.2.2.2.1 < xt.lab.2.2.2.2.2 then xt.lab.2.2.2.2.2 else xt.lab.2.2.2.2.1) > 1000)) : Value) = .bool (tstV3 xt) from congrArg (Value.bool) ((Eq.trans (mor_f hc15) ((if_f hc11).symm)))) ?_))
            exact fun a W hA hW => ⟨hA.sub (by kernel_rfl), hW, hF⟩
        ·
         clear hF
         rintro a W ⟨hA, hW, hF⟩
         refine (?_ : Ok _ _ _ _ _ _) a W hA hW
         clear hA hW
         refine Ok.cond (b := (tstV3 xt)) rfl (fun hc5 => ?_) (fun hc5 => ?_)
         ·replace hF := hF.1 hc5
          refine Ok.seq (Ok.region (Ok.batch 1 [(4, .bool false)] (by kernel_rfl) (Ok.nil (Ok.thenN (Ok.ret (Ok.thenR ?_))))))
          exact Ok.resP (vs := [.bool false]) [] [] (by decide) rfl (.inl rfl) rfl (.cons (.tmp rfl) .nil) (Gext.refl w0 g) ⟨false, rfl, rfl, hF⟩
         ·replace hF := hF.2 hc5
          refine Ok.skip (Ok.thenN (Ok.seq (Ok.seq (Ok.region (Ok.op rfl (OpOk.step (v := .agg #[.int .i64 xt.lab.1, sv xt.lab.2.1, .int .u8 xt.lab.2.2.1, sv xt.lab.2.2.2.1, .int .i64 xt.lab.2.2.2.2.1, .int .i64 xt.lab.2.2.2.2.2, .slice axt_0 xt.kids.length cxt_0]) (Yields.loadAgg 0 7 #[.int .i64 xt.lab.1, sv xt.lab.2.1, .int .u8 xt.lab.2.2.1, sv xt.lab.2.2.2.1, .int .i64 xt.lab.2.2.2.2.1, .int .i64 xt.lab.2.2.2.2.2, .slice axt_0 xt.kids.length cxt_0] rfl rfl Tryz.underlying48 rfl (by kernel_rfl) (by kernel_rfl) (by kernel_rfl)) rfl rfl (Ok.op rfl (OpOk.inline (args := #[.agg #[.int .i64 xt.lab.1, sv xt.lab.2.1, .int .u8 xt.lab.2.2.1, sv xt.lab.2.2.2.1, .int .i64 xt.lab.2.2.2.2.1, .int .i64 xt.lab.2.2.2.2.2, .slice axt_0 xt.kids.length cxt_0]]) 11 [(0, .agg #[.int .i64 xt.lab.1, sv xt.lab.2.1, .int .u8 xt.lab.2.2.1, sv xt.lab.2.2.2.1, .int .i64 xt.lab.2.2.2.2.1, .int .i64 xt.lab.2.2.2.2.2, .slice axt_0 xt.kids.length cxt_0])] enr Tryz.func79 rfl rfl rfl rfl (Ok.seq (Ok.region (Ok.op rfl (OpOk.box (v := .agg #[.int .i64 xt.lab.1, sv xt.lab.2.1, .int .u8 xt.lab.2.2.1, sv xt.lab.2.2.2.1, .int .i64 xt.lab.2.2.2.2.1, .int .i64 xt.lab.2.2.2.2.2, .slice axt_0 xt.kids.length cxt_0]) (cs := #[.int .i64 xt.lab.1, sv xt.lab.2.1, .int .u8 xt.lab.2.2.1, sv xt.lab.2.2.2.1, .int .i64 xt.lab.2.2.2.2.1, .int .i64 xt.lab.2.2.2.2.2, .slice axt_0 xt.kids.length cxt_0]) rfl (by kernel_rfl) rfl fun bs1i117 => ?_))))))))))))
          refine Ok.batch 1 [(1, pv bs1i117 0)] (by kernel_rfl) (Ok.nil (Ok.thenN (Ok.cut (fun a W => StA 11 [(2, .bool ((xt.lab.1 == 10) || (xt.lab.1 == 11)))] a ∧ StW w0 [.blk bs2 (.cells #[.int .i64 xt.lab.1, sv xt.lab.2.1, .int .u8 xt.lab.2.2.1, sv xt.lab.2.2.2.1, .int .i64 xt.lab.2.2.2.2.1, .int .i64 xt.lab.2.2.2.2.2, .slice axt_0 xt.kids.length cxt_0] 48)] g W ∧ tstj3i117 N xt K) ?_ ?_)))
          ·
           refine Ok.region (Ok.bat 1 [1] [(3, pv bs1i117 0)] ?_)
           refine Ok.op rfl (OpOk.step (v := .int .i64 xt.lab.1) (Yields.load 0 rfl rfl Tryz.underlying3 rfl (by kernel_rfl)) rfl rfl (Ok.bat 2 [1] [(6, .bool (xt.lab.1 == 10))] ?_))
           refine Ok.boolAt 6 ((xt.lab.1 == 10)) rfl (fun hc9 => ?_) (fun hc9 => ?_)
           ·replace hF := hF.1 hc9
            refine Ok.batch 5 [(2, .bool true)] (by kernel_rfl) (Ok.nil (Ok.thenN (Ok.reval 2 rfl (show (.bool true : Value) = .bool ((xt.lab.1 == 10) || (xt.lab.1 == 11)) from congrArg (Value.bool) (mor_t hc9)) ?_)))
            exact fun a W hA hW => ⟨hA.sub (by kernel_rfl), hW.sub (.cons _ (.cons_cons _ .slnil)), hF⟩
           ·replace hF := hF.2 hc9
            refine Ok.batch 1 [(6, .bool false), (7, pv bs1i117 0)] (by kernel_rfl) (Ok.opYes (j := 3) (d := 6) (want := false) (b := false) rfl (by kernel_rfl) (by kernel_rfl) rfl (OpOk.step (v := .int .i64 xt.lab.1) (Yields.load 0 rfl rfl Tryz.underlying3 rfl (by kernel_rfl)) rfl rfl (Ok.batch 3 [(2, .bool (xt.lab.1 == 11))] (by kernel_rfl) (Ok.nil (Ok.thenN (Ok.reval 2 rfl (show (.bool (xt.lab.1 == 11) : Value) = .bool ((xt.lab.1 == 10) || (xt.lab.1 == 11)) from congrArg (Value.bool) (mor_f hc9)) ?_))))))
            exact fun a W hA hW => ⟨hA.sub (by kernel_rfl), hW.sub (.cons _ (.cons_cons _ .slnil)), hF⟩
          ·
           clear hF
           rintro a W ⟨hA, hW, hF⟩
           refine (?_ : Ok _ _ _ _ _ _) a W hA hW
           clear hA hW
           refine Ok.ret (Ok.back (vs := [.bool ((xt.lab.1 == 10) || (xt.lab.1 == 11))]) (.inl rfl) rfl (.cons (.tmp rfl) .nil) rfl (Ok.nil (Ok.thenN (Ok.cond (b := ((xt.lab.1 == 10) || (xt.lab.1 == 11))) rfl (fun hc7 => ?_) (fun hc7 => ?_)))))
           ·replace hF := hF.1 hc7
            refine Ok.seq (Ok.region (Ok.batch 1 [(118, pv bs2 6)] (by kernel_rfl) (Ok.op rfl (OpOk.step (v := .slice axt_0 xt.kids.length cxt_0) (Yields.load 0 rfl rfl Tryz.underlying29 rfl (by kernel_rfl)) rfl rfl ?_))))
            obtain ⟨hp8, hF⟩ := hF
            refine Ok.op rfl (OpOk.callG (v := .bool (ptsS xt.kids)) enr (fun W hW => ih_pts _ xt.kids (hRxt_0.mono hW.sees) (hG0.mono hW.sees) hp8) rfl ?_)
            refine Ok.batch 1 [(4, .bool (ptsS xt.kids))] (by kernel_rfl) (Ok.nil (Ok.thenN (Ok.ret (Ok.thenR ?_))))
            exact Ok.resP (vs := [.bool (ptsS xt.kids)]) [] [] (by decide) rfl (.inl rfl) rfl (.cons (.tmp rfl) .nil) (Gext.refl w0 g) ⟨(ptsS xt.kids), rfl, rfl, hF⟩
           ·replace hF := hF.2 hc7
            refine Ok.skip (Ok.thenN (Ok.seq (Ok.region (Ok.batch 1 [(121, pv bs2 6)] (by kernel_rfl) (Ok.op rfl (OpOk.step (v := .slice axt_0 xt.kids.length cxt_0) (Yields.load 0 rfl rfl Tryz.underlying29 rfl (by kernel_rfl)) rfl rfl (Ok.batch 3 [(4, .bool ((xt.kids.length : Int) == 0))] (by kernel_rfl) (Ok.nil (Ok.thenN (Ok.ret ?_))))))))))
            exact Ok.resP (vs := [.bool ((xt.kids.length : Int) == 0)]) [] [] (by decide) rfl (.inl rfl) rfl (.cons (.tmp rfl) .nil) (Gext.refl w0 g) ⟨((xt.kids.length : Int) == 0), rfl, rfl, hF⟩
def ptsV0 (e3 : (List (List (Tst (Int × Bs × Int × Bs × Int × Int)))) × List (Int)) : Bool :=
 (((e3.1.length : Int) == 0) || ((e3.2.length : Int) != (w6 ((e3.1.length : Int) - 1))))
def ptsl45b (N : Nat) (K : Bool → Prop) (x34l30 : Int) (e8 : List (Tst (Int × Bs × Int × Bs × Int × Int))) (C30 : Int → Prop) (x40l45 : Int) (C45 : Int → Prop) : Prop :=
 ((decide (x40l45 < (e8.length : Int))) = true → (0 : Int) ≤ x40l45 ∧ Int.toNat x40l45 < e8.length ∧ tstP N (e8.getD (Int.toNat x40l45) default) x40l45 ∧ ((!(tstS (e8.getD (Int.toNat x40l45) default) x40l45)) = true → K false) ∧ ((!(tstS (e8.getD (Int.toNat x40l45) default) x40l45)) = false → C45 (w6 (x40l45 + 1)))) ∧ ((decide (x40l45 < (e8.length : Int))) = false → ((((e8.length : Int) == 0)) = true → K false) ∧ ((((e8.length : Int) == 0)) = false → C30 (w6 (x34l30 + 1))))
def ptsl45 (N : Nat) (K : Bool → Prop) (x34l30 : Int) (e8 : List (Tst (Int × Bs × Int × Bs × Int × Int))) (C30 : Int → Prop) : Nat → Int → Prop
 | 0, _ => False
 | k + 1, x40l45 => ptsl45b N K x34l30 e8 C30 x40l45 (ptsl45 N K x34l30 e8 C30 k)
def ptsl75b (K : Bool → Prop) (e3 : (List (List (Tst (Int × Bs × Int × Bs × Int × Int)))) × List (Int)) (x13l7 : Int) (C7 : Int → Prop) (x57l75 : Int) (C75 : Int → Prop) : Prop :=
 ((decide (x57l75 < (e3.2.length : Int))) = true → (0 : Int) ≤ x57l75 ∧ Int.toNat x57l75 < e3.2.length ∧ ((decide ((ibS ([32, 62, 43, 126] : Bs) (e3.2.getD (Int.toNat x57l75) default)) < 0)) = true → K false) ∧ ((decide ((ibS ([32, 62, 43, 126] : Bs) (e3.2.getD (Int.toNat x57l75) default)) < 0)) = false → C75 (w6 (x57l75 + 1)))) ∧ ((decide (x57l75 < (e3.2.length : Int))) = false → C7 (w6 (x13l7 + 1)))
def ptsl75 (K : Bool → Prop) (e3 : (List (List (Tst (Int × Bs × Int × Bs × Int × Int)))) × List (Int)) (x13l7 : Int) (C7 : Int → Prop) : Nat → Int → Prop
 | 0, _ => False
 | k + 1, x57l75 => ptsl75b K e3 x13l7 C7 x57l75 (ptsl75 K e3 x13l7 C7 k)
def ptsl30b (N : Nat) (K : Bool → Prop) (e3 : (List (List (Tst (Int × Bs × Int × Bs × Int × Int)))) × List (Int)) (x13l7 : Int) (C7 : Int → Prop) (x34l30 : Int) (C30 : Int → Prop) : Prop :=
 ((decide (x34l30 < (e3.1.length : Int))) = true → (0 : Int) ≤ x34l30 ∧ Int.toNat x34l30 < e3.1.length ∧ ∃ k, ptsl45 N K x34l30 (e3.1.getD (Int.toNat x34l30) default) C30 k 0) ∧ ((decide (x34l30 < (e3.1.length : Int))) = false → ∃ k, ptsl75 K e3 x13l7 C7 k 0)
def ptsl30 (N : Nat) (K : Bool → Prop) (e3 : (List (List (Tst (Int × Bs × Int × Bs × Int × Int)))) × List (Int)) (x13l7 : Int) (C7 : Int → Prop) : Nat → Int → Prop
 | 0, _ => False
 | k + 1, x34l30 => ptsl30b N K e3 x13l7 C7 x34l30 (ptsl30 N K e3 x13l7 C7 k)
def ptsj19 (N : Nat) (K : Bool → Prop) (e3 : (List (List (Tst (Int × Bs × Int × Bs × Int × Int)))) × List (Int)) (x13l7 : Int) (C7 : Int → Prop) : Prop :=
 (((ptsV0 e3)) = true → K false) ∧ (((ptsV0 e3)) = false → ∃ k, ptsl30 N K e3 x13l7 C7 k 0)
def ptsl7b (N : Nat) (xl : List ((List (List (Tst (Int × Bs × Int × Bs × Int × Int)))) × List (Int))) (K : Bool → Prop) (x13l7 : Int) (C7 : Int → Prop) : Prop :=
 ((decide (x13l7 < (xl.length : Int))) = true → (0 : Int) ≤ x13l7 ∧ Int.toNat x13l7 < xl.length ∧ (((((xl.getD (Int.toNat x13l7) default).1.length : Int) == 0)) = true → ptsj19 N K (xl.getD (Int.toNat x13l7) default) x13l7 C7) ∧ (((((xl.getD (Int.toNat x13l7) default).1.length : Int) == 0)) = false → ptsj19 N K (xl.getD (Int.toNat x13l7) default) x13l7 C7)) ∧ ((decide (x13l7 < (xl.length : Int))) = false → K (decide ((xl.length : Int) > 0)))
def ptsl7 (N : Nat) (xl : List ((List (List (Tst (Int × Bs × Int × Bs × Int × Int)))) × List (Int))) (K : Bool → Prop) : Nat → Int → Prop
 | 0, _ => False
 | k + 1, x13l7 => ptsl7b N xl K x13l7 (ptsl7 N xl K k)
def ptsF (N : Nat) (xl : List ((List (List (Tst (Int × Bs × Int × Bs × Int × Int)))) × List (Int))) (K : Bool → Prop) : Prop :=
 ∃ k, ptsl7 N xl K k 0
theorem pts_ok {g : Ghost} (N : Nat) (ih_tst : tst_C N) (ih_pts : pts_C N) {axl_0 : Option Addr} {cxl_0 : Nat} (xl : List ((List (List (Tst (Int × Bs × Int × Bs × Int × Int)))) × List (Int))) (hRxl_0 : Rep g (.slice (.pair (.slice (.slice (.tst (.pair (.int .i64) (.pair (.str) (.pair (.int .u8) (.pair (.str) (.pair (.int .i64) (.int .i64))))))))) (.slice (.int .u8)))) [.slice axl_0 xl.length cxl_0] xl) (hG0 : SomeInt g 0) (K : Bool → Prop)
  (hF : ptsF N xl K) : CallsH Tryz.prog 32 #[.slice axl_0 xl.length cxl_0] g [] (fun g' H' v => ∃ (r0 : Bool), v = .bool r0 ∧ H' = [] ∧ K r0) := by
 refine CallsH.enter 69 [(0, .slice axl_0 xl.length cxl_0)] Tryz.func32 rfl (by kernel_rfl) (by kernel_rfl) (by kernel_rfl) fun w0 => ?_
 refine Ok.seq (Ok.region (Ok.batch 1 [(0, .slice axl_0 xl.length cxl_0)] (by kernel_rfl) (Ok.nil (Ok.thenN (Ok.seq (Ok.seq (Ok.region (Ok.bat 3 [0] [(11, .slice axl_0 xl.length cxl_0), (12, .int .i64 (xl.length : Int)), (13, .int .i64 0)] ?_))))))))
 refine Ok.nil (Ok.thenN (Ok.block ?_))
 obtain ⟨k, hF⟩ := hF
 refine Ok.loop (fun k a W => ∃ (x13l7 : Int), StA 69 [(0, .slice axl_0 xl.length cxl_0), (11, .slice axl_0 xl.length cxl_0), (12, .int .i64 (xl.length : Int)), (13, .int .i64 x13l7)] a ∧ StW w0 [] g W ∧ ptsl7 N xl K k x13l7) k ?_ ?_
 ·
  exact fun a W hA hW => ⟨0, hA.sub (by kernel_rfl), hW, hF⟩
 ·
  clear hF
  rintro k7 a W ⟨x13l7, hA, hW, hF⟩
  cases k7 with
  | zero => exact (hF : False).elim
  | succ k7 =>
   refine (?_ : Ok _ _ _ _ _ _) a W hA hW
   clear hA hW
   refine Ok.seq (Ok.region (Ok.bat 1 [0, 11, 12, 13] [(14, .bool (decide (x13l7 < (xl.length : Int))))] ?_))
   refine Ok.nil (Ok.thenN (Ok.seq (Ok.cond (b := decide (x13l7 < (xl.length : Int))) rfl (fun hc1 => ?_) (fun hc1 => ?_))))
   ·replace hF := hF.1 hc1
    refine Ok.skip (Ok.thenN (Ok.seq (Ok.block (Ok.seq (Ok.region ?_)))))
    obtain ⟨h03, h13, hF⟩ := hF
    have he3 := get_of (l := xl) (default : (List (List (Tst (Int × Bs × Int × Bs × Int × Int)))) × List (Int)) h13
    generalize hg3 : (xl.getD (Int.toNat x13l7) default) = e3 at he3 hF ⊢
    refine Ok.op rfl (OpOk.indexRo (e := .pair (.slice (.slice (.tst (.pair (.int .i64) (.pair (.str) (.pair (.int .u8) (.pair (.str) (.pair (.int .i64) (.int .i64))))))))) (.slice (.int .u8))) (i := x13l7) (el := e3) rfl rfl Tryz.underlying29 (by kernel_rfl) hRxl_0 h03 he3 rfl fun q2 o2 cs2 _ hat2 hr2 => ?_)
    obtain ⟨_, _, rfl, ⟨a2_0, c2_0, rfl, hm2_0, hr2_0⟩, ⟨a2_1, c2_1, rfl, hm2_1, hr2_1⟩⟩ := hr2
    have hR2_0 : Rep g (.slice (.slice (.tst (.pair (.int .i64) (.pair (.str) (.pair (.int .u8) (.pair (.str) (.pair (.int .i64) (.int .i64))))))))) [.slice a2_0 e3.1.length c2_0] e3.1 := ⟨a2_0, c2_0, rfl, hm2_0, hr2_0⟩
    have hR2_1 : Rep g (.slice (.int .u8)) [.slice a2_1 e3.2.length c2_1] e3.2 := ⟨a2_1, c2_1, rfl, hm2_1, hr2_1⟩
    replace hat2 : At g q2 o2 [.slice a2_0 e3.1.length c2_0, .slice a2_1 e3.2.length c2_1] := hat2
    refine Ok.op rfl (OpOk.step (v := .agg #[.slice a2_0 e3.1.length c2_0, .slice a2_1 e3.2.length c2_1]) (Yields.loadAggRo 0 2 #[.slice a2_0 e3.1.length c2_0, .slice a2_1 e3.2.length c2_1] hat2 (by kernel_rfl) Tryz.underlying25 rfl (by kernel_rfl) (by kernel_rfl) (by kernel_rfl)) rfl rfl (Ok.op rfl (OpOk.alloc (z := .agg #[.slice none 0 0, .slice none 0 0]) (cs := #[.slice none 0 0, .slice none 0 0]) (by kernel_rfl) (by kernel_rfl) rfl fun bs4 => ?_)))
    refine Ok.op rfl (OpOk.sto (k := 2) (v := .agg #[.slice a2_0 e3.1.length c2_0, .slice a2_1 e3.2.length c2_1]) 0 #[.slice a2_0 e3.1.length c2_0, .slice a2_1 e3.2.length c2_1] rfl rfl rfl ?_)
    refine Ok.nil (Ok.thenN (Ok.seq (Ok.cut (fun a W => StA 69 [(0, .slice axl_0 xl.length cxl_0), (4, pv bs4 0), (11, .slice axl_0 xl.length cxl_0), (12, .int .i64 (xl.length : Int)), (13, .int .i64 x13l7), (30, .bool (ptsV0 e3))] a ∧ StW w0 [.blk bs4 (.cells #[.slice a2_0 e3.1.length c2_0, .slice a2_1 e3.2.length c2_1] 25)] g W ∧ ptsj19 N K e3 x13l7 (ptsl7 N xl K k7)) ?_ ?_)))
    ·
     refine Ok.region (Ok.bat 1 [0, 11, 12, 13] [(4, pv bs4 0), (17, pv bs4 0)] ?_)
     refine Ok.op rfl (OpOk.step (v := .slice a2_0 e3.1.length c2_0) (Yields.load 0 rfl rfl Tryz.underlying22 rfl (by kernel_rfl)) rfl rfl (Ok.bat 3 [0, 4, 11, 12, 13] [(21, .bool ((e3.1.length : Int) == 0))] ?_))
     refine Ok.boolAt 21 (((e3.1.length : Int) == 0)) rfl (fun hc20 => ?_) (fun hc20 => ?_)
     ·replace hF := hF.1 hc20
      refine Ok.bat 9 [0, 4, 11, 12, 13] [(30, .bool true)] ?_
      refine Ok.nil (Ok.thenN (Ok.reval 30 rfl (show (.bool true : Value) = .bool (ptsV0 e3) from congrArg (Value.bool) (mor_t hc20)) ?_))
      exact fun a W hA hW => ⟨hA.sub (by kernel_rfl), hW, hF⟩
     ·replace hF := hF.2 hc20
      refine Ok.bat 1 [0, 4, 11, 12, 13] [(21, .bool false), (22, pv bs4 1)] ?_
      refine Ok.opYes (j := 4) (d := 21) (want := false) (b := false) rfl (by kernel_rfl) (by kernel_rfl) rfl (OpOk.step (v := .slice a2_1 e3.2.length c2_1) (Yields.load 0 rfl rfl Tryz.underlying23 rfl (by kernel_rfl)) rfl rfl (Ok.bat 2 [0, 4, 11, 12, 13, 21] [(24, .int .i64 (e3.2.length : Int)), (25, pv bs4 0)] ?_))
      refine Ok.opYes (j := 4) (d := 21) (want := false) (b := false) rfl (by kernel_rfl) (by kernel_rfl) rfl (OpOk.step (v := .slice a2_0 e3.1.length c2_0) (Yields.load 0 rfl rfl Tryz.underlying22 rfl (by kernel_rfl)) rfl rfl (Ok.bat 4 [0, 4, 11, 12, 13] [(30, .bool ((e3.2.length : Int) != (w6 ((e3.1.length : Int) - 1))))] ?_))
      refine Ok.nil (Ok.thenN (Ok.reval 30 rfl (show (.bool ((e3.2.length : Int) != (w6 ((e3.1.length : Int) - 1))) : Value) = .bool (ptsV0 e3) from congrArg (Value.bool) (mor_f hc20)) ?_))
      exact fun a W hA hW => ⟨hA.sub (by kernel_rfl), hW, hF⟩
    ·
     clear hF
     rintro a W ⟨hA, hW, hF⟩
     refine (?_ : Ok _ _ _ _ _ _) a W hA hW
     clear hA hW
     refine Ok.cond (b := (ptsV0 e3)) rfl (fun hc5 => ?_) (fun hc5 => ?_)
     ·replace hF := hF.1 hc5
      refine Ok.seq (Ok.region (Ok.batch 1 [(2, .bool false)] (by kernel_rfl) (Ok.nil (Ok.thenN (Ok.ret (Ok.thenR (Ok.blockR (Ok.thenR (Ok.thenR (Ok.blockR (Ok.thenR ?_)))))))))))
      exact Ok.resP (vs := [.bool false]) [] [] (by decide) rfl (.inl rfl) rfl (.cons (.tmp rfl) .nil) (Gext.refl w0 g) ⟨false, rfl, rfl, hF⟩
     ·replace hF := hF.2 hc5
      refine Ok.skip (Ok.thenN (Ok.seq (Ok.seq (Ok.region (Ok.bat 1 [0, 4, 11, 12, 13] [(31, pv bs4 0)] ?_)))))
      refine Ok.op rfl (OpOk.step (v := .slice a2_0 e3.1.length c2_0) (Yields.load 0 rfl rfl Tryz.underlying22 rfl (by kernel_rfl)) rfl rfl (Ok.bat 2 [0, 4, 11, 12, 13] [(32, .slice a2_0 e3.1.length c2_0), (33, .int .i64 (e3.1.length : Int)), (34, .int .i64 0)] ?_))
      refine Ok.nil (Ok.thenN (Ok.block ?_))
      obtain ⟨k, hF⟩ := hF
      refine Ok.loop (fun k a W => ∃ (x34l30 : Int), StA 69 [(0, .slice axl_0 xl.length cxl_0), (4, pv bs4 0), (11, .slice axl_0 xl.length cxl_0), (12, .int .i64 (xl.length : Int)), (13, .int .i64 x13l7), (32, .slice a2_0 e3.1.length c2_0), (33, .int .i64 (e3.1.length : Int)), (34, .int .i64 x34l30)] a ∧ StW w0 [.blk bs4 (.cells #[.slice a2_0 e3.1.length c2_0, .slice a2_1 e3.2.length c2_1] 25)] g W ∧ ptsl30 N K e3 x13l7 (ptsl7 N xl K k7) k x34l30) k ?_ ?_
      ·
       exact fun a W hA hW => ⟨0, hA.sub (by kernel_rfl), hW, hF⟩
      ·
       clear hF
       rintro k30 a W ⟨x34l30, hA, hW, hF⟩
       cases k30 with
       | zero => exact (hF : False).elim
       | succ k30 =>
        refine (?_ : Ok _ _ _ _ _ _) a W hA hW
        clear hA hW
        refine Ok.seq (Ok.region (Ok.bat 1 [0, 4, 11, 12, 13, 32, 33, 34] [(35, .bool (decide (x34l30 < (e3.1.length : Int))))] ?_))
        refine Ok.nil (Ok.thenN (Ok.seq (Ok.cond (b := decide (x34l30 < (e3.1.length : Int))) rfl (fun hc6 => ?_) (fun hc6 => ?_))))
        ·replace hF := hF.1 hc6
         refine Ok.skip (Ok.thenN (Ok.seq (Ok.block (Ok.seq (Ok.region ?_)))))
         obtain ⟨h08, h18, hF⟩ := hF
         have he8 := get_of (l := e3.1) (default : List (Tst (Int × Bs × Int × Bs × Int × Int))) h18
         generalize hg8 : (e3.1.getD (Int.toNat x34l30) default) = e8 at he8 hF ⊢
         refine Ok.op rfl (OpOk.indexRo (e := .slice (.tst (.pair (.int .i64) (.pair (.str) (.pair (.int .u8) (.pair (.str) (.pair (.int .i64) (.int .i64)))))))) (i := x34l30) (el := e8) rfl rfl Tryz.underlying22 (by kernel_rfl) hR2_0 h08 he8 rfl fun q7 o7 cs7 _ hat7 hr7 => ?_)
         obtain ⟨a7_0, c7_0, rfl, hm7_0, hr7_0⟩ := hr7
         have hR7_0 : Rep g (.slice (.tst (.pair (.int .i64) (.pair (.str) (.pair (.int .u8) (.pair (.str) (.pair (.int .i64) (.int .i64)))))))) [.slice a7_0 e8.length c7_0] e8 := ⟨a7_0, c7_0, rfl, hm7_0, hr7_0⟩
         replace hat7 : At g q7 o7 [.slice a7_0 e8.length c7_0] := hat7
         refine Ok.op rfl (OpOk.step (v := .slice a7_0 e8.length c7_0) (Yields.loadRo 0 hat7 (by kernel_rfl) Tryz.underlying41 rfl (by kernel_rfl)) rfl rfl (Ok.bat 1 [0, 4, 11, 12, 13, 32, 33, 34] [(6, .slice a7_0 e8.length c7_0)] ?_))
         refine Ok.nil (Ok.thenN (Ok.seq (Ok.seq (Ok.region (Ok.bat 3 [0, 4, 6, 11, 12, 13, 32, 33, 34] [(38, .slice a7_0 e8.length c7_0), (39, .int .i64 (e8.length : Int)), (40, .int .i64 0)] ?_)))))
         refine Ok.nil (Ok.thenN (Ok.block ?_))
         obtain ⟨k, hF⟩ := hF
         refine Ok.loop (fun k a W => ∃ (x40l45 : Int), StA 69 [(0, .slice axl_0 xl.length cxl_0), (4, pv bs4 0), (6, .slice a7_0 e8.length c7_0), (11, .slice axl_0 xl.length cxl_0), (12, .int .i64 (xl.length : Int)), (13, .int .i64 x13l7), (32, .slice a2_0 e3.1.length c2_0), (33, .int .i64 (e3.1.length : Int)), (34, .int .i64 x34l30), (38, .slice a7_0 e8.length c7_0), (39, .int .i64 (e8.length : Int)), (40, .int .i64 x40l45)] a ∧ StW w0 [.blk bs4 (.cells #[.slice a2_0 e3.1.length c2_0, .slice a2_1 e3.2.length c2_1] 25)] g W ∧ ptsl45 N K x34l30 e8 (ptsl30 N K e3 x13l7 (ptsl7 N xl K k7) k30) k x40l45) k ?_ ?_
         ·
          exact fun a W hA hW => ⟨0, hA.sub (by kernel_rfl), hW, hF⟩
         ·
          clear hF
          rintro k45 a W ⟨x40l45, hA, hW, hF⟩
          cases k45 with
          | zero => exact (hF : False).elim
          | succ k45 =>
           refine (?_ : Ok _ _ _ _ _ _) a W hA hW
           clear hA hW
           refine Ok.seq (Ok.region (Ok.bat 1 [0, 4, 6, 11, 12, 13, 32, 33, 34, 38, 39, 40] [(41, .bool (decide (x40l45 < (e8.length : Int))))] ?_))
           refine Ok.nil (Ok.thenN (Ok.seq (Ok.cond (b := decide (x40l45 < (e8.length : Int))) rfl (fun hc9 => ?_) (fun hc9 => ?_))))
           ·replace hF := hF.1 hc9
            refine Ok.skip (Ok.thenN (Ok.seq (Ok.block (Ok.seq (Ok.region (Ok.bat 1 [0, 4, 6, 11, 12, 13, 32, 33, 34, 38, 39, 40] [(42, .int .i64 x40l45)] ?_))))))
            obtain ⟨h011, h111, hF⟩ := hF
            have he11 := get_of (l := e8) (default : Tst (Int × Bs × Int × Bs × Int × Int)) h111
            generalize hg11 : (e8.getD (Int.toNat x40l45) default) = e11 at he11 hF ⊢
            refine Ok.op rfl (OpOk.indexRo (e := .tst (.pair (.int .i64) (.pair (.str) (.pair (.int .u8) (.pair (.str) (.pair (.int .i64) (.int .i64))))))) (i := x40l45) (el := e11) rfl rfl Tryz.underlying41 (by kernel_rfl) hR7_0 h011 he11 rfl fun q10 o10 cs10 _ hat10 hr10 => ?_)
            have hT10_0 := hr10
            replace hT10_0 := Rep.tst.1 hT10_0
            obtain ⟨_, _, rfl, ⟨_, _, rfl, rfl, ⟨_, _, rfl, rfl, ⟨_, _, rfl, rfl, ⟨_, _, rfl, rfl, ⟨_, _, rfl, rfl, rfl⟩⟩⟩⟩⟩, ⟨a10_6, c10_6, rfl, hm10_6, hr10_6⟩⟩ := hT10_0
            have hR10_6 : Rep g (.slice (.pair (.slice (.slice (.tst (.pair (.int .i64) (.pair (.str) (.pair (.int .u8) (.pair (.str) (.pair (.int .i64) (.int .i64))))))))) (.slice (.int .u8)))) [.slice a10_6 e11.kids.length c10_6] e11.kids := ⟨a10_6, c10_6, rfl, hm10_6, hr10_6⟩
            replace hat10 : At g q10 o10 [.int .i64 e11.lab.1, sv e11.lab.2.1, .int .u8 e11.lab.2.2.1, sv e11.lab.2.2.2.1, .int .i64 e11.lab.2.2.2.2.1, .int .i64 e11.lab.2.2.2.2.2, .slice a10_6 e11.kids.length c10_6] := hat10
            refine Ok.op rfl (OpOk.step (v := .agg #[.int .i64 e11.lab.1, sv e11.lab.2.1, .int .u8 e11.lab.2.2.1, sv e11.lab.2.2.2.1, .int .i64 e11.lab.2.2.2.2.1, .int .i64 e11.lab.2.2.2.2.2, .slice a10_6 e11.kids.length c10_6]) (Yields.loadAggRo 0 7 #[.int .i64 e11.lab.1, sv e11.lab.2.1, .int .u8 e11.lab.2.2.1, sv e11.lab.2.2.2.1, .int .i64 e11.lab.2.2.2.2.1, .int .i64 e11.lab.2.2.2.2.2, .slice a10_6 e11.kids.length c10_6] hat10 (by kernel_rfl) Tryz.underlying48 rfl (by kernel_rfl) (by kernel_rfl) (by kernel_rfl)) rfl rfl (Ok.op rfl (OpOk.alloc (z := .agg #[.int .i64 0, sv ([] : Bs), .int .u8 0, sv ([] : Bs), .int .i64 0, .int .i64 0, .slice none 0 0]) (cs := #[.int .i64 0, sv ([] : Bs), .int .u8 0, sv ([] : Bs), .int .i64 0, .int .i64 0, .slice none 0 0]) (by kernel_rfl) (by kernel_rfl) rfl fun bs8 => ?_)))
            refine Ok.bat 1 [0, 4, 6, 11, 12, 13, 32, 33, 34, 38, 39, 40] [(7, .int .i64 x40l45), (8, pv bs8 0), (44, .agg #[.int .i64 e11.lab.1, sv e11.lab.2.1, .int .u8 e11.lab.2.2.1, sv e11.lab.2.2.2.1, .int .i64 e11.lab.2.2.2.2.1, .int .i64 e11.lab.2.2.2.2.2, .slice a10_6 e11.kids.length c10_6])] ?_
            refine Ok.op rfl (OpOk.sto (k := 7) (v := .agg #[.int .i64 e11.lab.1, sv e11.lab.2.1, .int .u8 e11.lab.2.2.1, sv e11.lab.2.2.2.1, .int .i64 e11.lab.2.2.2.2.1, .int .i64 e11.lab.2.2.2.2.2, .slice a10_6 e11.kids.length c10_6]) 0 #[.int .i64 e11.lab.1, sv e11.lab.2.1, .int .u8 e11.lab.2.2.1, sv e11.lab.2.2.2.1, .int .i64 e11.lab.2.2.2.2.1, .int .i64 e11.lab.2.2.2.2.2, .slice a10_6 e11.kids.length c10_6] rfl rfl rfl ?_)
            refine Ok.nil (Ok.thenN (Ok.seq (Ok.region (Ok.op rfl (OpOk.step (v := .agg #[.int .i64 e11.lab.1, sv e11.lab.2.1, .int .u8 e11.lab.2.2.1, sv e11.lab.2.2.2.1, .int .i64 e11.lab.2.2.2.2.1, .int .i64 e11.lab.2.2.2.2.2, .slice a10_6 e11.kids.length c10_6]) (Yields.loadAgg 0 7 #[.int .i64 e11.lab.1, sv e11.lab.2.1, .int .u8 e11.lab.2.2.1, sv e11.lab.2.2.2.1, .int .i64 e11.lab.2.2.2.2.1, .int .i64 e11.lab.2.2.2.2.2, .slice a10_6 e11.kids.length c10_6] rfl rfl Tryz.underlying48 rfl (by kernel_rfl) (by kernel_rfl) (by kernel_rfl)) rfl rfl (Ok.bat 1 [0, 4, 6, 11, 12, 13, 32, 33, 34, 38, 39, 40] [(45, .agg #[.int .i64 e11.lab.1, sv e11.lab.2.1, .int .u8 e11.lab.2.2.1, sv e11.lab.2.2.2.1, .int .i64 e11.lab.2.2.2.2.1, .int .i64 e11.lab.2.2.2.2.2, .slice a10_6 e11.kids.length c10_6]), (46, .int .i64 x40l45)] ?_))))))
            obtain ⟨hp13, hF⟩ := hF
            refine Ok.op rfl (OpOk.callG (v := .bool (tstS e11 x40l45)) enr (fun W hW => ih_tst _ e11 x40l45 (hR10_6.mono hW.sees) (hG0.mono hW.sees) hp13) rfl ?_)
            refine Ok.bat 1 [0, 4, 6, 11, 12, 13, 32, 33, 34, 38, 39, 40] [(48, .bool (!(tstS e11 x40l45)))] ?_
            refine Ok.nil (Ok.thenN (Ok.cond (b := !(tstS e11 x40l45)) rfl (fun hc14 => ?_) (fun hc14 => ?_)))
            ·replace hF := hF.1 hc14
             refine Ok.seq (Ok.region (Ok.batch 1 [(2, .bool false)] (by kernel_rfl) (Ok.nil (Ok.thenN (Ok.ret (Ok.blockR (Ok.thenR (Ok.thenR (Ok.blockR (Ok.thenR (Ok.blockR (Ok.thenR (Ok.thenR (Ok.blockR (Ok.thenR (Ok.blockR (Ok.thenR (Ok.thenR (Ok.blockR (Ok.thenR ?_))))))))))))))))))))
             exact Ok.resP (vs := [.bool false]) [] [] (by decide) rfl (.inl rfl) rfl (.cons (.tmp rfl) .nil) (Gext.refl w0 g) ⟨false, rfl, rfl, hF⟩
            ·replace hF := hF.2 hc14
             refine Ok.skip (Ok.blockN (Ok.thenN (Ok.region (Ok.bat 2 [0, 4, 6, 11, 12, 13, 32, 33, 34, 38, 39] [(40, .int .i64 (w6 (x40l45 + 1)))] ?_))))
             refine Ok.nil (Ok.thenN ?_)
             subst hg11
             exact fun a W hA hW => ⟨k45, Nat.lt_succ_self _, w6 (x40l45 + 1), hA.sub (by kernel_rfl), hW.sub (.cons _ (.cons_cons _ .slnil)), hF⟩
           ·replace hF := hF.2 hc9
            refine Ok.exit (Ok.thenE (Ok.thenE (Ok.blockHit (Ok.thenN (Ok.seq (Ok.region (Ok.bat 3 [0, 4, 11, 12, 13, 32, 33, 34] [(52, .bool ((e8.length : Int) == 0))] ?_)))))))
            refine Ok.nil (Ok.thenN (Ok.cond (b := ((e8.length : Int) == 0)) rfl (fun hc15 => ?_) (fun hc15 => ?_)))
            ·replace hF := hF.1 hc15
             refine Ok.seq (Ok.region (Ok.batch 1 [(2, .bool false)] (by kernel_rfl) (Ok.nil (Ok.thenN (Ok.ret (Ok.blockR (Ok.thenR (Ok.thenR (Ok.blockR (Ok.thenR (Ok.blockR (Ok.thenR (Ok.thenR (Ok.blockR (Ok.thenR ?_)))))))))))))))
             exact Ok.resP (vs := [.bool false]) [] [] (by decide) rfl (.inl rfl) rfl (.cons (.tmp rfl) .nil) (Gext.refl w0 g) ⟨false, rfl, rfl, hF⟩
            ·replace hF := hF.2 hc15
             refine Ok.skip (Ok.blockN (Ok.thenN (Ok.region (Ok.bat 2 [0, 4, 11, 12, 13, 32, 33] [(34, .int .i64 (w6 (x34l30 + 1)))] ?_))))
             refine Ok.nil (Ok.thenN ?_)
             subst hg8
             exact fun a W hA hW => ⟨k30, Nat.lt_succ_self _, w6 (x34l30 + 1), hA.sub (by kernel_rfl), hW, hF⟩
        ·replace hF := hF.2 hc6
         refine Ok.exit (Ok.thenE (Ok.thenE (Ok.blockHit (Ok.thenN (Ok.seq (Ok.region (Ok.bat 1 [0, 11, 12, 13] [(54, pv bs4 1)] ?_)))))))
         refine Ok.op rfl (OpOk.step (v := .slice a2_1 e3.2.length c2_1) (Yields.load 0 rfl rfl Tryz.underlying23 rfl (by kernel_rfl)) rfl rfl (Ok.bat 2 [0, 11, 12, 13] [(55, .slice a2_1 e3.2.length c2_1), (56, .int .i64 (e3.2.length : Int)), (57, .int .i64 0)] ?_))
         refine Ok.nil (Ok.thenN (Ok.block ?_))
         obtain ⟨k, hF⟩ := hF
         refine Ok.loop (fun k a W => ∃ (x57l75 : Int), StA 69 [(0, .slice axl_0 xl.length cxl_0), (11, .slice axl_0 xl.length cxl_0), (12, .int .i64 (xl.length : Int)), (13, .int .i64 x13l7), (55, .slice a2_1 e3.2.length c2_1), (56, .int .i64 (e3.2.length : Int)), (57, .int .i64 x57l75)] a ∧ StW w0 [] g W ∧ ptsl75 K e3 x13l7 (ptsl7 N xl K k7) k x57l75) k ?_ ?_
         ·
          exact fun a W hA hW => ⟨0, hA.sub (by kernel_rfl), hW.sub (.cons _ .slnil), hF⟩
         ·
          clear hF
          rintro k75 a W ⟨x57l75, hA, hW, hF⟩
          cases k75 with
          | zero => exact (hF : False).elim
          | succ k75 =>
           refine (?_ : Ok _ _ _ _ _ _) a W hA hW
           clear hA hW
           refine Ok.seq (Ok.region (Ok.bat 1 [0, 11, 12, 13, 55, 56, 57] [(58, .bool (decide (x57l75 < (e3.2.length : Int))))] ?_))
           refine Ok.nil (Ok.thenN (Ok.seq (Ok.cond (b := decide (x57l75 < (e3.2.length : Int))) rfl (fun hc16 => ?_) (fun hc16 => ?_))))
           ·replace hF := hF.1 hc16
            refine Ok.skip (Ok.thenN (Ok.seq (Ok.block (Ok.seq (Ok.region ?_)))))
            obtain ⟨h018, h118, hF⟩ := hF
            have he18 := get_of (l := e3.2) (default : Int) h118
            generalize hg18 : (e3.2.getD (Int.toNat x57l75) default) = e18 at he18 hF ⊢
            refine Ok.op rfl (OpOk.indexRo (e := .int .u8) (i := x57l75) (el := e18) rfl rfl Tryz.underlying23 (by kernel_rfl) hR2_1 h018 he18 rfl fun q17 o17 cs17 _ hat17 hr17 => ?_)
            obtain rfl := hr17
            replace hat17 : At g q17 o17 [.int .u8 e18] := hat17
            refine Ok.op rfl (OpOk.step (v := .int .u8 e18) (Yields.loadRo 0 hat17 (by kernel_rfl) Tryz.underlying5 rfl (by kernel_rfl)) rfl rfl (Ok.bat 1 [0, 11, 12, 13, 55, 56, 57] [(10, .int .u8 e18)] ?_))
            refine Ok.nil (Ok.thenN (Ok.seq (Ok.region (Ok.bat 1 [0, 11, 12, 13, 55, 56, 57] [(61, .int .u8 e18)] ?_))))
            refine Ok.op rfl (OpOk.callG (v := .int .i64 (ibS ([32, 62, 43, 126] : Bs) e18)) enr (fun W hW => ib_c ([32, 62, 43, 126] : Bs) e18) rfl ?_)
            refine Ok.bat 1 [0, 11, 12, 13, 55, 56, 57] [(63, .bool (decide ((ibS ([32, 62, 43, 126] : Bs) e18) < 0)))] ?_
            refine Ok.nil (Ok.thenN (Ok.cond (b := decide ((ibS ([32, 62, 43, 126] : Bs) e18) < 0)) rfl (fun hc19 => ?_) (fun hc19 => ?_)))
            ·replace hF := hF.1 hc19
             refine Ok.seq (Ok.region (Ok.batch 1 [(2, .bool false)] (by kernel_rfl) (Ok.nil (Ok.thenN (Ok.ret (Ok.blockR (Ok.thenR (Ok.thenR (Ok.blockR (Ok.blockR (Ok.thenR (Ok.thenR (Ok.blockR (Ok.thenR ?_))))))))))))))
             exact Ok.resH (vs := [.bool false]) (.inl rfl) rfl (.cons (.tmp rfl) .nil) (Gext.refl w0 g) ⟨false, rfl, rfl, hF⟩
            ·replace hF := hF.2 hc19
             refine Ok.skip (Ok.blockN (Ok.thenN (Ok.region (Ok.bat 2 [0, 11, 12, 13, 55, 56] [(57, .int .i64 (w6 (x57l75 + 1)))] ?_))))
             refine Ok.nil (Ok.thenN ?_)
             subst hg18
             exact fun a W hA hW => ⟨k75, Nat.lt_succ_self _, w6 (x57l75 + 1), hA.sub (by kernel_rfl), hW, hF⟩
           ·replace hF := hF.2 hc16
            refine Ok.exit (Ok.thenE (Ok.thenE (Ok.blockHit (Ok.blockN (Ok.thenN (Ok.region (Ok.bat 2 [0, 11, 12] [(13, .int .i64 (w6 (x13l7 + 1)))] ?_)))))))
            refine Ok.nil (Ok.thenN ?_)
            subst hg3
            exact fun a W hA hW => ⟨k7, Nat.lt_succ_self _, w6 (x13l7 + 1), hA.sub (by kernel_rfl), hW, hF⟩
   ·replace hF := hF.2 hc1
    refine Ok.exit (Ok.thenE (Ok.thenE (Ok.blockHit (Ok.thenN (Ok.seq (Ok.region (Ok.batch 4 [(2, .bool (decide ((xl.length : Int) > 0)))] (by kernel_rfl) (Ok.nil (Ok.thenN (Ok.ret ?_))))))))))
    exact Ok.resH (vs := [.bool (decide ((xl.length : Int) > 0))]) (.inl rfl) rfl (.cons (.tmp rfl) .nil) (Gext.refl w0 g) ⟨(decide ((xl.length : Int) > 0)), rfl, rfl, hF⟩
theorem tst_0 (t : Ts) (i : Int) : ¬ tstP 0 t i := fun h => absurd h.1 (Nat.not_lt_zero _)
theorem pts_0 (l : List Ph) : ¬ ptsP 0 l := fun h => absurd h.1 (Nat.not_lt_zero _)
theorem tst_F (N : Nat) (t : Ts) (i : Int) (h : tstP (N + 1) t i) : tstF N t i (fun r => r = tstS t i) := by
 have hk := tstP_kids h
 have hb := bT_kids t
 have hc : cutP t.lab.2.1 := by have := h.2.1; show t.lab.2.1.length < 4294967281; omega
 have hl : lowerP t.lab.2.1 := by have := h.2.1; show t.lab.2.1.length ≤ 140737488351232; omega
 have e := okT_eq t i
 have hop := (okB_kids h.2.2).1
 have hV2 : tstV2 t = l2 t.lab := by
  unfold tstV2 l2
  rw [ib_ops hop]
 have j117 : l0 t.lab i = false → l1 t.lab = false → l2 t.lab = false → l3 t.lab = false → tstj3i117 N t (fun r => r = tstS t i) := by
  intro h0 h1 h2 h3
  have e2 : labS t.lab i = true := by unfold labS; rw [h0, h1, h2, h3]; rfl
  rw [e2, Bool.true_and] at e
  refine ⟨fun hn => ⟨hk, ?_⟩, fun hn => ?_⟩
  ·rw [if_t hn] at e; exact e.symm
  ·rw [if_f hn] at e; exact e.symm
 have j30 : l0 t.lab i = false → l1 t.lab = false → l2 t.lab = false → tstj30 N t (fun r => r = tstS t i) := by
  intro h0 h1 h2
  refine ⟨fun h3 => ?_, fun h3 => ⟨fun _ => j117 h0 h1 h2 h3, fun _ => j117 h0 h1 h2 h3⟩⟩
  have h3 : l3 t.lab = true := h3
  show false = okT t i
  rw [e]; unfold labS; rw [h3]; simp
 have j88 : l0 t.lab i = false → l1 t.lab = false → l2 t.lab = false → tstj3i88 N t (fun r => r = tstS t i) := by
  intro h0 h1 h2
  have k := j30 h0 h1 h2
  exact ⟨fun _ => ⟨fun _ => k, fun _ => ⟨fun _ => k, fun _ => ⟨fun _ => k, fun _ => k⟩⟩⟩, fun _ => ⟨fun _ => k, fun _ => k⟩⟩
 have j22 : l0 t.lab i = false → l1 t.lab = false → tstj22 N t (fun r => r = tstS t i) := by
  intro h0 h1
  refine ⟨fun h2 => ?_, fun h2 => ?_⟩
  ·rw [hV2] at h2
   show false = okT t i
   rw [e]; unfold labS; rw [h2]; simp
  ·rw [hV2] at h2
   exact ⟨fun _ => j88 h0 h1 h2, fun _ => j88 h0 h1 h2⟩
 have j14 : l0 t.lab i = false → tstj14 N t (fun r => r = tstS t i) := by
  intro h0
  refine ⟨fun h1 => ?_, fun h1 => ?_⟩
  ·have h1 : l1 t.lab = true := h1
   show false = okT t i
   rw [e]; unfold labS; rw [h1]; simp
  ·have k := j22 h0 h1
   exact ⟨fun _ => ⟨fun _ => k, fun _ => ⟨fun _ => k, fun _ => ⟨fun _ => k, fun _ => k⟩⟩⟩, fun _ => ⟨fun _ => k, fun _ => k⟩⟩
 have j6 : tstj6 N t i (fun r => r = tstS t i) := by
  refine ⟨fun h0 => ?_, fun h0 => ?_⟩
  ·have h0 : l0 t.lab i = true := h0
   show false = okT t i
   rw [e]; unfold labS; rw [h0]; simp
  ·have k := j14 h0
   exact ⟨fun _ => ⟨hl, k⟩, fun _ => ⟨fun _ => ⟨hl, k⟩, fun _ => k⟩⟩
 have j3 : tstj3 N t i (fun r => r = tstS t i) := ⟨fun _ => j6, fun _ => ⟨fun _ => j6, fun _ => ⟨fun _ => j6, fun _ => ⟨fun _ => j6, fun _ => ⟨fun _ => ⟨hc, j6⟩, fun _ => j6⟩⟩⟩⟩⟩
 exact ⟨fun _ => j3, fun _ => j3⟩
theorem pts45 {N : Nat} {r : Bool} (s : List Ts) (hs : ∀ t ∈ s, ∀ i, tstP N t i) (hl : s.length ≤ 1048600) (k : Int) (C : Int → Prop) (R : Bool) (hC : r = R → C (w6 (k + 1))) :
  ∀ (m i : Nat), i + m = s.length → r = (ok1 (s.drop i) i && (!((s.length : Int) == 0) && R)) → ptsl45 N (fun x => x = r) k s C (m + 1) (i : Int) := by
 intro m
 induction m with
 | zero =>
  intro i hi he
  rw [List.drop_of_length_le (by omega), ok1, Bool.true_and] at he
  refine ⟨fun hc => absurd (of_decide_eq_true hc) (by omega), fun _ => ⟨fun h0 => ?_, fun h0 => ?_⟩⟩
  ·rw [he, h0]; rfl
  ·rw [h0, Bool.not_false, Bool.true_and] at he; exact hC he
 | succ m ih =>
  intro i hi he
  have hi' : i < s.length := by omega
  have ht := hs _ (get_in default hi') i
  rw [drop_get (l := s) default hi', ok1, Bool.and_assoc] at he
  refine ⟨fun _ => ⟨by omega, by rw [Int.toNat_natCast]; omega, ?_⟩, fun hc => absurd (of_decide_eq_false hc) (by omega)⟩
  rw [Int.toNat_natCast]
  refine ⟨ht, fun hb => ?_, fun hb => ?_⟩
  ·have hb : okT (s.getD i default) i = false := by simpa [tstS] using hb
   rw [he, hb, Bool.false_and]
  ·have hb : okT (s.getD i default) i = true := by simpa [tstS] using hb
   rw [hb, Bool.true_and] at he
   rw [show (i : Int) + 1 = ((i + 1 : Nat) : Int) by omega] at he
   rw [w64 (by omega), show (i : Int) + 1 = ((i + 1 : Nat) : Int) by omega]
   exact ih (i + 1) (by omega) he
theorem pts75 {r : Bool} (q : Ph) (hj : ∀ z ∈ q.2, btN z) (hl : q.2.length ≤ 1048600) (j : Int) (C : Int → Prop) (R : Bool) (hC : r = R → C (w6 (j + 1))) :
  ∀ (m i : Nat), i + m = q.2.length → r = ((q.2.drop i).all jnB && R) → ptsl75 (fun x => x = r) q j C (m + 1) (i : Int) := by
 intro m
 induction m with
 | zero =>
  intro i hi he
  rw [List.drop_of_length_le (by omega), List.all_nil, Bool.true_and] at he
  exact ⟨fun hc => absurd (of_decide_eq_true hc) (by omega), fun _ => hC he⟩
 | succ m ih =>
  intro i hi he
  have hi' : i < q.2.length := by omega
  have hz := hj _ (get_in default hi')
  rw [drop_get (l := q.2) default hi', List.all_cons, Bool.and_assoc] at he
  refine ⟨fun _ => ⟨by omega, by rw [Int.toNat_natCast]; omega, ?_⟩, fun hc => absurd (of_decide_eq_false hc) (by omega)⟩
  rw [Int.toNat_natCast, ib_joins hz]
  refine ⟨fun hb => ?_, fun hb => ?_⟩
  ·have hb : jnB (q.2.getD i default) = false := by simpa [jnB] using hb
   rw [he, hb, Bool.false_and]
  ·have hb : jnB (q.2.getD i default) = true := by simpa [jnB] using hb
   rw [hb, Bool.true_and] at he
   rw [w64 (by omega), show (i : Int) + 1 = ((i + 1 : Nat) : Int) by omega]
   exact ih (i + 1) (by omega) he
theorem pts30 {N : Nat} {r : Bool} (q : Ph) (hj : ∀ z ∈ q.2, btN z) (hs : ∀ s ∈ q.1, ∀ t ∈ s, ∀ i, tstP N t i) (hw : w2 q.1 ≤ 1048600) (hl : q.2.length ≤ 1048600) (j : Int) (C : Int → Prop) (R : Bool) (hC : r = R → C (w6 (j + 1))) :
  ∀ (m i : Nat), i + m = q.1.length → r = (ok2 (q.1.drop i) && (q.2.all jnB && R)) → ptsl30 N (fun x => x = r) q j C (m + 1) (i : Int) := by
 intro m
 induction m with
 | zero =>
  intro i hi he
  rw [List.drop_of_length_le (by omega), ok2, Bool.true_and] at he
  exact ⟨fun hc => absurd (of_decide_eq_true hc) (by omega), fun _ => ⟨_, pts75 q hj hl j C R hC q.2.length 0 (by omega) (by rw [List.drop_zero]; exact he)⟩⟩
 | succ m ih =>
  intro i hi he
  have hi' : i < q.1.length := by omega
  have hin := get_in default hi'
  have ht := hs _ hin
  have h1 := w1_len (q.1.getD i default)
  have h2 := w2_in hin
  have h3 := w2_len q.1
  rw [drop_get (l := q.1) default hi', ok2, Bool.and_assoc, Bool.and_assoc] at he
  refine ⟨fun _ => ⟨by omega, by rw [Int.toNat_natCast]; omega, ?_⟩, fun hc => absurd (of_decide_eq_false hc) (by omega)⟩
  rw [Int.toNat_natCast]
  refine ⟨_, pts45 (q.1.getD i default) ht (by omega) (i : Int) _ _ (fun h => ?_) (q.1.getD i default).length 0 (by omega) (by rw [List.drop_zero]; exact he)⟩
  rw [w64 (by omega), show (i : Int) + 1 = ((i + 1 : Nat) : Int) by omega]
  exact ih (i + 1) (by omega) h
theorem pts_F (N : Nat) (l : List Ph) (h : ptsP (N + 1) l) : ptsF N l (fun r => r = ptsS l) := by
 have h5 := b3_eq l
 have hlen := w3_len l
 have hin := fun q hq s hs t ht i => ptsP_in h (q := q) hq (s := s) hs (t := t) ht i
 obtain ⟨_, hb, ho⟩ := h
 have loop : ∀ (m i : Nat), i + m = l.length → ptsS l = (ok3 (l.drop i) && decide ((l.length : Int) > 0)) → ptsl7 N l (fun r => r = ptsS l) (m + 1) (i : Int) := by
  intro m
  induction m with
  | zero =>
   intro i hi he
   rw [List.drop_of_length_le (by omega), ok3, Bool.true_and] at he
   exact ⟨fun hc => absurd (of_decide_eq_true hc) (by omega), fun _ => he.symm⟩
  | succ m ih =>
   intro i hi he
   have hi' : i < l.length := by omega
   have hq := get_in default hi'
   have hwq := w3_in hq
   have hq1 := w2_len (l.getD i default).1
   rw [drop_get (l := l) default hi', ok3_cons, Bool.and_assoc, Bool.and_assoc, Bool.and_assoc] at he
   refine ⟨fun _ => ⟨by omega, by rw [Int.toNat_natCast]; omega, ?_⟩, fun hc => absurd (of_decide_eq_false hc) (by omega)⟩
   rw [Int.toNat_natCast]
   have j19 : ptsj19 N (fun r => r = ptsS l) (l.getD i default) (i : Int) (ptsl7 N l (fun r => r = ptsS l) (m + 1)) := by
    have hV : ptsV0 (l.getD i default) = (((((l.getD i default).1.length : Int) == 0)) || (((l.getD i default).2.length : Int) != ((l.getD i default).1.length : Int) - 1)) := by
     unfold ptsV0
     rw [w64 (by omega)]
    refine ⟨fun h0 => ?_, fun h0 => ?_⟩
    ·rw [hV] at h0
     rw [he, h0]; rfl
    ·rw [hV] at h0
     rw [h0, Bool.not_false, Bool.true_and] at he
     refine ⟨_, pts30 (l.getD i default) (ho _ hq).1 (hin _ hq) (by omega) (by omega) (i : Int) _ _ (fun h => ?_) (l.getD i default).1.length 0 (by omega) (by rw [List.drop_zero]; exact he)⟩
     rw [w64 (by omega), show (i : Int) + 1 = ((i + 1 : Nat) : Int) by omega]
     exact ih (i + 1) (by omega) h
   exact ⟨fun _ => j19, fun _ => j19⟩
 exact ⟨_, loop l.length 0 (by omega) (by rw [List.drop_zero]; rfl)⟩
theorem tst_rec : ∀ N, tst_C N ∧ pts_C N
 | 0 => ⟨(by intro g axt_0 cxt_0 xt xat hRxt_0 hG0 hp; exact (tst_0 xt xat hp).elim), (by intro g axl_0 cxl_0 xl hRxl_0 hG0 hp; exact (pts_0 xl hp).elim)⟩
 | N + 1 =>
  have ih := tst_rec N
  ⟨(by intro g axt_0 cxt_0 xt xat hRxt_0 hG0 hp; exact (tst_ok N ih.1 ih.2 xt xat hRxt_0 hG0 _ (tst_F N xt xat hp)).gives (by rintro g' H' v _ ⟨r0, rfl, rfl, hK⟩; subst hK; rfl)), (by intro g axl_0 cxl_0 xl hRxl_0 hG0 hp; exact (pts_ok N ih.1 ih.2 xl hRxl_0 hG0 _ (pts_F N xl hp)).gives (by rintro g' H' v _ ⟨r0, rfl, rfl, hK⟩; subst hK; rfl))⟩
def ptsPE (xl : List ((List (List (Tst (Int × Bs × Int × Bs × Int × Int)))) × List (Int))) : Prop := ∃ N, ptsP N xl
theorem pts_c {g : Ghost} {axl_0 : Option Addr} {cxl_0 : Nat} (xl : List ((List (List (Tst (Int × Bs × Int × Bs × Int × Int)))) × List (Int))) (hRxl_0 : Rep g (.slice (.pair (.slice (.slice (.tst (.pair (.int .i64) (.pair (.str) (.pair (.int .u8) (.pair (.str) (.pair (.int .i64) (.int .i64))))))))) (.slice (.int .u8)))) [.slice axl_0 xl.length cxl_0] xl) (hG0 : SomeInt g 0)  (hp : ptsPE xl) : CallsG Tryz.prog 32 #[.slice axl_0 xl.length cxl_0] g (.bool (ptsS xl)) := by
 obtain ⟨N, hp⟩ := hp
 exact (tst_rec N).2 _ xl hRxl_0 hG0 hp
end Go.Proofs.YtcnhdkhkadiohaaGreatDoor.Se
