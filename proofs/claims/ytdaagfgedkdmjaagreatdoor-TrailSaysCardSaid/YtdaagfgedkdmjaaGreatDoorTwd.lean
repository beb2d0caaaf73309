/- Trails: the document's TrailRight. -/
import Derived.Test.YtdaagfgedkdmjaaGreatDoorTwc
namespace Go.Proofs.YtdaagfgedkdmjaaGreatDoor.Ub
open Go Go.Eng Go.RowKit Go.Shelf Go.Proofs Bld Sp Ti Uc Ua Ui
set_option maxHeartbeats 4000000
set_option maxRecDepth 100000
set_option linter.unusedSimpArgs false
set_option linter.unusedVariables false
noncomputable section
def rtrV4 (e4 : Bs × Bs × Int) (x4l11 : Bool) : Bool :=
 ((x4l11 && ((resS e4.1 e4.1).2 == 0)) && (((resS e4.1 e4.1).1 == e4.1) && (rbetM e4.2.2 0 1000000)))
def rtrV6 (xt : (List (Bs × Bs × Int)) × Int) (x3l11 : Bool) (x31l11 : Int) : Bool :=
 (x3l11 || (decide (((xt.1.getD (Int.toNat x31l11) default).2.1.length : Int) > 2000)))
def rtrV8 (e4 : Bs × Bs × Int) (x4l39 : Bool) (e14 : Bs × Bs × Int) : Bool :=
 (x4l39 && ((oriS (parS e4.1).1) == (oriS (parS e14.1).1)))
def rtrV9 (xt : (List (Bs × Bs × Int)) × Int) (e4 : Bs × Bs × Int) (x4l63 : Bool) (x113l63 : Int) (x83l39 : Int) (x31l11 : Int) : Bool :=
 (x4l63 && ((((xt.1.take (Int.toNat x31l11)).drop (Int.toNat x83l39)).getD (Int.toNat x113l63) default).2.2 == e4.2.2))
def rtrj18 (xt : (List (Bs × Bs × Int)) × Int) (x4j18 : Bool) (x3l11 : Bool) (x31l11 : Int) (C11 : Bool → Bool → Int → Prop) : Prop :=
 C11 (rtrV6 xt x3l11 x31l11) x4j18 (w6 (x31l11 + 1))
def rtrj46 (x4j46 : Bool) (x83l39 : Int) (C39 : Bool → Int → Prop) : Prop :=
 C39 x4j46 (w6 (x83l39 + 1))
def rtrj70 (xt : (List (Bs × Bs × Int)) × Int) (e4 : Bs × Bs × Int) (x4l63 : Bool) (x113l63 : Int) (x83l39 : Int) (x31l11 : Int) (C63 : Bool → Int → Prop) : Prop :=
 C63 (rtrV9 xt e4 x4l63 x113l63 x83l39 x31l11) (w6 (x113l63 + 1))
def rtrl63b (xt : (List (Bs × Bs × Int)) × Int) (e4 : Bs × Bs × Int) (x83l39 : Int) (x31l11 : Int) (C39 : Bool → Int → Prop) (x4l63 : Bool) (x113l63 : Int) (C63 : Bool → Int → Prop) : Prop :=
 ((decide (x113l63 < (((xt.1.take (Int.toNat x31l11)).drop (Int.toNat x83l39)).length : Int))) = true → (0 : Int) ≤ x113l63 ∧ Int.toNat x113l63 < ((xt.1.take (Int.toNat x31l11)).drop (Int.toNat x83l39)).length ∧ ((x4l63) = true → rtrj70 xt e4 x4l63 x113l63 x83l39 x31l11 C63) ∧ ((x4l63) = false → rtrj70 xt e4 x4l63 x113l63 x83l39 x31l11 C63)) ∧ ((decide (x113l63 < (((xt.1.take (Int.toNat x31l11)).drop (Int.toNat x83l39)).length : Int))) = false → rtrj46 x4l63 x83l39 C39)
def rtrl63 (xt : (List (Bs × Bs × Int)) × Int) (e4 : Bs × Bs × Int) (x83l39 : Int) (x31l11 : Int) (C39 : Bool → Int → Prop) : Nat → Bool → Int → Prop
 | 0, _, _ => False
 | k + 1, x4l63, x113l63 => rtrl63b xt e4 x83l39 x31l11 C39 x4l63 x113l63 (rtrl63 xt e4 x83l39 x31l11 C39 k)
def rtrj58 (xt : (List (Bs × Bs × Int)) × Int) (e4 : Bs × Bs × Int) (x4l39 : Bool) (x83l39 : Int) (x31l11 : Int) (e14 : Bs × Bs × Int) (C39 : Bool → Int → Prop) : Prop :=
 (0 : Int) ≤ x83l39 ∧ (x83l39 : Int) ≤ x31l11 ∧ x31l11 ≤ (xt.1.length : Int) ∧ ∃ k, rtrl63 xt e4 x83l39 x31l11 C39 k (rtrV8 e4 x4l39 e14) 0
def rtrl39b (xt : (List (Bs × Bs × Int)) × Int) (e4 : Bs × Bs × Int) (x3l11 : Bool) (x31l11 : Int) (C11 : Bool → Bool → Int → Prop) (x4l39 : Bool) (x83l39 : Int) (C39 : Bool → Int → Prop) : Prop :=
 ((decide (x83l39 < ((xt.1.take (Int.toNat x31l11)).length : Int))) = true → (0 : Int) ≤ x83l39 ∧ Int.toNat x83l39 < (xt.1.take (Int.toNat x31l11)).length ∧ (((((xt.1.take (Int.toNat x31l11)).getD (Int.toNat x83l39) default).2.2 != e4.2.2)) = true → rtrj46 x4l39 x83l39 C39) ∧ (((((xt.1.take (Int.toNat x31l11)).getD (Int.toNat x83l39) default).2.2 != e4.2.2)) = false → ((x4l39) = true → oriP (parS e4.1).1 ∧ oriP (parS ((xt.1.take (Int.toNat x31l11)).getD (Int.toNat x83l39) default).1).1 ∧ rtrj58 xt e4 x4l39 x83l39 x31l11 ((xt.1.take (Int.toNat x31l11)).getD (Int.toNat x83l39) default) C39) ∧ ((x4l39) = false → rtrj58 xt e4 x4l39 x83l39 x31l11 ((xt.1.take (Int.toNat x31l11)).getD (Int.toNat x83l39) default) C39))) ∧ ((decide (x83l39 < ((xt.1.take (Int.toNat x31l11)).length : Int))) = false → rtrj18 xt x4l39 x3l11 x31l11 C11)
def rtrl39 (xt : (List (Bs × Bs × Int)) × Int) (e4 : Bs × Bs × Int) (x3l11 : Bool) (x31l11 : Int) (C11 : Bool → Bool → Int → Prop) : Nat → Bool → Int → Prop
 | 0, _, _ => False
 | k + 1, x4l39, x83l39 => rtrl39b xt e4 x3l11 x31l11 C11 x4l39 x83l39 (rtrl39 xt e4 x3l11 x31l11 C11 k)
def rtrj26 (xt : (List (Bs × Bs × Int)) × Int) (e4 : Bs × Bs × Int) (x3l11 : Bool) (x4l11 : Bool) (x31l11 : Int) (C11 : Bool → Bool → Int → Prop) : Prop :=
 ((((!(rtrV4 e4 x4l11)) || (x3l11 || (decide ((e4.2.1.length : Int) > 2000))))) = true → rtrj18 xt (rtrV4 (xt.1.getD (Int.toNat x31l11) default) x4l11) x3l11 x31l11 C11) ∧ ((((!(rtrV4 e4 x4l11)) || (x3l11 || (decide ((e4.2.1.length : Int) > 2000))))) = false → (0 : Int) ≤ 0 ∧ (0 : Int) ≤ x31l11 ∧ x31l11 ≤ (xt.1.length : Int) ∧ ∃ k, rtrl39 xt e4 x3l11 x31l11 C11 k (rtrV4 e4 x4l11) 0)
def rtrj22 (xt : (List (Bs × Bs × Int)) × Int) (e4 : Bs × Bs × Int) (x3l11 : Bool) (x4l11 : Bool) (x31l11 : Int) (C11 : Bool → Bool → Int → Prop) : Prop :=
 (((x4l11 && ((resS e4.1 e4.1).2 == 0))) = true → ((((resS e4.1 e4.1).1 == e4.1)) = true → rtrj26 xt e4 x3l11 x4l11 x31l11 C11) ∧ ((((resS e4.1 e4.1).1 == e4.1)) = false → rtrj26 xt e4 x3l11 x4l11 x31l11 C11)) ∧ (((x4l11 && ((resS e4.1 e4.1).2 == 0))) = false → rtrj26 xt e4 x3l11 x4l11 x31l11 C11)
def rtrl11b (xt : (List (Bs × Bs × Int)) × Int) (K : Int → Prop) (x3l11 : Bool) (x4l11 : Bool) (x31l11 : Int) (C11 : Bool → Bool → Int → Prop) : Prop :=
 ((decide (x31l11 < (xt.1.length : Int))) = true → (0 : Int) ≤ x31l11 ∧ Int.toNat x31l11 < xt.1.length ∧ ((x3l11) = true → rtrj22 xt (xt.1.getD (Int.toNat x31l11) default) x3l11 x4l11 x31l11 C11) ∧ ((x3l11) = false → rtrj22 xt (xt.1.getD (Int.toNat x31l11) default) x3l11 x4l11 x31l11 C11)) ∧ ((decide (x31l11 < (xt.1.length : Int))) = false → ((x3l11) = true → K 2) ∧ ((x3l11) = false → ((!x4l11) = true → K 3) ∧ ((!x4l11) = false → K 0)))
def rtrl11 (xt : (List (Bs × Bs × Int)) × Int) (K : Int → Prop) : Nat → Bool → Bool → Int → Prop
 | 0, _, _, _ => False
 | k + 1, x3l11, x4l11, x31l11 => rtrl11b xt K x3l11 x4l11 x31l11 (rtrl11 xt K k)
def rtrF (xt : (List (Bs × Bs × Int)) × Int) (K : Int → Prop) : Prop :=
 ∃ k, rtrl11 xt K k (decide ((xt.1.length : Int) > 50)) (rbetM xt.2 0 (w6 ((xt.1.length : Int) - 1))) 0
theorem rtr_ok {g : Ghost} {axt_0 : Option Addr} {cxt_0 : Nat} (xt : (List (Bs × Bs × Int)) × Int) (hRxt_0 : Rep g (.slice (.pair (.str) (.pair (.str) (.int .i64)))) [.slice axt_0 xt.1.length cxt_0] xt.1) (hG0 : SomeInt g 0) (hG1 : GlobL g 1 (.int .u64) DPow) (K : Int → Prop)
  (hF : rtrF xt K) : CallsH Tryz.prog 11 #[.agg ⟨vT xt axt_0 cxt_0⟩] g [] (fun g' H' v => ∃ (r0 : Int), v = .int .i64 r0 ∧ H' = [] ∧ K r0) := by
 refine CallsH.enter 133 [(0, .agg ⟨vT xt axt_0 cxt_0⟩)] Tryz.func11 rfl (by kernel_rfl) (by kernel_rfl) (by kernel_rfl) fun w0 => ?_
 refine Ok.seq (Ok.region (Ok.op rfl (OpOk.box (v := .agg ⟨vT xt axt_0 cxt_0⟩) (cs := ⟨vT xt axt_0 cxt_0⟩) rfl (by kernel_rfl) rfl fun b1 => ?_)))
 refine Ok.batch 1 [(1, pv b1 0)] (by kernel_rfl) (Ok.nil (Ok.thenN (Ok.seq (Ok.region (Ok.bat 1 [1] [(17, pv b1 0)] ?_)))))
 refine Ok.op rfl (OpOk.step (v := .slice axt_0 xt.1.length cxt_0) (Yields.load 0 rfl rfl Tryz.underlying22 rfl (by kernel_rfl)) rfl rfl (Ok.bat 3 [1] [(3, .bool (decide ((xt.1.length : Int) > 50)))] ?_))
 refine Ok.nil (Ok.thenN (Ok.seq (Ok.region (Ok.bat 1 [1, 3] [(21, pv b1 1)] ?_))))
 refine Ok.op rfl (OpOk.step (v := .int .i64 xt.2) (Yields.load 0 rfl rfl Tryz.underlying3 rfl (by kernel_rfl)) rfl rfl (Ok.bat 1 [1, 3] [(22, .int .i64 xt.2), (23, pv b1 0)] ?_))
 refine Ok.op rfl (OpOk.step (v := .slice axt_0 xt.1.length cxt_0) (Yields.load 0 rfl rfl Tryz.underlying22 rfl (by kernel_rfl)) rfl rfl (Ok.bat 2 [1, 3, 22] [(26, .int .i64 (w6 ((xt.1.length : Int) - 1)))] ?_))
 refine Ok.op rfl (OpOk.callG (v := .bool (rbetM xt.2 0 (w6 ((xt.1.length : Int) - 1)))) enr (fun W hW => rbet_c xt.2 0 (w6 ((xt.1.length : Int) - 1))) rfl ?_)
 refine Ok.bat 1 [1, 3] [(4, .bool (rbetM xt.2 0 (w6 ((xt.1.length : Int) - 1))))] ?_
 refine Ok.nil (Ok.thenN (Ok.seq (Ok.seq (Ok.region (Ok.bat 1 [1, 3, 4] [(28, pv b1 0)] ?_)))))
 refine Ok.op rfl (OpOk.step (v := .slice axt_0 xt.1.length cxt_0) (Yields.load 0 rfl rfl Tryz.underlying22 rfl (by kernel_rfl)) rfl rfl (Ok.bat 2 [1, 3, 4] [(29, .slice axt_0 xt.1.length cxt_0), (30, .int .i64 (xt.1.length : Int)), (31, .int .i64 0)] ?_))
 refine Ok.nil (Ok.thenN (Ok.block ?_))
 obtain ⟨k, hF⟩ := hF
 refine Ok.loop (fun k a W => ∃ gl11 : Ghost, Gext w0 g gl11 ∧ ∃ (x3l11 : Bool) (x4l11 : Bool) (x31l11 : Int), StA 133 [(1, pv b1 0), (3, .bool x3l11), (4, .bool x4l11), (29, .slice axt_0 xt.1.length cxt_0), (30, .int .i64 (xt.1.length : Int)), (31, .int .i64 x31l11)] a ∧ StW w0 [.blk b1 (.cells ⟨vT xt axt_0 cxt_0⟩ 24)] gl11 W ∧ rtrl11 xt K k x3l11 x4l11 x31l11) k ?_ ?_
 ·
  exact fun a W hA hW => ⟨g, (Gext.refl w0 g), decide ((xt.1.length : Int) > 50), (rbetM xt.2 0 (w6 ((xt.1.length : Int) - 1))), 0, hA.sub (by kernel_rfl), hW, hF⟩
 ·
  clear hF
  rintro k11 a W ⟨gl11, hxl11, x3l11, x4l11, x31l11, hA, hW, hF⟩
  cases k11 with
  | zero => exact (hF : False).elim
  | succ k11 =>
   refine (?_ : Ok _ _ _ _ _ _) a W hA hW
   clear hA hW
   replace hRxt_0 := hRxt_0.mono hxl11.1
   replace hG0 := hG0.mono hxl11.1
   replace hG1 := hG1.mono hxl11.1
   refine Ok.seq (Ok.region (Ok.bat 1 [1, 3, 4, 29, 30, 31] [(32, .bool (decide (x31l11 < (xt.1.length : Int))))] ?_))
   refine Ok.nil (Ok.thenN (Ok.seq (Ok.cond (b := decide (x31l11 < (xt.1.length : Int))) rfl (fun hc2 => ?_) (fun hc2 => ?_))))
   ·replace hF := hF.1 hc2
    refine Ok.skip (Ok.thenN (Ok.cut (fun a W => ∃ gj18 : Ghost, Gext w0 gl11 gj18 ∧ ∃ (x4j18 : Bool), StA 133 [(1, pv b1 0), (3, .bool (rtrV6 xt x3l11 x31l11)), (4, .bool x4j18), (29, .slice axt_0 xt.1.length cxt_0), (30, .int .i64 (xt.1.length : Int)), (31, .int .i64 x31l11)] a ∧ StW w0 [.blk b1 (.cells ⟨vT xt axt_0 cxt_0⟩ 24)] gj18 W ∧ rtrj18 xt x4j18 x3l11 x31l11 (rtrl11 xt K k11)) ?_ ?_))
    ·
     refine Ok.block (Ok.seq (Ok.region (Ok.bat 1 [1, 3, 4, 29, 30, 31] [(33, .int .i64 x31l11)] ?_)))
     obtain ⟨h04, h14, hF⟩ := hF
     have he4 := get_of (l := xt.1) (default : Bs × Bs × Int) h14
     generalize hg4 : (xt.1.getD (Int.toNat x31l11) default) = e4 at he4 hF ⊢
     refine Ok.op rfl (OpOk.indexRo (e := .pair (.str) (.pair (.str) (.int .i64))) (i := x31l11) (el := e4) rfl rfl Tryz.underlying22 (by kernel_rfl) hRxt_0 h04 he4 rfl fun q3 o3 cs3 _ hat3 hr3 => ?_)
     obtain ⟨_, _, rfl, rfl, ⟨_, _, rfl, rfl, rfl⟩⟩ := hr3
     replace hat3 : At gl11 q3 o3 (vE e4) := hat3
     refine Ok.op rfl (OpOk.step (v := .agg ⟨vE e4⟩) (Yields.loadAggRo 0 3 ⟨vE e4⟩ hat3 (by kernel_rfl) Tryz.underlying36 rfl (by kernel_rfl) (by kernel_rfl) (by kernel_rfl)) rfl rfl (Ok.op rfl (OpOk.alloc (z := .agg #[sv ([] : Bs), sv ([] : Bs), .int .i64 0]) (cs := #[sv ([] : Bs), sv ([] : Bs), .int .i64 0]) (by kernel_rfl) (by kernel_rfl) rfl fun b5 => ?_)))
     refine Ok.bat 1 [1, 3, 4, 29, 30, 31] [(5, .int .i64 x31l11), (6, pv b5 0), (35, .agg ⟨vE e4⟩)] ?_
     refine Ok.op rfl (OpOk.sto (k := 3) (v := .agg ⟨vE e4⟩) 0 ⟨vE e4⟩ rfl rfl rfl ?_)
     refine Ok.nil (Ok.thenN (Ok.cut (fun a W => ∃ gj22 : Ghost, Gext w0 gl11 gj22 ∧ StA 133 [(1, pv b1 0), (3, .bool (x3l11 || (decide ((e4.2.1.length : Int) > 2000)))), (4, .bool x4l11), (5, .int .i64 x31l11), (6, pv b5 0), (29, .slice axt_0 xt.1.length cxt_0), (30, .int .i64 (xt.1.length : Int)), (31, .int .i64 x31l11)] a ∧ StW w0 [.blk b5 (.cells ⟨vE e4⟩ 36), .blk b1 (.cells ⟨vT xt axt_0 cxt_0⟩ 24)] gj22 W ∧ rtrj22 xt e4 x3l11 x4l11 x31l11 (rtrl11 xt K k11)) ?_ ?_))
     ·
      refine Ok.region (Ok.bat 2 [1, 4, 5, 6, 29, 30, 31] [(37, .bool x3l11)] ?_)
      refine Ok.boolAt 37 (x3l11) rfl (fun hc32 => ?_) (fun hc32 => ?_)
      ·replace hF := hF.1 hc32
       refine Ok.bat 6 [1, 4, 5, 6, 29, 30, 31] [(3, .bool true)] ?_
       refine Ok.nil (Ok.thenN (Ok.reval 3 rfl (show (.bool true : Value) = .bool (x3l11 || (decide ((e4.2.1.length : Int) > 2000))) from congrArg (Value.bool) (mor_t hc32)) ?_))
       exact fun a W hA hW => ⟨gl11, (Gext.refl w0 gl11), hA.sub (by kernel_rfl), hW, hF⟩
      ·replace hF := hF.2 hc32
       refine Ok.bat 1 [1, 4, 5, 6, 29, 30, 31] [(37, .bool false), (38, pv b5 1)] ?_
       refine Ok.opYes (j := 1) (d := 37) (want := false) (b := false) rfl (by kernel_rfl) (by kernel_rfl) rfl (OpOk.step (v := sv e4.2.1) (Yields.load 0 rfl rfl Tryz.underlying9 rfl (by kernel_rfl)) rfl rfl (Ok.bat 4 [1, 4, 5, 6, 29, 30, 31] [(3, .bool (decide ((e4.2.1.length : Int) > 2000)))] ?_))
       refine Ok.nil (Ok.thenN (Ok.reval 3 rfl (show (.bool (decide ((e4.2.1.length : Int) > 2000)) : Value) = .bool (x3l11 || (decide ((e4.2.1.length : Int) > 2000))) from congrArg (Value.bool) (mor_f hc32)) ?_))
       exact fun a W hA hW => ⟨gl11, (Gext.refl w0 gl11), hA.sub (by kernel_rfl), hW, hF⟩
     ·
      clear hF
      rintro a W ⟨gj22, hxj22, hA, hW, hF⟩
      refine (?_ : Ok _ _ _ _ _ _) a W hA hW
      clear hA hW
      replace hRxt_0 := hRxt_0.mono hxj22.1
      replace hG0 := hG0.mono hxj22.1
      replace hG1 := hG1.mono hxj22.1
      refine Ok.seq (Ok.region (Ok.bat 1 [1, 3, 4, 5, 6, 29, 30, 31] [(44, pv b5 0)] ?_))
      refine Ok.op rfl (OpOk.step (v := sv e4.1) (Yields.load 0 rfl rfl Tryz.underlying9 rfl (by kernel_rfl)) rfl rfl (Ok.bat 1 [1, 3, 4, 5, 6, 29, 30, 31] [(45, sv e4.1), (46, pv b5 0)] ?_))
      refine Ok.op rfl (OpOk.step (v := sv e4.1) (Yields.load 0 rfl rfl Tryz.underlying9 rfl (by kernel_rfl)) rfl rfl (Ok.op rfl (OpOk.callG (v := .tuple #[sv ((resS e4.1 e4.1).1), .int .i64 (resS e4.1 e4.1).2]) enr (fun W hW => rres_c e4.1 e4.1 (hG0.mono hW.sees) (hG1.mono hW.sees)) rfl ?_)))
      refine Ok.bat 5 [1, 3, 4, 5, 6, 29, 30, 31] [(7, sv ((resS e4.1 e4.1).1)), (8, .int .i64 (resS e4.1 e4.1).2)] ?_
      refine Ok.nil (Ok.thenN (Ok.cut (fun a W => ∃ gj26 : Ghost, Gext w0 gj22 gj26 ∧ StA 133 [(1, pv b1 0), (3, .bool (x3l11 || (decide ((e4.2.1.length : Int) > 2000)))), (4, .bool (rtrV4 e4 x4l11)), (5, .int .i64 x31l11), (6, pv b5 0), (29, .slice axt_0 xt.1.length cxt_0), (30, .int .i64 (xt.1.length : Int)), (31, .int .i64 x31l11)] a ∧ StW w0 [.blk b5 (.cells ⟨vE e4⟩ 36), .blk b1 (.cells ⟨vT xt axt_0 cxt_0⟩ 24)] gj26 W ∧ rtrj26 xt e4 x3l11 x4l11 x31l11 (rtrl11 xt K k11)) ?_ ?_))
      ·
       refine Ok.region (Ok.bat 2 [1, 3, 5, 6, 7, 8, 29, 30, 31] [(52, .bool x4l11)] ?_)
       refine Ok.midway 3 [(1, pv b1 0), (3, .bool (x3l11 || (decide ((e4.2.1.length : Int) > 2000)))), (5, .int .i64 x31l11), (6, pv b5 0), (7, sv ((resS e4.1 e4.1).1)), (29, .slice axt_0 xt.1.length cxt_0), (30, .int .i64 (xt.1.length : Int)), (31, .int .i64 x31l11), (55, .bool (x4l11 && ((resS e4.1 e4.1).2 == 0)))] (fun hR28 => ?_) ?_
       ·refine Ok.boolAt 52 (x4l11) rfl (fun hc29 => ?_) (fun hc29 => ?_)
        ·skip
         refine Ok.bat 3 [1, 3, 5, 6, 7, 29, 30, 31] [(55, .bool ((resS e4.1 e4.1).2 == 0))] ?_
         refine Ok.reval 55 rfl (show (.bool ((resS e4.1 e4.1).2 == 0) : Value) = .bool (x4l11 && ((resS e4.1 e4.1).2 == 0)) from congrArg Value.bool (mand_t hc29)) (Ok.bat 0 [1, 3, 5, 6, 7, 29, 30, 31] [(55, .bool (x4l11 && ((resS e4.1 e4.1).2 == 0)))] ?_)
         exact hR28
        ·skip
         refine Ok.bat 3 [1, 3, 5, 6, 7, 29, 30, 31] [(55, .bool false)] ?_
         refine Ok.reval 55 rfl (show (.bool false : Value) = .bool (x4l11 && ((resS e4.1 e4.1).2 == 0)) from congrArg Value.bool (mand_f hc29)) (Ok.bat 0 [1, 3, 5, 6, 7, 29, 30, 31] [(55, .bool (x4l11 && ((resS e4.1 e4.1).2 == 0)))] ?_)
         exact hR28
       refine Ok.bat 1 [1, 3, 5, 6, 7, 29, 30, 31] [(56, .bool (x4l11 && ((resS e4.1 e4.1).2 == 0)))] ?_
       refine Ok.boolAt 56 ((x4l11 && ((resS e4.1 e4.1).2 == 0))) rfl (fun hc30 => ?_) (fun hc30 => ?_)
       ·replace hF := hF.1 hc30
        refine Ok.bat 2 [1, 3, 5, 6, 29, 30, 31] [(56, .bool true), (57, sv ((resS e4.1 e4.1).1)), (58, pv b5 0)] ?_
        refine Ok.opYes (j := 5) (d := 56) (want := true) (b := true) rfl (by kernel_rfl) (by kernel_rfl) rfl (OpOk.step (v := sv e4.1) (Yields.load 0 rfl rfl Tryz.underlying9 rfl (by kernel_rfl)) rfl rfl (Ok.opYes (j := 5) (d := 56) (want := true) (b := true) rfl (by kernel_rfl) (by kernel_rfl) rfl (OpOk.step (v := .bool ((resS e4.1 e4.1).1 == e4.1)) (Yields.strCmp (f := .eql) (a := (resS e4.1 e4.1).1) (b := e4.1) (by kernel_rfl) (by kernel_rfl) rfl) rfl rfl (Ok.bat 2 [1, 3, 5, 6, 29, 30, 31] [(62, .bool ((resS e4.1 e4.1).1 == e4.1))] ?_))))
        refine Ok.boolAt 62 (((resS e4.1 e4.1).1 == e4.1)) rfl (fun hc31 => ?_) (fun hc31 => ?_)
        ·replace hF := hF.1 hc31
         refine Ok.bat 1 [1, 3, 5, 6, 29, 30, 31] [(62, .bool true), (63, pv b5 2)] ?_
         refine Ok.opYes (j := 11) (d := 62) (want := true) (b := true) rfl (by kernel_rfl) (by kernel_rfl) rfl (OpOk.step (v := .int .i64 e4.2.2) (Yields.load 0 rfl rfl Tryz.underlying3 rfl (by kernel_rfl)) rfl rfl (Ok.opYes (j := 11) (d := 62) (want := true) (b := true) rfl (by kernel_rfl) (by kernel_rfl) rfl (OpOk.callG (v := .bool (rbetM e4.2.2 0 1000000)) enr (fun W hW => rbet_c e4.2.2 0 1000000) rfl ?_)))
         refine Ok.bat 2 [1, 3, 5, 6, 29, 30, 31] [(4, .bool (rbetM e4.2.2 0 1000000))] ?_
         refine Ok.nil (Ok.thenN (Ok.reval 4 rfl (show (.bool (rbetM e4.2.2 0 1000000) : Value) = .bool (rtrV4 e4 x4l11) from congrArg (Value.bool) ((Eq.trans (mand_t hc31) (mand_t hc30)))) ?_))
         exact fun a W hA hW => ⟨gj22, (Gext.refl w0 gj22), hA.sub (by kernel_rfl), hW, hF⟩
        ·replace hF := hF.2 hc31
         refine Ok.bat 5 [1, 3, 5, 6, 29, 30, 31] [(4, .bool false)] ?_
         refine Ok.nil (Ok.thenN (Ok.reval 4 rfl (show (.bool false : Value) = .bool (rtrV4 e4 x4l11) from congrArg (Value.bool) ((Eq.trans (mand_f hc31) (mand_t hc30)))) ?_))
         exact fun a W hA hW => ⟨gj22, (Gext.refl w0 gj22), hA.sub (by kernel_rfl), hW, hF⟩
       ·replace hF := hF.2 hc30
        refine Ok.bat 11 [1, 3, 5, 6, 29, 30, 31] [(4, .bool false)] ?_
        refine Ok.nil (Ok.thenN (Ok.reval 4 rfl (show (.bool false : Value) = .bool (rtrV4 e4 x4l11) from congrArg (Value.bool) (mand_f hc30)) ?_))
        exact fun a W hA hW => ⟨gj22, (Gext.refl w0 gj22), hA.sub (by kernel_rfl), hW, hF⟩
      ·
       clear hF
       rintro a W ⟨gj26, hxj26, hA, hW, hF⟩
       refine (?_ : Ok _ _ _ _ _ _) a W hA hW
       clear hA hW
       replace hRxt_0 := hRxt_0.mono hxj26.1
       replace hG0 := hG0.mono hxj26.1
       replace hG1 := hG1.mono hxj26.1
       refine Ok.seq (Ok.seq (Ok.region (Ok.bat 3 [1, 3, 4, 5, 6, 29, 30, 31] [(69, .bool (!(rtrV4 e4 x4l11)))] ?_)))
       refine Ok.midway 2 [(1, pv b1 0), (3, .bool (x3l11 || (decide ((e4.2.1.length : Int) > 2000)))), (4, .bool (rtrV4 e4 x4l11)), (5, .int .i64 x31l11), (6, pv b5 0), (29, .slice axt_0 xt.1.length cxt_0), (30, .int .i64 (xt.1.length : Int)), (31, .int .i64 x31l11), (71, .bool ((!(rtrV4 e4 x4l11)) || (x3l11 || (decide ((e4.2.1.length : Int) > 2000)))))] (fun hR6 => ?_) ?_
       ·refine Ok.boolAt 69 (!(rtrV4 e4 x4l11)) rfl (fun hc7 => ?_) (fun hc7 => ?_)
        ·skip
         refine Ok.bat 2 [1, 3, 4, 5, 6, 29, 30, 31] [(71, .bool true)] ?_
         refine Ok.reval 71 rfl (show (.bool true : Value) = .bool ((!(rtrV4 e4 x4l11)) || (x3l11 || (decide ((e4.2.1.length : Int) > 2000)))) from congrArg Value.bool (mor_t hc7)) (Ok.bat 0 [1, 3, 4, 5, 6, 29, 30, 31] [(71, .bool ((!(rtrV4 e4 x4l11)) || (x3l11 || (decide ((e4.2.1.length : Int) > 2000)))))] ?_)
         exact hR6
        ·skip
         refine Ok.bat 2 [1, 3, 4, 5, 6, 29, 30, 31] [(71, .bool (x3l11 || (decide ((e4.2.1.length : Int) > 2000))))] ?_
         refine Ok.reval 71 rfl (show (.bool (x3l11 || (decide ((e4.2.1.length : Int) > 2000))) : Value) = .bool ((!(rtrV4 e4 x4l11)) || (x3l11 || (decide ((e4.2.1.length : Int) > 2000)))) from congrArg Value.bool (mor_f hc7)) (Ok.bat 0 [1, 3, 4, 5, 6, 29, 30, 31] [(71, .bool ((!(rtrV4 e4 x4l11)) || (x3l11 || (decide ((e4.2.1.length : Int) > 2000)))))] ?_)
         exact hR6
       refine Ok.nil (Ok.thenN (Ok.cond (b := ((!(rtrV4 e4 x4l11)) || (x3l11 || (decide ((e4.2.1.length : Int) > 2000))))) rfl (fun hc8 => ?_) (fun hc8 => ?_)))
       ·replace hF := hF.1 hc8
        refine Ok.exit (Ok.thenE (Ok.blockHit (Ok.thenN ?_)))
        subst hg4
        exact fun a W hA hW => ⟨gj26, (hxj22.trans hxj26), (rtrV4 (xt.1.getD (Int.toNat x31l11) default) x4l11), hA.sub (by kernel_rfl), hW.sub (.cons _ (.cons_cons _ .slnil)), hF⟩
       ·replace hF := hF.2 hc8
        refine Ok.skip (Ok.thenN (Ok.seq (Ok.region (Ok.bat 1 [1, 3, 4, 5, 6, 29, 30, 31] [(73, pv b5 0)] ?_))))
        refine Ok.op rfl (OpOk.step (v := sv e4.1) (Yields.load 0 rfl rfl Tryz.underlying9 rfl (by kernel_rfl)) rfl rfl (Ok.op rfl (OpOk.callH [] _ enr rfl (radr_c e4.1 hG0) rfl fun g9 _ _ hx9 hV9 => ?_)))
        obtain ⟨a9_0, c9_0, rfl, hR9_0, rfl⟩ := hV9
        replace hRxt_0 := hRxt_0.mono hx9.1
        replace hG0 := hG0.mono hx9.1
        replace hG1 := hG1.mono hx9.1
        refine Ok.bat 3 [1, 3, 4, 5, 6, 29, 30, 31] [(76, .agg ⟨vJ (parS e4.1).1 a9_0 c9_0⟩), (77, .int .i64 (parS e4.1).2)] ?_
        refine Ok.op rfl (OpOk.alloc (z := .agg ⟨zJ⟩) (cs := ⟨zJ⟩) (by kernel_rfl) (by kernel_rfl) rfl fun b10 => ?_)
        refine Ok.op rfl (OpOk.sto (k := 8) (v := .agg ⟨vJ (parS e4.1).1 a9_0 c9_0⟩) 0 ⟨vJ (parS e4.1).1 a9_0 c9_0⟩ rfl rfl rfl ?_)
        refine Ok.bat 1 [1, 3, 4, 5, 6, 29, 30, 31] [(9, pv b10 0)] ?_
        refine Ok.nil (Ok.thenN (Ok.seq (Ok.region (Ok.bat 1 [1, 3, 4, 5, 6, 9, 29, 30, 31] [(78, pv b1 0)] ?_))))
        refine Ok.op rfl (OpOk.step (v := .slice axt_0 xt.1.length cxt_0) (Yields.load 2 rfl rfl Tryz.underlying22 rfl (by kernel_rfl)) rfl rfl (Ok.bat 1 [1, 3, 4, 5, 6, 9, 29, 30, 31] [(79, .slice axt_0 xt.1.length cxt_0), (80, .int .i64 x31l11)] ?_))
        obtain ⟨h011, h111, h211, hF⟩ := hF
        refine Ok.op rfl (OpOk.sliceRo (e := .pair (.str) (.pair (.str) (.int .i64))) (l := 0) (h := x31l11) rfl Tryz.underlying22 (by kernel_rfl) (.inr ⟨rfl, rfl⟩) (.inl ⟨_, _, rfl, rfl⟩) hRxt_0 h011 h111 h211 rfl (xt.1.take (Int.toNat x31l11)) (by simp) fun a11 c11 hR11 => ?_)
        refine Ok.bat 2 [1, 3, 4, 5, 6, 9, 29, 30, 31] [(81, .slice a11 (xt.1.take (Int.toNat x31l11)).length c11), (82, .int .i64 ((xt.1.take (Int.toNat x31l11)).length : Int)), (83, .int .i64 0)] ?_
        refine Ok.nil (Ok.thenN (Ok.block ?_))
        obtain ⟨k, hF⟩ := hF
        refine Ok.loop (fun k a W => ∃ gl39 : Ghost, Gext w0 g9 gl39 ∧ ∃ (x4l39 : Bool) (x83l39 : Int), StA 133 [(1, pv b1 0), (3, .bool (x3l11 || (decide ((e4.2.1.length : Int) > 2000)))), (4, .bool x4l39), (5, .int .i64 x31l11), (6, pv b5 0), (9, pv b10 0), (29, .slice axt_0 xt.1.length cxt_0), (30, .int .i64 (xt.1.length : Int)), (31, .int .i64 x31l11), (81, .slice a11 (xt.1.take (Int.toNat x31l11)).length c11), (82, .int .i64 ((xt.1.take (Int.toNat x31l11)).length : Int)), (83, .int .i64 x83l39)] a ∧ StW w0 [.blk b10 (.cells ⟨vJ (parS e4.1).1 a9_0 c9_0⟩ 53), .blk b5 (.cells ⟨vE e4⟩ 36), .blk b1 (.cells ⟨vT xt axt_0 cxt_0⟩ 24)] gl39 W ∧ rtrl39 xt e4 x3l11 x31l11 (rtrl11 xt K k11) k x4l39 x83l39) k ?_ ?_
        ·
         exact fun a W hA hW => ⟨g9, (Gext.refl w0 g9), (rtrV4 e4 x4l11), 0, hA.sub (by kernel_rfl), hW, hF⟩
        ·
         clear hF
         rintro k39 a W ⟨gl39, hxl39, x4l39, x83l39, hA, hW, hF⟩
         cases k39 with
         | zero => exact (hF : False).elim
         | succ k39 =>
          refine (?_ : Ok _ _ _ _ _ _) a W hA hW
          clear hA hW
          replace hRxt_0 := hRxt_0.mono hxl39.1
          replace hR11 := hR11.mono hxl39.1
          replace hR9_0 := hR9_0.mono hxl39.1
          replace hG0 := hG0.mono hxl39.1
          replace hG1 := hG1.mono hxl39.1
          refine Ok.seq (Ok.region (Ok.bat 1 [1, 3, 4, 5, 6, 9, 29, 30, 31, 81, 82, 83] [(84, .bool (decide (x83l39 < ((xt.1.take (Int.toNat x31l11)).length : Int))))] ?_))
          refine Ok.nil (Ok.thenN (Ok.seq (Ok.cond (b := decide (x83l39 < ((xt.1.take (Int.toNat x31l11)).length : Int))) rfl (fun hc12 => ?_) (fun hc12 => ?_))))
          ·replace hF := hF.1 hc12
           refine Ok.skip (Ok.thenN (Ok.cut (fun a W => ∃ gj46 : Ghost, Gext w0 gl39 gj46 ∧ ∃ (x4j46 : Bool), StA 133 [(1, pv b1 0), (3, .bool (x3l11 || (decide ((e4.2.1.length : Int) > 2000)))), (4, .bool x4j46), (5, .int .i64 x31l11), (6, pv b5 0), (9, pv b10 0), (29, .slice axt_0 xt.1.length cxt_0), (30, .int .i64 (xt.1.length : Int)), (31, .int .i64 x31l11), (81, .slice a11 (xt.1.take (Int.toNat x31l11)).length c11), (82, .int .i64 ((xt.1.take (Int.toNat x31l11)).length : Int)), (83, .int .i64 x83l39)] a ∧ StW w0 [.blk b10 (.cells ⟨vJ (parS e4.1).1 a9_0 c9_0⟩ 53), .blk b5 (.cells ⟨vE e4⟩ 36), .blk b1 (.cells ⟨vT xt axt_0 cxt_0⟩ 24)] gj46 W ∧ rtrj46 x4j46 x83l39 (rtrl39 xt e4 x3l11 x31l11 (rtrl11 xt K k11) k39)) ?_ ?_))
           ·
            refine Ok.block (Ok.seq (Ok.region (Ok.bat 1 [1, 3, 4, 5, 6, 9, 29, 30, 31, 81, 82, 83] [(85, .int .i64 x83l39)] ?_)))
            obtain ⟨h014, h114, hF⟩ := hF
            have he14 := get_of (l := (xt.1.take (Int.toNat x31l11))) (default : Bs × Bs × Int) h114
            generalize hg14 : ((xt.1.take (Int.toNat x31l11)).getD (Int.toNat x83l39) default) = e14 at he14 hF ⊢
            refine Ok.op rfl (OpOk.indexRo (e := .pair (.str) (.pair (.str) (.int .i64))) (i := x83l39) (el := e14) rfl rfl Tryz.underlying22 (by kernel_rfl) hR11 h014 he14 rfl fun q13 o13 cs13 _ hat13 hr13 => ?_)
            obtain ⟨_, _, rfl, rfl, ⟨_, _, rfl, rfl, rfl⟩⟩ := hr13
            replace hat13 : At gl39 q13 o13 (vE e14) := hat13
            refine Ok.op rfl (OpOk.step (v := .agg ⟨vE e14⟩) (Yields.loadAggRo 0 3 ⟨vE e14⟩ hat13 (by kernel_rfl) Tryz.underlying36 rfl (by kernel_rfl) (by kernel_rfl) (by kernel_rfl)) rfl rfl (Ok.op rfl (OpOk.alloc (z := .agg #[sv ([] : Bs), sv ([] : Bs), .int .i64 0]) (cs := #[sv ([] : Bs), sv ([] : Bs), .int .i64 0]) (by kernel_rfl) (by kernel_rfl) rfl fun b15 => ?_)))
            refine Ok.bat 1 [1, 3, 4, 5, 6, 9, 29, 30, 31, 81, 82, 83] [(11, .int .i64 x83l39), (12, pv b15 0), (87, .agg ⟨vE e14⟩)] ?_
            refine Ok.op rfl (OpOk.sto (k := 3) (v := .agg ⟨vE e14⟩) 0 ⟨vE e14⟩ rfl rfl rfl ?_)
            refine Ok.nil (Ok.thenN (Ok.seq (Ok.seq (Ok.region (Ok.bat 1 [1, 3, 4, 5, 6, 9, 11, 12, 29, 30, 31, 81, 82, 83] [(88, pv b15 2)] ?_)))))
            refine Ok.op rfl (OpOk.step (v := .int .i64 e14.2.2) (Yields.load 0 rfl rfl Tryz.underlying3 rfl (by kernel_rfl)) rfl rfl (Ok.bat 1 [1, 3, 4, 5, 6, 9, 11, 12, 29, 30, 31, 81, 82, 83] [(89, .int .i64 e14.2.2), (90, pv b5 2)] ?_))
            refine Ok.op rfl (OpOk.step (v := .int .i64 e4.2.2) (Yields.load 2 rfl rfl Tryz.underlying3 rfl (by kernel_rfl)) rfl rfl (Ok.bat 1 [1, 3, 4, 5, 6, 9, 11, 12, 29, 30, 31, 81, 82, 83] [(92, .bool (e14.2.2 != e4.2.2))] ?_))
            refine Ok.nil (Ok.thenN (Ok.cond (b := (e14.2.2 != e4.2.2)) rfl (fun hc16 => ?_) (fun hc16 => ?_)))
            ·replace hF := hF.1 hc16
             refine Ok.exit (Ok.thenE (Ok.blockHit (Ok.thenN ?_)))
             subst hg14
             exact fun a W hA hW => ⟨gl39, (Gext.refl w0 gl39), x4l39, hA.sub (by kernel_rfl), hW.sub (.cons _ (.cons_cons _ (.cons_cons _ (.cons_cons _ .slnil)))), hF⟩
            ·replace hF := hF.2 hc16
             refine Ok.skip (Ok.thenN (Ok.seq (Ok.region (Ok.bat 1 [1, 3, 4, 5, 6, 9, 11, 29, 30, 31, 81, 82, 83] [(94, pv b15 0)] ?_))))
             refine Ok.op rfl (OpOk.step (v := sv e14.1) (Yields.load 0 rfl rfl Tryz.underlying9 rfl (by kernel_rfl)) rfl rfl (Ok.op rfl (OpOk.callH [] _ enr rfl (radr_c e14.1 hG0) rfl fun g17 _ _ hx17 hV17 => ?_)))
             obtain ⟨a17_0, c17_0, rfl, hR17_0, rfl⟩ := hV17
             replace hRxt_0 := hRxt_0.mono hx17.1
             replace hR11 := hR11.mono hx17.1
             replace hR9_0 := hR9_0.mono hx17.1
             replace hG0 := hG0.mono hx17.1
             replace hG1 := hG1.mono hx17.1
             refine Ok.bat 3 [1, 3, 4, 5, 6, 9, 11, 29, 30, 31, 81, 82, 83] [(97, .agg ⟨vJ (parS e14.1).1 a17_0 c17_0⟩), (98, .int .i64 (parS e14.1).2)] ?_
             refine Ok.op rfl (OpOk.alloc (z := .agg ⟨zJ⟩) (cs := ⟨zJ⟩) (by kernel_rfl) (by kernel_rfl) rfl fun b18 => ?_)
             refine Ok.op rfl (OpOk.sto (k := 8) (v := .agg ⟨vJ (parS e14.1).1 a17_0 c17_0⟩) 0 ⟨vJ (parS e14.1).1 a17_0 c17_0⟩ rfl rfl rfl ?_)
             refine Ok.bat 1 [1, 3, 4, 5, 6, 9, 11, 29, 30, 31, 81, 82, 83] [(13, pv b18 0)] ?_
             refine Ok.nil (Ok.thenN (Ok.cut (fun a W => ∃ gj58 : Ghost, Gext w0 g17 gj58 ∧ StA 133 [(1, pv b1 0), (3, .bool (x3l11 || (decide ((e4.2.1.length : Int) > 2000)))), (4, .bool (rtrV8 e4 x4l39 e14)), (5, .int .i64 x31l11), (6, pv b5 0), (9, pv b10 0), (11, .int .i64 x83l39), (29, .slice axt_0 xt.1.length cxt_0), (30, .int .i64 (xt.1.length : Int)), (31, .int .i64 x31l11), (81, .slice a11 (xt.1.take (Int.toNat x31l11)).length c11), (82, .int .i64 ((xt.1.take (Int.toNat x31l11)).length : Int)), (83, .int .i64 x83l39)] a ∧ StW w0 [.blk b10 (.cells ⟨vJ (parS e4.1).1 a9_0 c9_0⟩ 53), .blk b5 (.cells ⟨vE e4⟩ 36), .blk b1 (.cells ⟨vT xt axt_0 cxt_0⟩ 24)] gj58 W ∧ rtrj58 xt e4 x4l39 x83l39 x31l11 e14 (rtrl39 xt e4 x3l11 x31l11 (rtrl11 xt K k11) k39)) ?_ ?_))
             ·
              refine Ok.quiet' (by kernel_rfl) (by kernel_rfl) (OkQ.bat 2 [1, 3, 5, 6, 9, 11, 13, 29, 30, 31, 81, 82, 83] [(100, .bool x4l39)] ?_)
              refine OkQ.boolAt 100 (x4l39) rfl (fun hc25 => ?_) (fun hc25 => ?_)
              ·replace hF := hF.1 hc25
               refine OkQ.opYes (j := 1) (d := 100) (want := true) (b := true) rfl (by kernel_rfl) (by kernel_rfl) rfl (OpQ.step (v := .agg ⟨vJ (parS e4.1).1 a9_0 c9_0⟩) (Yields.loadAgg 2 8 ⟨vJ (parS e4.1).1 a9_0 c9_0⟩ rfl rfl Tryz.underlying53 rfl (by kernel_rfl) (by kernel_rfl) (by kernel_rfl)) rfl rfl ?_)
               obtain ⟨hp26, hF⟩ := hF
               refine OkQ.opYes (j := 1) (d := 100) (want := true) (b := true) rfl (by kernel_rfl) (by kernel_rfl) rfl (OpQ.callG (v := sv (oriS (parS e4.1).1)) enr (fun W hW => rori_c (parS e4.1).1 (hR9_0.mono hW.sees) (hG1.mono hW.sees) hp26) rfl ?_)
               refine OkQ.opYes (j := 1) (d := 100) (want := true) (b := true) rfl (by kernel_rfl) (by kernel_rfl) rfl (OpQ.step (v := .agg ⟨vJ (parS e14.1).1 a17_0 c17_0⟩) (Yields.loadAgg 0 8 ⟨vJ (parS e14.1).1 a17_0 c17_0⟩ rfl rfl Tryz.underlying53 rfl (by kernel_rfl) (by kernel_rfl) (by kernel_rfl)) rfl rfl ?_)
               obtain ⟨hp27, hF⟩ := hF
               refine OkQ.opYes (j := 1) (d := 100) (want := true) (b := true) rfl (by kernel_rfl) (by kernel_rfl) rfl (OpQ.callG (v := sv (oriS (parS e14.1).1)) enr (fun W hW => rori_c (parS e14.1).1 (hR17_0.mono hW.sees) (hG1.mono hW.sees) hp27) rfl ?_)
               refine OkQ.opYes (j := 1) (d := 100) (want := true) (b := true) rfl (by kernel_rfl) (by kernel_rfl) rfl (OpQ.step (v := .bool ((oriS (parS e4.1).1) == (oriS (parS e14.1).1))) (Yields.strCmp (f := .eql) (a := (oriS (parS e4.1).1)) (b := (oriS (parS e14.1).1)) (by kernel_rfl) (by kernel_rfl) rfl) rfl rfl (OkQ.bat 2 [1, 3, 5, 6, 9, 11, 29, 30, 31, 81, 82, 83] [(4, .bool ((oriS (parS e4.1).1) == (oriS (parS e14.1).1)))] ?_))
               refine OkQ.nil (Ok.thenN (Ok.reval 4 rfl (show (.bool ((oriS (parS e4.1).1) == (oriS (parS e14.1).1)) : Value) = .bool (rtrV8 e4 x4l39 e14) from congrArg (Value.bool) (mand_t hc25)) ?_))
               exact fun a W hA hW => ⟨g17, (Gext.refl w0 g17), hA.sub (by kernel_rfl), hW.sub (.cons _ (.cons _ (.cons_cons _ (.cons_cons _ (.cons_cons _ .slnil))))), hF⟩
              ·replace hF := hF.2 hc25
               refine OkQ.bat 7 [1, 3, 5, 6, 9, 11, 29, 30, 31, 81, 82, 83] [(4, .bool false)] ?_
               refine OkQ.nil (Ok.thenN (Ok.reval 4 rfl (show (.bool false : Value) = .bool (rtrV8 e4 x4l39 e14) from congrArg (Value.bool) (mand_f hc25)) ?_))
               exact fun a W hA hW => ⟨g17, (Gext.refl w0 g17), hA.sub (by kernel_rfl), hW.sub (.cons _ (.cons _ (.cons_cons _ (.cons_cons _ (.cons_cons _ .slnil))))), hF⟩
             ·
              clear hF
              rintro a W ⟨gj58, hxj58, hA, hW, hF⟩
              refine (?_ : Ok _ _ _ _ _ _) a W hA hW
              clear hA hW
              replace hRxt_0 := hRxt_0.mono hxj58.1
              replace hR11 := hR11.mono hxj58.1
              replace hR9_0 := hR9_0.mono hxj58.1
              replace hG0 := hG0.mono hxj58.1
              replace hG1 := hG1.mono hxj58.1
              refine Ok.seq (Ok.region (Ok.bat 1 [1, 3, 4, 5, 6, 9, 11, 29, 30, 31, 81, 82, 83] [(107, pv b1 0)] ?_))
              refine Ok.op rfl (OpOk.step (v := .slice axt_0 xt.1.length cxt_0) (Yields.load 2 rfl rfl Tryz.underlying22 rfl (by kernel_rfl)) rfl rfl (Ok.bat 2 [1, 3, 4, 5, 6, 9, 29, 30, 31, 81, 82, 83] [(108, .slice axt_0 xt.1.length cxt_0), (109, .int .i64 x83l39), (110, .int .i64 x31l11)] ?_))
              obtain ⟨h019, h119, h219, hF⟩ := hF
              refine Ok.op rfl (OpOk.sliceRo (e := .pair (.str) (.pair (.str) (.int .i64))) (l := x83l39) (h := x31l11) rfl Tryz.underlying22 (by kernel_rfl) (.inl ⟨_, _, rfl, rfl⟩) (.inl ⟨_, _, rfl, rfl⟩) hRxt_0 h019 h119 h219 rfl ((xt.1.take (Int.toNat x31l11)).drop (Int.toNat x83l39)) rfl fun a19 c19 hR19 => ?_)
              refine Ok.bat 2 [1, 3, 4, 5, 6, 9, 29, 30, 31, 81, 82, 83] [(111, .slice a19 ((xt.1.take (Int.toNat x31l11)).drop (Int.toNat x83l39)).length c19), (112, .int .i64 (((xt.1.take (Int.toNat x31l11)).drop (Int.toNat x83l39)).length : Int)), (113, .int .i64 0)] ?_
              refine Ok.nil (Ok.thenN (Ok.block ?_))
              obtain ⟨k, hF⟩ := hF
              refine Ok.loop (fun k a W => ∃ gl63 : Ghost, Gext w0 gj58 gl63 ∧ ∃ (x4l63 : Bool) (x113l63 : Int), StA 133 [(1, pv b1 0), (3, .bool (x3l11 || (decide ((e4.2.1.length : Int) > 2000)))), (4, .bool x4l63), (5, .int .i64 x31l11), (6, pv b5 0), (9, pv b10 0), (29, .slice axt_0 xt.1.length cxt_0), (30, .int .i64 (xt.1.length : Int)), (31, .int .i64 x31l11), (81, .slice a11 (xt.1.take (Int.toNat x31l11)).length c11), (82, .int .i64 ((xt.1.take (Int.toNat x31l11)).length : Int)), (83, .int .i64 x83l39), (111, .slice a19 ((xt.1.take (Int.toNat x31l11)).drop (Int.toNat x83l39)).length c19), (112, .int .i64 (((xt.1.take (Int.toNat x31l11)).drop (Int.toNat x83l39)).length : Int)), (113, .int .i64 x113l63)] a ∧ StW w0 [.blk b10 (.cells ⟨vJ (parS e4.1).1 a9_0 c9_0⟩ 53), .blk b5 (.cells ⟨vE e4⟩ 36), .blk b1 (.cells ⟨vT xt axt_0 cxt_0⟩ 24)] gl63 W ∧ rtrl63 xt e4 x83l39 x31l11 (rtrl39 xt e4 x3l11 x31l11 (rtrl11 xt K k11) k39) k x4l63 x113l63) k ?_ ?_
              ·
               exact fun a W hA hW => ⟨gj58, (Gext.refl w0 gj58), (rtrV8 e4 x4l39 e14), 0, hA.sub (by kernel_rfl), hW, hF⟩
              ·
               clear hF
               rintro k63 a W ⟨gl63, hxl63, x4l63, x113l63, hA, hW, hF⟩
               cases k63 with
               | zero => exact (hF : False).elim
               | succ k63 =>
                refine (?_ : Ok _ _ _ _ _ _) a W hA hW
                clear hA hW
                replace hRxt_0 := hRxt_0.mono hxl63.1
                replace hR11 := hR11.mono hxl63.1
                replace hR19 := hR19.mono hxl63.1
                replace hR9_0 := hR9_0.mono hxl63.1
                replace hG0 := hG0.mono hxl63.1
                replace hG1 := hG1.mono hxl63.1
                refine Ok.seq (Ok.region (Ok.bat 1 [1, 3, 4, 5, 6, 9, 29, 30, 31, 81, 82, 83, 111, 112, 113] [(114, .bool (decide (x113l63 < (((xt.1.take (Int.toNat x31l11)).drop (Int.toNat x83l39)).length : Int))))] ?_))
                refine Ok.nil (Ok.thenN (Ok.seq (Ok.cond (b := decide (x113l63 < (((xt.1.take (Int.toNat x31l11)).drop (Int.toNat x83l39)).length : Int))) rfl (fun hc20 => ?_) (fun hc20 => ?_))))
                ·replace hF := hF.1 hc20
                 refine Ok.skip (Ok.thenN (Ok.cut (fun a W => ∃ gj70 : Ghost, Gext w0 gl63 gj70 ∧ StA 133 [(1, pv b1 0), (3, .bool (x3l11 || (decide ((e4.2.1.length : Int) > 2000)))), (4, .bool (rtrV9 xt e4 x4l63 x113l63 x83l39 x31l11)), (5, .int .i64 x31l11), (6, pv b5 0), (9, pv b10 0), (29, .slice axt_0 xt.1.length cxt_0), (30, .int .i64 (xt.1.length : Int)), (31, .int .i64 x31l11), (81, .slice a11 (xt.1.take (Int.toNat x31l11)).length c11), (82, .int .i64 ((xt.1.take (Int.toNat x31l11)).length : Int)), (83, .int .i64 x83l39), (111, .slice a19 ((xt.1.take (Int.toNat x31l11)).drop (Int.toNat x83l39)).length c19), (112, .int .i64 (((xt.1.take (Int.toNat x31l11)).drop (Int.toNat x83l39)).length : Int)), (113, .int .i64 x113l63)] a ∧ StW w0 [.blk b10 (.cells ⟨vJ (parS e4.1).1 a9_0 c9_0⟩ 53), .blk b5 (.cells ⟨vE e4⟩ 36), .blk b1 (.cells ⟨vT xt axt_0 cxt_0⟩ 24)] gj70 W ∧ rtrj70 xt e4 x4l63 x113l63 x83l39 x31l11 (rtrl63 xt e4 x83l39 x31l11 (rtrl39 xt e4 x3l11 x31l11 (rtrl11 xt K k11) k39) k63)) ?_ ?_))
                 ·
                  refine Ok.block (Ok.seq (Ok.region ?_))
                  obtain ⟨h022, h122, hF⟩ := hF
                  have he22 := get_of (l := ((xt.1.take (Int.toNat x31l11)).drop (Int.toNat x83l39))) (default : Bs × Bs × Int) h122
                  generalize hg22 : (((xt.1.take (Int.toNat x31l11)).drop (Int.toNat x83l39)).getD (Int.toNat x113l63) default) = e22 at he22 hF ⊢
                  refine Ok.op rfl (OpOk.indexRo (e := .pair (.str) (.pair (.str) (.int .i64))) (i := x113l63) (el := e22) rfl rfl Tryz.underlying22 (by kernel_rfl) hR19 h022 he22 rfl fun q21 o21 cs21 _ hat21 hr21 => ?_)
                  obtain ⟨_, _, rfl, rfl, ⟨_, _, rfl, rfl, rfl⟩⟩ := hr21
                  replace hat21 : At gl63 q21 o21 (vE e22) := hat21
                  refine Ok.op rfl (OpOk.step (v := .agg ⟨vE e22⟩) (Yields.loadAggRo 0 3 ⟨vE e22⟩ hat21 (by kernel_rfl) Tryz.underlying36 rfl (by kernel_rfl) (by kernel_rfl) (by kernel_rfl)) rfl rfl (Ok.op rfl (OpOk.alloc (z := .agg #[sv ([] : Bs), sv ([] : Bs), .int .i64 0]) (cs := #[sv ([] : Bs), sv ([] : Bs), .int .i64 0]) (by kernel_rfl) (by kernel_rfl) rfl fun b23 => ?_)))
                  refine Ok.op rfl (OpOk.sto (k := 3) (v := .agg ⟨vE e22⟩) 0 ⟨vE e22⟩ rfl rfl rfl ?_)
                  refine Ok.nil (Ok.thenN (Ok.region (Ok.bat 2 [1, 3, 5, 6, 9, 29, 30, 31, 81, 82, 83, 111, 112, 113] [(16, pv b23 0), (118, .bool x4l63)] ?_)))
                  refine Ok.boolAt 118 (x4l63) rfl (fun hc24 => ?_) (fun hc24 => ?_)
                  ·replace hF := hF.1 hc24
                   refine Ok.bat 1 [1, 3, 5, 6, 9, 29, 30, 31, 81, 82, 83, 111, 112, 113] [(118, .bool true), (119, pv b23 2)] ?_
                   refine Ok.opYes (j := 1) (d := 118) (want := true) (b := true) rfl (by kernel_rfl) (by kernel_rfl) rfl (OpOk.step (v := .int .i64 e22.2.2) (Yields.load 0 rfl rfl Tryz.underlying3 rfl (by kernel_rfl)) rfl rfl (Ok.bat 1 [1, 3, 5, 6, 9, 29, 30, 31, 81, 82, 83, 111, 112, 113, 118] [(120, .int .i64 e22.2.2), (121, pv b5 2)] ?_))
                   refine Ok.opYes (j := 1) (d := 118) (want := true) (b := true) rfl (by kernel_rfl) (by kernel_rfl) rfl (OpOk.step (v := .int .i64 e4.2.2) (Yields.load 2 rfl rfl Tryz.underlying3 rfl (by kernel_rfl)) rfl rfl (Ok.bat 3 [1, 3, 5, 6, 9, 29, 30, 31, 81, 82, 83, 111, 112, 113] [(4, .bool (e22.2.2 == e4.2.2))] ?_))
                   refine Ok.nil (Ok.blockN (Ok.thenN ?_))
                   subst hg22
                   refine Ok.reval 4 rfl (show (.bool ((((xt.1.take (Int.toNat x31l11)).drop (Int.toNat x83l39)).getD (Int.toNat x113l63) default).2.2 == e4.2.2) : Value) = .bool (rtrV9 xt e4 x4l63 x113l63 x83l39 x31l11) from congrArg (Value.bool) (mand_t hc24)) ?_
                   exact fun a W hA hW => ⟨gl63, (Gext.refl w0 gl63), hA.sub (by kernel_rfl), hW.sub (.cons _ (.cons_cons _ (.cons_cons _ (.cons_cons _ .slnil)))), hF⟩
                  ·replace hF := hF.2 hc24
                   refine Ok.bat 7 [1, 3, 5, 6, 9, 29, 30, 31, 81, 82, 83, 111, 112, 113] [(4, .bool false)] ?_
                   refine Ok.nil (Ok.blockN (Ok.thenN ?_))
                   subst hg22
                   refine Ok.reval 4 rfl (show (.bool false : Value) = .bool (rtrV9 xt e4 x4l63 x113l63 x83l39 x31l11) from congrArg (Value.bool) (mand_f hc24)) ?_
                   exact fun a W hA hW => ⟨gl63, (Gext.refl w0 gl63), hA.sub (by kernel_rfl), hW.sub (.cons _ (.cons_cons _ (.cons_cons _ (.cons_cons _ .slnil)))), hF⟩
                 ·
                  clear hF
                  rintro a W ⟨gj70, hxj70, hA, hW, hF⟩
                  refine (?_ : Ok _ _ _ _ _ _) a W hA hW
                  clear hA hW
                  replace hRxt_0 := hRxt_0.mono hxj70.1
                  replace hR11 := hR11.mono hxj70.1
                  replace hR19 := hR19.mono hxj70.1
                  replace hR9_0 := hR9_0.mono hxj70.1
                  replace hG0 := hG0.mono hxj70.1
                  replace hG1 := hG1.mono hxj70.1
                  refine Ok.region (Ok.bat 2 [1, 3, 4, 5, 6, 9, 29, 30, 31, 81, 82, 83, 111, 112] [(113, .int .i64 (w6 (x113l63 + 1)))] ?_)
                  refine Ok.nil (Ok.thenN ?_)
                  exact fun a W hA hW => ⟨k63, Nat.lt_succ_self _, gj70, (hxl63.trans hxj70), (rtrV9 xt e4 x4l63 x113l63 x83l39 x31l11), w6 (x113l63 + 1), hA.sub (by kernel_rfl), hW, hF⟩
                ·replace hF := hF.2 hc20
                 refine Ok.exit (Ok.thenE (Ok.thenE (Ok.blockHit (Ok.blockN (Ok.thenN ?_)))))
                 subst hg14
                 exact fun a W hA hW => ⟨gl63, ((hx17.trans hxj58).trans hxl63), x4l63, hA.sub (by kernel_rfl), hW, hF⟩
           ·
            clear hF
            rintro a W ⟨gj46, hxj46, x4j46, hA, hW, hF⟩
            refine (?_ : Ok _ _ _ _ _ _) a W hA hW
            clear hA hW
            replace hRxt_0 := hRxt_0.mono hxj46.1
            replace hR11 := hR11.mono hxj46.1
            replace hR9_0 := hR9_0.mono hxj46.1
            replace hG0 := hG0.mono hxj46.1
            replace hG1 := hG1.mono hxj46.1
            refine Ok.region (Ok.bat 2 [1, 3, 4, 5, 6, 9, 29, 30, 31, 81, 82] [(83, .int .i64 (w6 (x83l39 + 1)))] ?_)
            refine Ok.nil (Ok.thenN ?_)
            exact fun a W hA hW => ⟨k39, Nat.lt_succ_self _, gj46, (hxl39.trans hxj46), x4j46, w6 (x83l39 + 1), hA.sub (by kernel_rfl), hW, hF⟩
          ·replace hF := hF.2 hc12
           refine Ok.exit (Ok.thenE (Ok.thenE (Ok.blockHit (Ok.blockN (Ok.thenN ?_)))))
           subst hg4
           exact fun a W hA hW => ⟨gl39, (((hxj22.trans hxj26).trans hx9).trans hxl39), x4l39, hA.sub (by kernel_rfl), hW.sub (.cons _ (.cons _ (.cons_cons _ .slnil))), hF⟩
    ·
     clear hF
     rintro a W ⟨gj18, hxj18, x4j18, hA, hW, hF⟩
     refine (?_ : Ok _ _ _ _ _ _) a W hA hW
     clear hA hW
     replace hRxt_0 := hRxt_0.mono hxj18.1
     replace hG0 := hG0.mono hxj18.1
     replace hG1 := hG1.mono hxj18.1
     refine Ok.region (Ok.bat 2 [1, 3, 4, 29, 30] [(31, .int .i64 (w6 (x31l11 + 1)))] ?_)
     refine Ok.nil (Ok.thenN ?_)
     exact fun a W hA hW => ⟨k11, Nat.lt_succ_self _, gj18, (hxl11.trans hxj18), (rtrV6 xt x3l11 x31l11), x4j18, w6 (x31l11 + 1), hA.sub (by kernel_rfl), hW, hF⟩
   ·replace hF := hF.2 hc2
    refine Ok.exit (Ok.thenE (Ok.thenE (Ok.blockHit (Ok.thenN (Ok.seq (Ok.block (Ok.seq (Ok.region (Ok.bat 2 [4] [(128, .bool x3l11)] ?_)))))))))
    refine Ok.nil (Ok.thenN (Ok.cond (b := x3l11) rfl (fun hc33 => ?_) (fun hc33 => ?_)))
    ·replace hF := hF.1 hc33
     refine Ok.seq (Ok.region (Ok.batch 1 [(2, .int .i64 2)] (by kernel_rfl) (Ok.nil (Ok.thenN (Ok.ret (Ok.blockR (Ok.thenR ?_)))))))
     exact Ok.resP (vs := [.int .i64 2]) [] [] (by decide) rfl (.inl rfl) rfl (.cons (.tmp rfl) .nil) hxl11 ⟨2, rfl, rfl, hF⟩
    ·replace hF := hF.2 hc33
     refine Ok.seq (Ok.region (Ok.batch 3 [(130, .bool (!x4l11))] (by kernel_rfl) (Ok.nil (Ok.thenN (Ok.cond (b := !x4l11) rfl (fun hc34 => ?_) (fun hc34 => ?_))))))
     ·replace hF := hF.1 hc34
      refine Ok.seq (Ok.region (Ok.batch 1 [(2, .int .i64 3)] (by kernel_rfl) (Ok.nil (Ok.thenN (Ok.ret (Ok.blockR (Ok.thenR ?_)))))))
      exact Ok.resP (vs := [.int .i64 3]) [] [] (by decide) rfl (.inl rfl) rfl (.cons (.tmp rfl) .nil) hxl11 ⟨3, rfl, rfl, hF⟩
     ·replace hF := hF.2 hc34
      refine Ok.skip (Ok.blockN (Ok.thenN (Ok.seq (Ok.region (Ok.batch 1 [(2, .int .i64 0)] (by kernel_rfl) (Ok.nil (Ok.thenN (Ok.ret ?_))))))))
      exact Ok.resP (vs := [.int .i64 0]) [] [] (by decide) rfl (.inl rfl) rfl (.cons (.tmp rfl) .nil) hxl11 ⟨0, rfl, rfl, hF⟩
def lenP (t : JTr) : Prop := t.1.length ≤ 140737488355328
def oP (s : Bs) : Bs := oriS (parS s).1
/-- what the document's loop says from entry i on -/
def ansR (l : List JEn) (i : Nat) (lg rt : Bool) : Int :=
 if (lg || (l.drop i).any fun e => wc1M e) = true then 2 else if (!(rt && rR worM wcnM (l.take i) (l.drop i))) = true then 3 else 0
theorem fwd_cln {e : JEn} (he : wcnM e.1 = true) : ∀ m : List JEn, (∀ y ∈ m, wcnM y.1 = true) → fwd oP e m = fwd worM e m
 | [], _ => rfl
 | y :: q, h => by
  rw [fwd, fwd, fwd_cln he q fun z hz => h z (List.mem_cons_of_mem _ hz), wor_ok1 (cln_par he), wor_ok1 (cln_par (h y (List.mem_cons_self ..)))]
  rfl
theorem rbet_rng (e : JEn) : rbetM e.2.2 0 1000000 = rngD e := by
 rw [bet_eq]
 unfold rngD
 by_cases h1 : e.2.2 < 0
 ·rw [decide_eq_true h1, decide_eq_false (by omega)]; rfl
 ·rw [decide_eq_false h1, decide_eq_true (by omega)]
  by_cases h2 : e.2.2 > 1000000
  ·rw [decide_eq_true h2, decide_eq_false (by omega)]; rfl
  ·rw [decide_eq_false h2, decide_eq_true (by omega)]; rfl
theorem v4_eq (e : JEn) (rt : Bool) : rtrV4 e rt = (rt && (wcnM e.1 && rngD e)) := by
 unfold rtrV4
 rw [rbet_rng]
 unfold wcnM wcnj5M
 cases rt <;> cases ((resS e.1 e.1).2 == 0) <;> cases ((resS e.1 e.1).1 == e.1) <;> rfl
section
variable (t : JTr)
theorem l63_loop (e : JEn) (i j : Nat) (C39 : Bool → Int → Prop) (hp : t.1.length ≤ 140737488355328) (hi : i ≤ t.1.length) : ∀ (k a : Nat) (fl : Bool), a + k = ((t.1.take i).drop j).length → rtrj46 (fl && (((t.1.take i).drop j).drop a).all (sameD e)) (j : Int) C39 → rtrl63 t e (j : Int) (i : Int) C39 (k + 1) fl (a : Int) := by
 intro k
 induction k with
 | zero =>
  intro a fl h h2
  rw [List.drop_of_length_le (l := (t.1.take i).drop j) (by omega), List.all_nil, Bool.and_true] at h2
  refine ⟨fun h => ?_, fun _ => h2⟩
  rw [Int.toNat_natCast, Int.toNat_natCast] at h
  have := of_decide_eq_true h; omega
 | succ k ih =>
  intro a fl h h2
  have hl : ((t.1.take i).drop j).length ≤ i := by rw [List.length_drop, List.length_take]; omega
  rw [drop_get (l := (t.1.take i).drop j) default (by omega), List.all_cons] at h2
  refine ⟨fun _ => ?_, fun h => ?_⟩
  ·rw [Int.toNat_natCast, Int.toNat_natCast, Int.toNat_natCast]
   have j70 : rtrj70 t e fl (a : Int) (j : Int) (i : Int) (rtrl63 t e (j : Int) (i : Int) C39 (k + 1)) := by
    unfold rtrj70
    rw [w64 (x := (a : Int) + 1) (by omega)]
    refine ih (a + 1) _ (by omega) ?_
    unfold rtrV9
    rw [Int.toNat_natCast, Int.toNat_natCast, Int.toNat_natCast]
    unfold sameD at h2
    rw [← Bool.and_assoc] at h2
    exact h2
   exact ⟨by omega, by omega, fun _ => j70, fun _ => j70⟩
  ·rw [Int.toNat_natCast, Int.toNat_natCast] at h
   have := of_decide_eq_false h; omega
theorem l39_loop (e : JEn) (i : Nat) (lg : Bool) (C11 : Bool → Bool → Int → Prop) (hp : t.1.length ≤ 140737488355328) (hi : i ≤ t.1.length) : ∀ (k j : Nat) (fl : Bool), j + k = (t.1.take i).length → rtrj18 t (fl && fwd oP e ((t.1.take i).drop j)) lg (i : Int) C11 → rtrl39 t e lg (i : Int) C11 (k + 1) fl (j : Int) := by
 intro k
 induction k with
 | zero =>
  intro j fl h h2
  rw [List.drop_of_length_le (l := t.1.take i) (by omega)] at h2
  have h2 : rtrj18 t (fl && true) lg (i : Int) C11 := h2
  rw [Bool.and_true] at h2
  refine ⟨fun h => ?_, fun _ => h2⟩
  rw [Int.toNat_natCast] at h
  have := of_decide_eq_true h; omega
 | succ k ih =>
  intro j fl h h2
  have hl : (t.1.take i).length = i := by rw [List.length_take]; omega
  rw [drop_get (l := t.1.take i) default (by omega), fwd] at h2
  refine ⟨fun _ => ?_, fun h => ?_⟩
  ·rw [Int.toNat_natCast, Int.toNat_natCast]
   generalize hy : (t.1.take i).getD j default = y at h2 ⊢
   have hd : (t.1.take i).drop j = y :: (t.1.take i).drop (j + 1) := by rw [drop_get (l := t.1.take i) default (by omega), hy]
   refine ⟨by omega, by omega, fun hne => ?_, fun heq => ?_⟩
   ·have hs : sameD e y = false := by
     unfold sameD
     rw [bne, Bool.not_eq_true'] at hne; exact hne
    rw [hs, Bool.not_false, Bool.true_or, Bool.true_and] at h2
    unfold rtrj46
    rw [w64 (x := (j : Int) + 1) (by omega)]
    exact ih (j + 1) fl (by omega) h2
   ·have hs : sameD e y = true := by
     unfold sameD
     rw [bne, Bool.not_eq_false'] at heq; exact heq
    rw [hs, Bool.not_true, Bool.false_or] at h2
    have j58 : rtrj58 t e fl (j : Int) (i : Int) y (rtrl39 t e lg (i : Int) C11 (k + 1)) := by
     refine ⟨by omega, by omega, by omega, _, l63_loop t e i j _ hp hi ((t.1.take i).drop j).length 0 _ (by omega) ?_⟩
     unfold rtrj46
     rw [w64 (x := (j : Int) + 1) (by omega)]
     refine ih (j + 1) _ (by omega) ?_
     rw [List.drop_zero, hd]
     have hv : rtrV8 e fl y = (fl && (oP e.1 == oP y.1)) := rfl
     rw [hv]
     have hb : ∀ a b c d : Bool, ((a && b) && c && d) = (a && (b && c && d)) := by decide
     rw [hb]; exact h2
    exact ⟨fun _ => ⟨par_ori _, par_ori _, j58⟩, fun _ => j58⟩
  ·rw [Int.toNat_natCast] at h
   have := of_decide_eq_false h; omega
theorem l11_loop (hp : t.1.length ≤ 140737488355328) (A : Int) : ∀ (k i : Nat) (lg rt : Bool), i + k = t.1.length → (rt = true → lg = false → ∀ y ∈ t.1.take i, wcnM y.1 = true) → A = ansR t.1 i lg rt → rtrl11 t (fun r => r = A) (k + 1) lg rt (i : Int) := by
 intro k
 induction k with
 | zero =>
  intro i lg rt h hc h2
  unfold ansR at h2
  rw [List.drop_of_length_le (by omega), List.any_nil, Bool.or_false] at h2
  refine ⟨fun h => (by have := of_decide_eq_true h; omega), fun _ => ⟨fun h => ?_, fun h => ?_⟩⟩
  ·rw [if_t h] at h2; exact h2.symm
  ·rw [if_f h] at h2
   have h2 : A = if (!(rt && true)) = true then 3 else 0 := h2
   rw [Bool.and_true] at h2
   exact ⟨fun h => by rw [if_t h] at h2; exact h2.symm, fun h => by rw [if_f h] at h2; exact h2.symm⟩
 | succ k ih =>
  intro i lg rt h hc h2
  have hi : i < t.1.length := by omega
  unfold ansR at h2
  rw [drop_get (l := t.1) default hi, List.any_cons, rR] at h2
  refine ⟨fun _ => ⟨by omega, by rw [Int.toNat_natCast]; exact hi, ?_⟩, fun h => (by have := of_decide_eq_false h; omega)⟩
  rw [Int.toNat_natCast]
  generalize he : t.1.getD i default = e at h2 ⊢
  have hts := jtake_snoc hi
  rw [he] at hts
  have hlg : rtrV6 t lg (i : Int) = (lg || wc1M e) := by
   unfold rtrV6
   rw [Int.toNat_natCast, he]; rfl
  have go : ∀ rt', (rt' = true → (lg || wc1M e) = false → ∀ y ∈ t.1.take (i + 1), wcnM y.1 = true) → A = ansR t.1 (i + 1) (lg || wc1M e) rt' → rtrj18 t rt' lg (i : Int) (rtrl11 t (fun r => r = A) (k + 1)) := fun rt' hc' h3 => by
   unfold rtrj18
   rw [hlg, w64 (x := (i : Int) + 1) (by omega)]
   exact ih (i + 1) _ _ (by omega) hc' h3
  have j26 : rtrj26 t e lg rt (i : Int) (rtrl11 t (fun r => r = A) (k + 1)) := by
   refine ⟨fun hs => ?_, fun hs => ?_⟩
   ·rw [Int.toNat_natCast, he]
    rw [v4_eq] at hs ⊢
    have hs : (!(rt && (wcnM e.1 && rngD e)) || (lg || wc1M e)) = true := hs
    refine go _ (fun h4 h5 => ?_) ?_
    ·rw [h4, h5] at hs; cases hs
    ·unfold ansR
     rw [← Bool.or_assoc] at h2
     rw [h2]
     by_cases hl : (lg || wc1M e) = true
     ·rw [hl, Bool.true_or, if_t rfl, if_t rfl]
     ·have hl : (lg || wc1M e) = false := by simpa using hl
      rw [hl, Bool.or_false] at hs
      have hs : (rt && (wcnM e.1 && rngD e)) = false := by rw [Bool.not_eq_true'] at hs; exact hs
      have e1 : (rt && (wcnM e.1 && (rngD e && fwd worM e (t.1.take i)) && rR worM wcnM (t.1.take i ++ [e]) (t.1.drop (i + 1)))) = false := by
       revert hs
       cases rt <;> cases wcnM e.1 <;> cases rngD e <;> simp
      rw [hs, e1, Bool.false_and]
   ·rw [v4_eq] at hs
    have hs : (!(rt && (wcnM e.1 && rngD e)) || (lg || wc1M e)) = false := hs
    rw [Bool.or_eq_false_iff, Bool.not_eq_false'] at hs
    obtain ⟨hs1, hl⟩ := hs
    rw [v4_eq, hs1]
    rw [Bool.and_eq_true, Bool.and_eq_true] at hs1
    obtain ⟨hr, hw, hg⟩ := hs1
    have hlg0 : lg = false := by rw [Bool.or_eq_false_iff] at hl; exact hl.1
    have hcl := hc hr hlg0
    refine ⟨by omega, by omega, by omega, _, l39_loop t e i lg _ hp (by omega) (t.1.take i).length 0 true (by omega) ?_⟩
    rw [List.drop_zero, Bool.true_and, fwd_cln hw _ hcl]
    refine go _ (fun _ _ y hy => ?_) ?_
    ·rw [hts] at hy
     rcases List.mem_append.1 hy with hy | hy
     ·exact hcl y hy
     ·rw [List.mem_singleton] at hy; rw [hy]; exact hw
    ·unfold ansR
     rw [← Bool.or_assoc, hl, Bool.false_or] at h2
     rw [hl, Bool.false_or, h2, hr, hw, hg, hts]
     rfl
  have j22 : rtrj22 t e lg rt (i : Int) (rtrl11 t (fun r => r = A) (k + 1)) := ⟨fun _ => ⟨fun _ => j26, fun _ => j26⟩, fun _ => j26⟩
  exact ⟨fun _ => j22, fun _ => j22⟩
theorem ans_chk (hp : t.1.length ≤ 140737488355328) : ansR t.1 0 (decide ((t.1.length : Int) > 50)) (rbetM t.2 0 (w6 ((t.1.length : Int) - 1))) = chkT t := by
 rw [chkT_eq]
 unfold ansR chkT0
 have e0 : wckV0 t = (decide ((t.1.length : Int) > 50) || (t.1.drop 0).any fun e => wc1M e) := rfl
 rw [e0]
 cases (decide ((t.1.length : Int) > 50) || (t.1.drop 0).any fun e => wc1M e)
 ·rw [if_f rfl, if_f rfl]
  have hd := docs_eq worM wcnM t.1 [] (inv_nil worM)
  have e1 : rR worM wcnM (t.1.take 0) (t.1.drop 0) = rR worM wcnM [] t.1 := rfl
  have e2 : wckV1 t = !(rbetM t.2 0 (w6 ((t.1.length : Int) - 1)) && rR worM wcnM [] t.1) := by
   rw [← hd]
   unfold wckV1
   have e3 : wcfS t.1 (fun y => wc2M y) = !(t.1.all fun e => wcnM e.1) := by
    show t.1.any (fun y => !(wcnM y.1)) = !(t.1.all fun e => wcnM e.1)
    rw [List.not_all_eq_any_not]
   have e4 : wdcS t.1 = dcF worM [] t.1 := rfl
   rw [e3, e4, w64 (by omega), bet_eq]
   by_cases a1 : t.2 < 0
   ·rw [decide_eq_true a1, decide_eq_false (show ¬ 0 ≤ t.2 by omega)]; rfl
   ·rw [decide_eq_false a1, decide_eq_true (show 0 ≤ t.2 by omega)]
    by_cases a2 : t.2 ≥ (t.1.length : Int)
    ·rw [decide_eq_true a2, decide_eq_false (show ¬ t.2 ≤ (t.1.length : Int) - 1 by omega)]; rfl
    ·rw [decide_eq_false a2, decide_eq_true (show t.2 ≤ (t.1.length : Int) - 1 by omega)]
     cases (t.1.all fun e => wcnM e.1) <;> cases dcF worM [] t.1 <;> rfl
  rw [e1, e2]
 ·rw [if_t rfl, if_t rfl]
end
theorem rtr_F (t : JTr) (hp : lenP t) : rtrF t (fun r => r = chkT t) :=
 ⟨_, l11_loop t hp (chkT t) t.1.length 0 _ _ (by omega) (fun _ _ y hy => by cases hy) (ans_chk t hp).symm⟩
theorem rtr_c {g : Ghost} {axt_0 : Option Addr} {cxt_0 : Nat} (xt : (List (Bs × Bs × Int)) × Int) (hRxt_0 : Rep g (.slice (.pair (.str) (.pair (.str) (.int .i64)))) [.slice axt_0 xt.1.length cxt_0] xt.1) (hG0 : SomeInt g 0) (hG1 : GlobL g 1 (.int .u64) DPow)  (hp : lenP xt) : CallsG Tryz.prog 11 #[.agg ⟨vT xt axt_0 cxt_0⟩] g (.int .i64 (chkT xt)) :=
 (rtr_ok xt hRxt_0 hG0 hG1 _ (rtr_F xt hp)).gives (by rintro g' H' v _ ⟨r0, rfl, rfl, hK⟩; subst hK; rfl)
end
end Go.Proofs.YtdaagfgedkdmjaaGreatDoor.Ub
