/- selector: what is wrong with a test, with paths, by the document. -/
import Derived.Test.YtcnhdkhkadiohaaGreatDoorSef
namespace Go.Proofs.YtcnhdkhkadiohaaGreatDoor.Se
open Go Go.Eng Go.RowKit Bld Trm Css Tk Ti
set_option maxHeartbeats 4000000
set_option maxRecDepth 100000
set_option linter.unusedSimpArgs false
set_option linter.unusedVariables false
def tmyP (N : Nat) (t : Ts) (i : Int) : Prop := tstP N t i
def pmyP (N : Nat) (l : List Ph) : Prop := ptsP N l
def tmy_C (N : Nat) : Prop := ∀ (g : Ghost) {axt_0 : Option Addr} {cxt_0 : Nat} (xt : Tst (Int × Bs × Int × Bs × Int × Int)) (xat : Int) (hRxt_0 : Rep g (.slice (.pair (.slice (.slice (.tst (.pair (.int .i64) (.pair (.str) (.pair (.int .u8) (.pair (.str) (.pair (.int .i64) (.int .i64))))))))) (.slice (.int .u8)))) [.slice axt_0 xt.kids.length cxt_0] xt.kids) (hG0 : SomeInt g 0)  (hp : tmyP N xt xat), CallsG Tryz.prog 30 #[.agg #[.int .i64 xt.lab.1, sv xt.lab.2.1, .int .u8 xt.lab.2.2.1, sv xt.lab.2.2.2.1, .int .i64 xt.lab.2.2.2.2.1, .int .i64 xt.lab.2.2.2.2.2, .slice axt_0 xt.kids.length cxt_0], .int .i64 xat] g (.bool (tstS xt xat))
def pmy_C (N : Nat) : Prop := ∀ (g : Ghost) {axl_0 : Option Addr} {cxl_0 : Nat} (xl : List ((List (List (Tst (Int × Bs × Int × Bs × Int × Int)))) × List (Int))) (hRxl_0 : Rep g (.slice (.pair (.slice (.slice (.tst (.pair (.int .i64) (.pair (.str) (.pair (.int .u8) (.pair (.str) (.pair (.int .i64) (.int .i64))))))))) (.slice (.int .u8)))) [.slice axl_0 xl.length cxl_0] xl) (hG0 : SomeInt g 0)  (hp : pmyP N xl), CallsG Tryz.prog 18 #[.slice axl_0 xl.length cxl_0] g (.bool (ptsS xl))
def tmyV0 (xt : Tst (Int × Bs × Int × Bs × Int × Int)) (xat : Int) : Bool :=
 ((decide (xat > 0)) && ((xt.lab.1 == 1) || (xt.lab.1 == 2)))
def tmyV1 (xt : Tst (Int × Bs × Int × Bs × Int × Int)) : Bool :=
 ((xt.lab.1 == 2) || ((xt.lab.1 == 3) || ((xt.lab.1 == 4) || (xt.lab.1 == 5))))
def tmyV2 (xt : Tst (Int × Bs × Int × Bs × Int × Int)) : Bool :=
 (if (!(tmyV1 xt)) = true then ((!(xt.lab.2.1 == ([] : Bs))) || ((tmyV1 xt) && (!(plainS xt.lab.2.1)))) else ((tmyV1 xt) && (!(plainS xt.lab.2.1))))
def tmyV3 (xt : Tst (Int × Bs × Int × Bs × Int × Int)) : Bool :=
 (if (xt.lab.1 == 2) = true then !((lowerS xt.lab.2.1) == xt.lab.2.1) else ((xt.lab.1 == 5) && (!((lowerS xt.lab.2.1) == xt.lab.2.1))))
def tmyV4 (xt : Tst (Int × Bs × Int × Bs × Int × Int)) : Bool :=
 (if (xt.lab.2.2.1 == 0) = true then ((!(xt.lab.2.2.2.1 == ([] : Bs))) || ((xt.lab.2.2.1 != 0) && ((xt.lab.1 != 5) || (!(hbyS ([61, 126, 124, 94, 36, 42] : Bs) xt.lab.2.2.1))))) else ((xt.lab.2.2.1 != 0) && ((xt.lab.1 != 5) || (!(hbyS ([61, 126, 124, 94, 36, 42] : Bs) xt.lab.2.2.1)))))
def tmyV5 (xt : Tst (Int × Bs × Int × Bs × Int × Int)) : Bool :=
 (if (!((xt.lab.1 == 8) || (xt.lab.1 == 9))) = true then ((xt.lab.2.2.2.2.1 != 0) || ((xt.lab.2.2.2.2.2 != 0) || ((decide (xt.lab.2.2.2.2.1 < (-1000))) || ((decide (xt.lab.2.2.2.2.1 > 1000)) || ((decide (xt.lab.2.2.2.2.2 < (-1000))) || (decide (xt.lab.2.2.2.2.2 > 1000))))))) else ((decide (xt.lab.2.2.2.2.1 < (-1000))) || ((decide (xt.lab.2.2.2.2.1 > 1000)) || ((decide (xt.lab.2.2.2.2.2 < (-1000))) || (decide (xt.lab.2.2.2.2.2 > 1000))))))
def tmyj56 (N : Nat) (xt : Tst (Int × Bs × Int × Bs × Int × Int)) (K : Bool → Prop) : Prop :=
 ((((xt.lab.1 == 10) || (xt.lab.1 == 11))) = true → pmyP N xt.kids ∧ K (ptsS xt.kids)) ∧ ((((xt.lab.1 == 10) || (xt.lab.1 == 11))) = false → K ((xt.kids.length : Int) == 0))
def tmyj48 (N : Nat) (xt : Tst (Int × Bs × Int × Bs × Int × Int)) (K : Bool → Prop) : Prop :=
 (((tmyV5 xt)) = true → K false) ∧ (((tmyV5 xt)) = false → (((xt.lab.1 == 10)) = true → tmyj56 N xt K) ∧ (((xt.lab.1 == 10)) = false → tmyj56 N xt K))
def tmyj45 (N : Nat) (xt : Tst (Int × Bs × Int × Bs × Int × Int)) (K : Bool → Prop) : Prop :=
 ((!((xt.lab.1 == 8) || (xt.lab.1 == 9))) = true → (((xt.lab.2.2.2.2.1 != 0)) = true → tmyj48 N xt K) ∧ (((xt.lab.2.2.2.2.1 != 0)) = false → (((xt.lab.2.2.2.2.2 != 0)) = true → tmyj48 N xt K) ∧ (((xt.lab.2.2.2.2.2 != 0)) = false → ((decide (xt.lab.2.2.2.2.1 < (-1000))) = true → tmyj48 N xt K) ∧ ((decide (xt.lab.2.2.2.2.1 < (-1000))) = false → ((decide (xt.lab.2.2.2.2.1 > 1000)) = true → tmyj48 N xt K) ∧ ((decide (xt.lab.2.2.2.2.1 > 1000)) = false → ((decide (xt.lab.2.2.2.2.2 < (-1000))) = true → tmyj48 N xt K) ∧ ((decide (xt.lab.2.2.2.2.2 < (-1000))) = false → tmyj48 N xt K)))))) ∧ ((!((xt.lab.1 == 8) || (xt.lab.1 == 9))) = false → ((decide (xt.lab.2.2.2.2.1 < (-1000))) = true → tmyj48 N xt K) ∧ ((decide (xt.lab.2.2.2.2.1 < (-1000))) = false → ((decide (xt.lab.2.2.2.2.1 > 1000)) = true → tmyj48 N xt K) ∧ ((decide (xt.lab.2.2.2.2.1 > 1000)) = false → ((decide (xt.lab.2.2.2.2.2 < (-1000))) = true → tmyj48 N xt K) ∧ ((decide (xt.lab.2.2.2.2.2 < (-1000))) = false → tmyj48 N xt K))))
def tmyj38 (N : Nat) (xt : Tst (Int × Bs × Int × Bs × Int × Int)) (K : Bool → Prop) : Prop :=
 (((tmyV4 xt)) = true → K false) ∧ (((tmyV4 xt)) = false → (((xt.lab.1 == 8)) = true → tmyj45 N xt K) ∧ (((xt.lab.1 == 8)) = false → tmyj45 N xt K))
def tmyj30 (N : Nat) (xt : Tst (Int × Bs × Int × Bs × Int × Int)) (K : Bool → Prop) : Prop :=
 (((tmyV3 xt)) = true → K false) ∧ (((tmyV3 xt)) = false → (((xt.lab.2.2.1 == 0)) = true → ((!(xt.lab.2.2.2.1 == ([] : Bs))) = true → tmyj38 N xt K) ∧ ((!(xt.lab.2.2.2.1 == ([] : Bs))) = false → (((xt.lab.2.2.1 != 0)) = true → (((xt.lab.1 != 5)) = true → tmyj38 N xt K) ∧ (((xt.lab.1 != 5)) = false → hbyP ([61, 126, 124, 94, 36, 42] : Bs) xt.lab.2.2.1 ∧ tmyj38 N xt K)) ∧ (((xt.lab.2.2.1 != 0)) = false → tmyj38 N xt K))) ∧ (((xt.lab.2.2.1 == 0)) = false → (((xt.lab.2.2.1 != 0)) = true → (((xt.lab.1 != 5)) = true → tmyj38 N xt K) ∧ (((xt.lab.1 != 5)) = false → hbyP ([61, 126, 124, 94, 36, 42] : Bs) xt.lab.2.2.1 ∧ tmyj38 N xt K)) ∧ (((xt.lab.2.2.1 != 0)) = false → tmyj38 N xt K)))
def tmyj22 (N : Nat) (xt : Tst (Int × Bs × Int × Bs × Int × Int)) (K : Bool → Prop) : Prop :=
 (((tmyV2 xt)) = true → K false) ∧ (((tmyV2 xt)) = false → (((xt.lab.1 == 2)) = true → lowerP xt.lab.2.1 ∧ tmyj30 N xt K) ∧ (((xt.lab.1 == 2)) = false → (((xt.lab.1 == 5)) = true → lowerP xt.lab.2.1 ∧ tmyj30 N xt K) ∧ (((xt.lab.1 == 5)) = false → tmyj30 N xt K)))
def tmyj19 (N : Nat) (xt : Tst (Int × Bs × Int × Bs × Int × Int)) (K : Bool → Prop) : Prop :=
 ((!(tmyV1 xt)) = true → ((!(xt.lab.2.1 == ([] : Bs))) = true → tmyj22 N xt K) ∧ ((!(xt.lab.2.1 == ([] : Bs))) = false → (((tmyV1 xt)) = true → cutP xt.lab.2.1 ∧ tmyj22 N xt K) ∧ (((tmyV1 xt)) = false → tmyj22 N xt K))) ∧ ((!(tmyV1 xt)) = false → (((tmyV1 xt)) = true → cutP xt.lab.2.1 ∧ tmyj22 N xt K) ∧ (((tmyV1 xt)) = false → tmyj22 N xt K))
def tmyj12 (N : Nat) (xt : Tst (Int × Bs × Int × Bs × Int × Int)) (xat : Int) (K : Bool → Prop) : Prop :=
 (((tmyV0 xt xat)) = true → K false) ∧ (((tmyV0 xt xat)) = false → (((xt.lab.1 == 2)) = true → tmyj19 N xt K) ∧ (((xt.lab.1 == 2)) = false → (((xt.lab.1 == 3)) = true → tmyj19 N xt K) ∧ (((xt.lab.1 == 3)) = false → (((xt.lab.1 == 4)) = true → tmyj19 N xt K) ∧ (((xt.lab.1 == 4)) = false → tmyj19 N xt K))))
def tmyj4 (N : Nat) (xt : Tst (Int × Bs × Int × Bs × Int × Int)) (xat : Int) (K : Bool → Prop) : Prop :=
 ((((decide (xt.lab.1 < 1)) || (decide (xt.lab.1 > 11)))) = true → K false) ∧ ((((decide (xt.lab.1 < 1)) || (decide (xt.lab.1 > 11)))) = false → ((decide (xat > 0)) = true → (((xt.lab.1 == 1)) = true → tmyj12 N xt xat K) ∧ (((xt.lab.1 == 1)) = false → tmyj12 N xt xat K)) ∧ ((decide (xat > 0)) = false → tmyj12 N xt xat K))
def tmyF (N : Nat) (xt : Tst (Int × Bs × Int × Bs × Int × Int)) (xat : Int) (K : Bool → Prop) : Prop :=
 ((decide (xt.lab.1 < 1)) = true → tmyj4 N xt xat K) ∧ ((decide (xt.lab.1 < 1)) = false → tmyj4 N xt xat K)
theorem tmy_ok {g : Ghost} (N : Nat) (ih_tmy : tmy_C N) (ih_pmy : pmy_C N) {axt_0 : Option Addr} {cxt_0 : Nat} (xt : Tst (Int × Bs × Int × Bs × Int × Int)) (xat : Int) (hRxt_0 : Rep g (.slice (.pair (.slice (.slice (.tst (.pair (.int .i64) (.pair (.str) (.pair (.int .u8) (.pair (.str) (.pair (.int .i64) (.int .i64))))))))) (.slice (.int .u8)))) [.slice axt_0 xt.kids.length cxt_0] xt.kids) (hG0 : SomeInt g 0) (K : Bool → Prop)
  (hF : tmyF N xt xat K) : CallsH Tryz.prog 30 #[.agg #[.int .i64 xt.lab.1, sv xt.lab.2.1, .int .u8 xt.lab.2.2.1, sv xt.lab.2.2.2.1, .int .i64 xt.lab.2.2.2.2.1, .int .i64 xt.lab.2.2.2.2.2, .slice axt_0 xt.kids.length cxt_0], .int .i64 xat] g [] (fun g' H' v => ∃ (r0 : Bool), v = .bool r0 ∧ H' = [] ∧ K r0) := by
 refine CallsH.enter 156 [(0, .agg #[.int .i64 xt.lab.1, sv xt.lab.2.1, .int .u8 xt.lab.2.2.1, sv xt.lab.2.2.2.1, .int .i64 xt.lab.2.2.2.2.1, .int .i64 xt.lab.2.2.2.2.2, .slice axt_0 xt.kids.length cxt_0]), (1, .int .i64 xat)] Tryz.func30 rfl (by kernel_rfl) (by kernel_rfl) (by kernel_rfl) fun w0 => ?_
 refine Ok.seq (Ok.region (Ok.op rfl (OpOk.box (v := .agg #[.int .i64 xt.lab.1, sv xt.lab.2.1, .int .u8 xt.lab.2.2.1, sv xt.lab.2.2.2.1, .int .i64 xt.lab.2.2.2.2.1, .int .i64 xt.lab.2.2.2.2.2, .slice axt_0 xt.kids.length cxt_0]) (cs := #[.int .i64 xt.lab.1, sv xt.lab.2.1, .int .u8 xt.lab.2.2.1, sv xt.lab.2.2.2.1, .int .i64 xt.lab.2.2.2.2.1, .int .i64 xt.lab.2.2.2.2.2, .slice axt_0 xt.kids.length cxt_0]) rfl (by kernel_rfl) rfl fun bs2 => ?_)))
 refine Ok.batch 1 [(1, .int .i64 xat), (2, pv bs2 0)] (by kernel_rfl) (Ok.nil (Ok.thenN (Ok.seq (Ok.cut (fun a W => StA 156 [(1, .int .i64 xat), (2, pv bs2 0), (14, .bool ((decide (xt.lab.1 < 1)) || (decide (xt.lab.1 > 11))))] a ∧ StW w0 [.blk bs2 (.cells #[.int .i64 xt.lab.1, sv xt.lab.2.1, .int .u8 xt.lab.2.2.1, sv xt.lab.2.2.2.1, .int .i64 xt.lab.2.2.2.2.1, .int .i64 xt.lab.2.2.2.2.2, .slice axt_0 xt.kids.length cxt_0] 48)] g W ∧ tmyj4 N xt xat K) ?_ ?_))))
 ·
  refine Ok.region (Ok.bat 1 [1, 2] [(7, pv bs2 0)] ?_)
  refine Ok.op rfl (OpOk.step (v := .int .i64 xt.lab.1) (Yields.load 0 rfl rfl Tryz.underlying3 rfl (by kernel_rfl)) rfl rfl (Ok.bat 2 [1, 2] [(10, .bool (decide (xt.lab.1 < 1)))] ?_))
  refine Ok.boolAt 10 (decide (xt.lab.1 < 1)) rfl (fun hc44 => ?_) (fun hc44 => ?_)
  ·replace hF := hF.1 hc44
   refine Ok.bat 4 [1, 2] [(14, .bool true)] ?_
   refine Ok.nil (Ok.thenN (Ok.reval 14 rfl (show (.bool true : Value) = .bool ((decide (xt.lab.1 < 1)) || (decide (xt.lab.1 > 11))) from congrArg (Value.bool) (mor_t hc44)) ?_))
   exact fun a W hA hW => ⟨hA.sub (by kernel_rfl), hW, hF⟩
  ·replace hF := hF.2 hc44
   refine Ok.bat 1 [1, 2] [(10, .bool false), (11, pv bs2 0)] ?_
   refine Ok.opYes (j := 3) (d := 10) (want := false) (b := false) rfl (by kernel_rfl) (by kernel_rfl) rfl (OpOk.step (v := .int .i64 xt.lab.1) (Yields.load 0 rfl rfl Tryz.underlying3 rfl (by kernel_rfl)) rfl rfl (Ok.bat 2 [1, 2] [(14, .bool (decide (xt.lab.1 > 11)))] ?_))
   refine Ok.nil (Ok.thenN (Ok.reval 14 rfl (show (.bool (decide (xt.lab.1 > 11)) : Value) = .bool ((decide (xt.lab.1 < 1)) || (decide (xt.lab.1 > 11))) from congrArg (Value.bool) (mor_f hc44)) ?_))
   exact fun a W hA hW => ⟨hA.sub (by kernel_rfl), hW, hF⟩
 ·
  clear hF
  rintro a W ⟨hA, hW, hF⟩
  refine (?_ : Ok _ _ _ _ _ _) a W hA hW
  clear hA hW
  refine Ok.cond (b := ((decide (xt.lab.1 < 1)) || (decide (xt.lab.1 > 11)))) rfl (fun hc2 => ?_) (fun hc2 => ?_)
  ·replace hF := hF.1 hc2
   refine Ok.seq (Ok.region (Ok.batch 1 [(4, .bool false)] (by kernel_rfl) (Ok.nil (Ok.thenN (Ok.ret (Ok.thenR ?_))))))
   exact Ok.resP (vs := [.bool false]) [] [] (by decide) rfl (.inl rfl) rfl (.cons (.tmp rfl) .nil) (Gext.refl w0 g) ⟨false, rfl, rfl, hF⟩
  ·replace hF := hF.2 hc2
   refine Ok.skip (Ok.thenN (Ok.seq (Ok.cut (fun a W => StA 156 [(2, pv bs2 0), (26, .bool (tmyV0 xt xat))] a ∧ StW w0 [.blk bs2 (.cells #[.int .i64 xt.lab.1, sv xt.lab.2.1, .int .u8 xt.lab.2.2.1, sv xt.lab.2.2.2.1, .int .i64 xt.lab.2.2.2.2.1, .int .i64 xt.lab.2.2.2.2.2, .slice axt_0 xt.kids.length cxt_0] 48)] g W ∧ tmyj12 N xt xat K) ?_ ?_)))
   ·
    refine Ok.region (Ok.bat 3 [2] [(17, .bool (decide (xat > 0)))] ?_)
    refine Ok.boolAt 17 (decide (xat > 0)) rfl (fun hc42 => ?_) (fun hc42 => ?_)
    ·replace hF := hF.1 hc42
     refine Ok.bat 1 [2] [(17, .bool true), (18, pv bs2 0)] ?_
     refine Ok.opYes (j := 2) (d := 17) (want := true) (b := true) rfl (by kernel_rfl) (by kernel_rfl) rfl (OpOk.step (v := .int .i64 xt.lab.1) (Yields.load 0 rfl rfl Tryz.underlying3 rfl (by kernel_rfl)) rfl rfl (Ok.bat 2 [2, 17] [(21, .bool (xt.lab.1 == 1))] ?_))
     refine Ok.boolAt 21 ((xt.lab.1 == 1)) rfl (fun hc43 => ?_) (fun hc43 => ?_)
     ·replace hF := hF.1 hc43
      refine Ok.bat 5 [2] [(26, .bool true)] ?_
      refine Ok.nil (Ok.thenN (Ok.reval 26 rfl (show (.bool true : Value) = .bool (tmyV0 xt xat) from congrArg (Value.bool) ((Eq.trans (mor_t hc43) (mand_t hc42)))) ?_))
      exact fun a W hA hW => ⟨hA.sub (by kernel_rfl), hW, hF⟩
     ·replace hF := hF.2 hc43
      refine Ok.bat 1 [2, 17] [(21, .bool false), (22, pv bs2 0)] ?_
      refine Ok.opYes (j := 6) (d := 21) (want := false) (b := false) rfl (by kernel_rfl) (by kernel_rfl) rfl (OpOk.step (v := .int .i64 xt.lab.1) (Yields.load 0 rfl rfl Tryz.underlying3 rfl (by kernel_rfl)) rfl rfl (Ok.bat 3 [2] [(26, .bool (xt.lab.1 == 2))] ?_))
      refine Ok.nil (Ok.thenN (Ok.reval 26 rfl (show (.bool (xt.lab.1 == 2) : Value) = .bool (tmyV0 xt xat) from congrArg (Value.bool) ((Eq.trans (mor_f hc43) (mand_t hc42)))) ?_))
      exact fun a W hA hW => ⟨hA.sub (by kernel_rfl), hW, hF⟩
    ·replace hF := hF.2 hc42
     refine Ok.bat 9 [2] [(26, .bool false)] ?_
     refine Ok.nil (Ok.thenN (Ok.reval 26 rfl (show (.bool false : Value) = .bool (tmyV0 xt xat) from congrArg (Value.bool) (mand_f hc42)) ?_))
     exact fun a W hA hW => ⟨hA.sub (by kernel_rfl), hW, hF⟩
   ·
    clear hF
    rintro a W ⟨hA, hW, hF⟩
    refine (?_ : Ok _ _ _ _ _ _) a W hA hW
    clear hA hW
    refine Ok.cond (b := (tmyV0 xt xat)) rfl (fun hc3 => ?_) (fun hc3 => ?_)
    ·replace hF := hF.1 hc3
     refine Ok.seq (Ok.region (Ok.batch 1 [(4, .bool false)] (by kernel_rfl) (Ok.nil (Ok.thenN (Ok.ret (Ok.thenR ?_))))))
     exact Ok.resP (vs := [.bool false]) [] [] (by decide) rfl (.inl rfl) rfl (.cons (.tmp rfl) .nil) (Gext.refl w0 g) ⟨false, rfl, rfl, hF⟩
    ·replace hF := hF.2 hc3
     refine Ok.skip (Ok.thenN (Ok.cut (fun a W => StA 156 [(2, pv bs2 0), (5, .bool (tmyV1 xt))] a ∧ StW w0 [.blk bs2 (.cells #[.int .i64 xt.lab.1, sv xt.lab.2.1, .int .u8 xt.lab.2.2.1, sv xt.lab.2.2.2.1, .int .i64 xt.lab.2.2.2.2.1, .int .i64 xt.lab.2.2.2.2.2, .slice axt_0 xt.kids.length cxt_0] 48)] g W ∧ tmyj19 N xt K) ?_ ?_))
     ·
      refine Ok.region (Ok.bat 1 [2] [(27, pv bs2 0)] ?_)
      refine Ok.op rfl (OpOk.step (v := .int .i64 xt.lab.1) (Yields.load 0 rfl rfl Tryz.underlying3 rfl (by kernel_rfl)) rfl rfl (Ok.bat 2 [2] [(30, .bool (xt.lab.1 == 2))] ?_))
      refine Ok.boolAt 30 ((xt.lab.1 == 2)) rfl (fun hc39 => ?_) (fun hc39 => ?_)
      ·replace hF := hF.1 hc39
       refine Ok.bat 15 [2] [(5, .bool true)] ?_
       refine Ok.nil (Ok.thenN (Ok.reval 5 rfl (show (.bool true : Value) = .bool (tmyV1 xt) from congrArg (Value.bool) (mor_t hc39)) ?_))
       exact fun a W hA hW => ⟨hA.sub (by kernel_rfl), hW, hF⟩
      ·replace hF := hF.2 hc39
       refine Ok.bat 1 [2] [(30, .bool false), (31, pv bs2 0)] ?_
       refine Ok.opYes (j := 3) (d := 30) (want := false) (b := false) rfl (by kernel_rfl) (by kernel_rfl) rfl (OpOk.step (v := .int .i64 xt.lab.1) (Yields.load 0 rfl rfl Tryz.underlying3 rfl (by kernel_rfl)) rfl rfl (Ok.bat 3 [2] [(35, .bool (xt.lab.1 == 3))] ?_))
       refine Ok.boolAt 35 ((xt.lab.1 == 3)) rfl (fun hc40 => ?_) (fun hc40 => ?_)
       ·replace hF := hF.1 hc40
        refine Ok.bat 10 [2] [(5, .bool true)] ?_
        refine Ok.nil (Ok.thenN (Ok.reval 5 rfl (show (.bool true : Value) = .bool (tmyV1 xt) from congrArg (Value.bool) ((Eq.trans (mor_t hc40) (mor_f hc39)))) ?_))
        exact fun a W hA hW => ⟨hA.sub (by kernel_rfl), hW, hF⟩
       ·replace hF := hF.2 hc40
        refine Ok.bat 1 [2] [(35, .bool false), (36, pv bs2 0)] ?_
        refine Ok.opYes (j := 8) (d := 35) (want := false) (b := false) rfl (by kernel_rfl) (by kernel_rfl) rfl (OpOk.step (v := .int .i64 xt.lab.1) (Yields.load 0 rfl rfl Tryz.underlying3 rfl (by kernel_rfl)) rfl rfl (Ok.bat 3 [2] [(40, .bool (xt.lab.1 == 4))] ?_))
        refine Ok.boolAt 40 ((xt.lab.1 == 4)) rfl (fun hc41 => ?_) (fun hc41 => ?_)
        ·replace hF := hF.1 hc41
         refine Ok.bat 5 [2] [(5, .bool true)] ?_
         refine Ok.nil (Ok.thenN (Ok.reval 5 rfl (show (.bool true : Value) = .bool (tmyV1 xt) from congrArg (Value.bool) ((Eq.trans ((Eq.trans (mor_t hc41) (mor_f hc40))) (mor_f hc39)))) ?_))
         exact fun a W hA hW => ⟨hA.sub (by kernel_rfl), hW, hF⟩
        ·replace hF := hF.2 hc41
         refine Ok.bat 1 [2] [(40, .bool false), (41, pv bs2 0)] ?_
         refine Ok.opYes (j := 13) (d := 40) (want := false) (b := false) rfl (by kernel_rfl) (by kernel_rfl) rfl (OpOk.step (v := .int .i64 xt.lab.1) (Yields.load 0 rfl rfl Tryz.underlying3 rfl (by kernel_rfl)) rfl rfl (Ok.bat 3 [2] [(5, .bool (xt.lab.1 == 5))] ?_))
         refine Ok.nil (Ok.thenN (Ok.reval 5 rfl (show (.bool (xt.lab.1 == 5) : Value) = .bool (tmyV1 xt) from congrArg (Value.bool) ((Eq.trans ((Eq.trans (mor_f hc41) (mor_f hc40))) (mor_f hc39)))) ?_))
         exact fun a W hA hW => ⟨hA.sub (by kernel_rfl), hW, hF⟩
     ·
      clear hF
      rintro a W ⟨hA, hW, hF⟩
      refine (?_ : Ok _ _ _ _ _ _) a W hA hW
      clear hA hW
      refine Ok.seq (Ok.cut (fun a W => StA 156 [(2, pv bs2 0), (60, .bool (tmyV2 xt))] a ∧ StW w0 [.blk bs2 (.cells #[.int .i64 xt.lab.1, sv xt.lab.2.1, .int .u8 xt.lab.2.2.1, sv xt.lab.2.2.2.1, .int .i64 xt.lab.2.2.2.2.1, .int .i64 xt.lab.2.2.2.2.2, .slice axt_0 xt.kids.length cxt_0] 48)] g W ∧ tmyj22 N xt K) ?_ ?_)
      ·
       refine Ok.region (Ok.bat 3 [2, 5] [(47, .bool (!(tmyV1 xt)))] ?_)
       refine Ok.boolAt 47 (!(tmyV1 xt)) rfl (fun hc33 => ?_) (fun hc33 => ?_)
       ·replace hF := hF.1 hc33
        refine Ok.bat 1 [2, 5] [(47, .bool true), (48, pv bs2 1)] ?_
        refine Ok.opYes (j := 2) (d := 47) (want := true) (b := true) rfl (by kernel_rfl) (by kernel_rfl) rfl (OpOk.step (v := sv xt.lab.2.1) (Yields.load 0 rfl rfl Tryz.underlying9 rfl (by kernel_rfl)) rfl rfl (Ok.opYes (j := 2) (d := 47) (want := true) (b := true) rfl (by kernel_rfl) (by kernel_rfl) rfl (OpOk.step (v := .bool (!(xt.lab.2.1 == ([] : Bs)))) (Yields.strCmp (f := .neq) (a := xt.lab.2.1) (b := ([] : Bs)) (by kernel_rfl) (by kernel_rfl) rfl) rfl rfl (Ok.bat 2 [2, 5] [(52, .bool (!(xt.lab.2.1 == ([] : Bs))))] ?_))))
        refine Ok.boolAt 52 (!(xt.lab.2.1 == ([] : Bs))) rfl (fun hc34 => ?_) (fun hc34 => ?_)
        ·replace hF := hF.1 hc34
         refine Ok.bat 8 [2] [(60, .bool true)] ?_
         refine Ok.nil (Ok.thenN (Ok.reval 60 rfl (show (.bool true : Value) = .bool (tmyV2 xt) from congrArg (Value.bool) ((Eq.trans (mor_t hc34) ((if_t hc33).symm)))) ?_))
         exact fun a W hA hW => ⟨hA.sub (by kernel_rfl), hW, hF⟩
        ·replace hF := hF.2 hc34
         refine Ok.bat 2 [2] [(52, .bool false), (54, .bool (tmyV1 xt))] ?_
         refine Ok.boolAt 54 ((tmyV1 xt)) rfl (fun hc35 => ?_) (fun hc35 => ?_)
         ·replace hF := hF.1 hc35
          refine Ok.bat 1 [2, 52] [(54, .bool true), (55, pv bs2 1)] ?_
          refine Ok.opYes (j := 9) (d := 54) (want := true) (b := true) rfl (by kernel_rfl) (by kernel_rfl) rfl (OpOk.step (v := sv xt.lab.2.1) (Yields.load 0 rfl rfl Tryz.underlying9 rfl (by kernel_rfl)) rfl rfl ?_)
          obtain ⟨hp36, hF⟩ := hF
          refine Ok.opYes (j := 9) (d := 54) (want := true) (b := true) rfl (by kernel_rfl) (by kernel_rfl) rfl (OpOk.callG (v := .bool (plainS xt.lab.2.1)) enr (fun W hW => rpn_c xt.lab.2.1 hp36) rfl ?_)
          refine Ok.bat 3 [2] [(60, .bool (!(plainS xt.lab.2.1)))] ?_
          refine Ok.nil (Ok.thenN (Ok.reval 60 rfl (show (.bool (!(plainS xt.lab.2.1)) : Value) = .bool (tmyV2 xt) from congrArg (Value.bool) ((Eq.trans ((Eq.trans (mand_t hc35) (mor_f hc34))) ((if_t hc33).symm)))) ?_))
          exact fun a W hA hW => ⟨hA.sub (by kernel_rfl), hW, hF⟩
         ·replace hF := hF.2 hc35
          refine Ok.bat 6 [2] [(60, .bool false)] ?_
          refine Ok.nil (Ok.thenN (Ok.reval 60 rfl (show (.bool false : Value) = .bool (tmyV2 xt) from congrArg (Value.bool) ((Eq.trans ((Eq.trans (mand_f hc35) (mor_f hc34))) ((if_t hc33).symm)))) ?_))
          exact fun a W hA hW => ⟨hA.sub (by kernel_rfl), hW, hF⟩
       ·replace hF := hF.2 hc33
        refine Ok.bat 7 [2] [(52, .bool false), (54, .bool (tmyV1 xt))] ?_
        refine Ok.boolAt 54 ((tmyV1 xt)) rfl (fun hc37 => ?_) (fun hc37 => ?_)
        ·replace hF := hF.1 hc37
         refine Ok.bat 1 [2, 52] [(54, .bool true), (55, pv bs2 1)] ?_
         refine Ok.opYes (j := 9) (d := 54) (want := true) (b := true) rfl (by kernel_rfl) (by kernel_rfl) rfl (OpOk.step (v := sv xt.lab.2.1) (Yields.load 0 rfl rfl Tryz.underlying9 rfl (by kernel_rfl)) rfl rfl ?_)
         obtain ⟨hp38, hF⟩ := hF
         refine Ok.opYes (j := 9) (d := 54) (want := true) (b := true) rfl (by kernel_rfl) (by kernel_rfl) rfl (OpOk.callG (v := .bool (plainS xt.lab.2.1)) enr (fun W hW => rpn_c xt.lab.2.1 hp38) rfl ?_)
         refine Ok.bat 3 [2] [(60, .bool (!(plainS xt.lab.2.1)))] ?_
         refine Ok.nil (Ok.thenN (Ok.reval 60 rfl (show (.bool (!(plainS xt.lab.2.1)) : Value) = .bool (tmyV2 xt) from congrArg (Value.bool) ((Eq.trans (mand_t hc37) ((if_f hc33).symm)))) ?_))
         exact fun a W hA hW => ⟨hA.sub (by kernel_rfl), hW, hF⟩
        ·replace hF := hF.2 hc37
         refine Ok.bat 6 [2] [(60, .bool false)] ?_
         refine Ok.nil (Ok.thenN (Ok.reval 60 rfl (show (.bool false : Value) = .bool (tmyV2 xt) from congrArg (Value.bool) ((Eq.trans (mand_f hc37) ((if_f hc33).symm)))) ?_))
         exact fun a W hA hW => ⟨hA.sub (by kernel_rfl), hW, hF⟩
      ·
       clear hF
       rintro a W ⟨hA, hW, hF⟩
       refine (?_ : Ok _ _ _ _ _ _) a W hA hW
       clear hA hW
       refine Ok.cond (b := (tmyV2 xt)) rfl (fun hc4 => ?_) (fun hc4 => ?_)
       ·replace hF := hF.1 hc4
        refine Ok.seq (Ok.region (Ok.batch 1 [(4, .bool false)] (by kernel_rfl) (Ok.nil (Ok.thenN (Ok.ret (Ok.thenR ?_))))))
        exact Ok.resP (vs := [.bool false]) [] [] (by decide) rfl (.inl rfl) rfl (.cons (.tmp rfl) .nil) (Gext.refl w0 g) ⟨false, rfl, rfl, hF⟩
       ·replace hF := hF.2 hc4
        refine Ok.skip (Ok.thenN (Ok.seq (Ok.cut (fun a W => StA 156 [(2, pv bs2 0), (76, .bool (tmyV3 xt))] a ∧ StW w0 [.blk bs2 (.cells #[.int .i64 xt.lab.1, sv xt.lab.2.1, .int .u8 xt.lab.2.2.1, sv xt.lab.2.2.2.1, .int .i64 xt.lab.2.2.2.2.1, .int .i64 xt.lab.2.2.2.2.2, .slice axt_0 xt.kids.length cxt_0] 48)] g W ∧ tmyj30 N xt K) ?_ ?_)))
        ·
         refine Ok.quiet' (by kernel_rfl) (by kernel_rfl) (OkQ.bat 1 [2] [(61, pv bs2 0)] ?_)
         refine OkQ.op rfl (OpQ.step (v := .int .i64 xt.lab.1) (Yields.load 0 rfl rfl Tryz.underlying3 rfl (by kernel_rfl)) rfl rfl (OkQ.bat 2 [2] [(64, .bool (xt.lab.1 == 2))] ?_))
         refine OkQ.boolAt 64 ((xt.lab.1 == 2)) rfl (fun hc29 => ?_) (fun hc29 => ?_)
         ·replace hF := hF.1 hc29
          refine OkQ.bat 6 [2] [(69, .bool true), (70, pv bs2 1)] ?_
          refine OkQ.opYes (j := 8) (d := 69) (want := true) (b := true) rfl (by kernel_rfl) (by kernel_rfl) rfl (OpQ.step (v := sv xt.lab.2.1) (Yields.load 0 rfl rfl Tryz.underlying9 rfl (by kernel_rfl)) rfl rfl ?_)
          obtain ⟨hp30, hF⟩ := hF
          refine OkQ.opYes (j := 8) (d := 69) (want := true) (b := true) rfl (by kernel_rfl) (by kernel_rfl) rfl (OpQ.callG (v := sv (lowerS xt.lab.2.1)) enr (fun W hW => rlow_c xt.lab.2.1 hp30) rfl ?_)
          refine OkQ.bat 1 [2, 69] [(72, sv (lowerS xt.lab.2.1)), (73, pv bs2 1)] ?_
          refine OkQ.opYes (j := 8) (d := 69) (want := true) (b := true) rfl (by kernel_rfl) (by kernel_rfl) rfl (OpQ.step (v := sv xt.lab.2.1) (Yields.load 0 rfl rfl Tryz.underlying9 rfl (by kernel_rfl)) rfl rfl (OkQ.opYes (j := 8) (d := 69) (want := true) (b := true) rfl (by kernel_rfl) (by kernel_rfl) rfl (OpQ.step (v := .bool (!((lowerS xt.lab.2.1) == xt.lab.2.1))) (Yields.strCmp (f := .neq) (a := (lowerS xt.lab.2.1)) (b := xt.lab.2.1) (by kernel_rfl) (by kernel_rfl) rfl) rfl rfl (OkQ.bat 1 [2] [(76, .bool (!((lowerS xt.lab.2.1) == xt.lab.2.1)))] ?_))))
          refine OkQ.nil (Ok.thenN (Ok.reval 76 rfl (show (.bool (!((lowerS xt.lab.2.1) == xt.lab.2.1)) : Value) = .bool (tmyV3 xt) from congrArg (Value.bool) ((if_t hc29).symm)) ?_))
          exact fun a W hA hW => ⟨hA.sub (by kernel_rfl), hW, hF⟩
         ·replace hF := hF.2 hc29
          refine OkQ.bat 1 [2] [(64, .bool false), (65, pv bs2 0)] ?_
          refine OkQ.opYes (j := 3) (d := 64) (want := false) (b := false) rfl (by kernel_rfl) (by kernel_rfl) rfl (OpQ.step (v := .int .i64 xt.lab.1) (Yields.load 0 rfl rfl Tryz.underlying3 rfl (by kernel_rfl)) rfl rfl (OkQ.bat 3 [2] [(69, .bool (xt.lab.1 == 5))] ?_))
          refine OkQ.boolAt 69 ((xt.lab.1 == 5)) rfl (fun hc31 => ?_) (fun hc31 => ?_)
          ·replace hF := hF.1 hc31
           refine OkQ.bat 1 [2] [(69, .bool true), (70, pv bs2 1)] ?_
           refine OkQ.opYes (j := 8) (d := 69) (want := true) (b := true) rfl (by kernel_rfl) (by kernel_rfl) rfl (OpQ.step (v := sv xt.lab.2.1) (Yields.load 0 rfl rfl Tryz.underlying9 rfl (by kernel_rfl)) rfl rfl ?_)
           obtain ⟨hp32, hF⟩ := hF
           refine OkQ.opYes (j := 8) (d := 69) (want := true) (b := true) rfl (by kernel_rfl) (by kernel_rfl) rfl (OpQ.callG (v := sv (lowerS xt.lab.2.1)) enr (fun W hW => rlow_c xt.lab.2.1 hp32) rfl ?_)
           refine OkQ.bat 1 [2, 69] [(72, sv (lowerS xt.lab.2.1)), (73, pv bs2 1)] ?_
           refine OkQ.opYes (j := 8) (d := 69) (want := true) (b := true) rfl (by kernel_rfl) (by kernel_rfl) rfl (OpQ.step (v := sv xt.lab.2.1) (Yields.load 0 rfl rfl Tryz.underlying9 rfl (by kernel_rfl)) rfl rfl (OkQ.opYes (j := 8) (d := 69) (want := true) (b := true) rfl (by kernel_rfl) (by kernel_rfl) rfl (OpQ.step (v := .bool (!((lowerS xt.lab.2.1) == xt.lab.2.1))) (Yields.strCmp (f := .neq) (a := (lowerS xt.lab.2.1)) (b := xt.lab.2.1) (by kernel_rfl) (by kernel_rfl) rfl) rfl rfl (OkQ.bat 1 [2] [(76, .bool (!((lowerS xt.lab.2.1) == xt.lab.2.1)))] ?_))))
           refine OkQ.nil (Ok.thenN (Ok.reval 76 rfl (show (.bool (!((lowerS xt.lab.2.1) == xt.lab.2.1)) : Value) = .bool (tmyV3 xt) from congrArg (Value.bool) ((Eq.trans (mand_t hc31) ((if_f hc29).symm)))) ?_))
           exact fun a W hA hW => ⟨hA.sub (by kernel_rfl), hW, hF⟩
          ·replace hF := hF.2 hc31
           refine OkQ.bat 7 [2] [(76, .bool false)] ?_
           refine OkQ.nil (Ok.thenN (Ok.reval 76 rfl (show (.bool false : Value) = .bool (tmyV3 xt) from congrArg (Value.bool) ((Eq.trans (mand_f hc31) ((if_f hc29).symm)))) ?_))
           exact fun a W hA hW => ⟨hA.sub (by kernel_rfl), hW, hF⟩
        ·
         clear hF
         rintro a W ⟨hA, hW, hF⟩
         refine (?_ : Ok _ _ _ _ _ _) a W hA hW
         clear hA hW
         refine Ok.cond (b := (tmyV3 xt)) rfl (fun hc5 => ?_) (fun hc5 => ?_)
         ·replace hF := hF.1 hc5
          refine Ok.seq (Ok.region (Ok.batch 1 [(4, .bool false)] (by kernel_rfl) (Ok.nil (Ok.thenN (Ok.ret (Ok.thenR ?_))))))
          exact Ok.resP (vs := [.bool false]) [] [] (by decide) rfl (.inl rfl) rfl (.cons (.tmp rfl) .nil) (Gext.refl w0 g) ⟨false, rfl, rfl, hF⟩
         ·replace hF := hF.2 hc5
          refine Ok.skip (Ok.thenN (Ok.seq (Ok.cut (fun a W => StA 156 [(2, pv bs2 0), (100, .bool (tmyV4 xt))] a ∧ StW w0 [.blk bs2 (.cells #[.int .i64 xt.lab.1, sv xt.lab.2.1, .int .u8 xt.lab.2.2.1, sv xt.lab.2.2.2.1, .int .i64 xt.lab.2.2.2.2.1, .int .i64 xt.lab.2.2.2.2.2, .slice axt_0 xt.kids.length cxt_0] 48)] g W ∧ tmyj38 N xt K) ?_ ?_)))
          ·
           refine Ok.region (Ok.bat 1 [2] [(77, pv bs2 2)] ?_)
           refine Ok.op rfl (OpOk.step (v := .int .u8 xt.lab.2.2.1) (Yields.load 0 rfl rfl Tryz.underlying5 rfl (by kernel_rfl)) rfl rfl (Ok.bat 2 [2] [(80, .bool (xt.lab.2.2.1 == 0))] ?_))
           refine Ok.boolAt 80 ((xt.lab.2.2.1 == 0)) rfl (fun hc21 => ?_) (fun hc21 => ?_)
           ·replace hF := hF.1 hc21
            refine Ok.bat 1 [2] [(80, .bool true), (81, pv bs2 3)] ?_
            refine Ok.opYes (j := 3) (d := 80) (want := true) (b := true) rfl (by kernel_rfl) (by kernel_rfl) rfl (OpOk.step (v := sv xt.lab.2.2.2.1) (Yields.load 0 rfl rfl Tryz.underlying9 rfl (by kernel_rfl)) rfl rfl (Ok.opYes (j := 3) (d := 80) (want := true) (b := true) rfl (by kernel_rfl) (by kernel_rfl) rfl (OpOk.step (v := .bool (!(xt.lab.2.2.2.1 == ([] : Bs)))) (Yields.strCmp (f := .neq) (a := xt.lab.2.2.2.1) (b := ([] : Bs)) (by kernel_rfl) (by kernel_rfl) rfl) rfl rfl (Ok.bat 2 [2] [(85, .bool (!(xt.lab.2.2.2.1 == ([] : Bs))))] ?_))))
            refine Ok.boolAt 85 (!(xt.lab.2.2.2.1 == ([] : Bs))) rfl (fun hc22 => ?_) (fun hc22 => ?_)
            ·replace hF := hF.1 hc22
             refine Ok.bat 15 [2] [(100, .bool true)] ?_
             refine Ok.nil (Ok.thenN (Ok.reval 100 rfl (show (.bool true : Value) = .bool (tmyV4 xt) from congrArg (Value.bool) ((Eq.trans (mor_t hc22) ((if_t hc21).symm)))) ?_))
             exact fun a W hA hW => ⟨hA.sub (by kernel_rfl), hW, hF⟩
            ·replace hF := hF.2 hc22
             refine Ok.bat 1 [2] [(85, .bool false), (86, pv bs2 2)] ?_
             refine Ok.opYes (j := 8) (d := 85) (want := false) (b := false) rfl (by kernel_rfl) (by kernel_rfl) rfl (OpOk.step (v := .int .u8 xt.lab.2.2.1) (Yields.load 0 rfl rfl Tryz.underlying5 rfl (by kernel_rfl)) rfl rfl (Ok.bat 2 [2, 85] [(89, .bool (xt.lab.2.2.1 != 0))] ?_))
             refine Ok.boolAt 89 ((xt.lab.2.2.1 != 0)) rfl (fun hc23 => ?_) (fun hc23 => ?_)
             ·replace hF := hF.1 hc23
              refine Ok.bat 1 [2, 85] [(89, .bool true), (90, pv bs2 0)] ?_
              refine Ok.opYes (j := 12) (d := 89) (want := true) (b := true) rfl (by kernel_rfl) (by kernel_rfl) rfl (OpOk.step (v := .int .i64 xt.lab.1) (Yields.load 0 rfl rfl Tryz.underlying3 rfl (by kernel_rfl)) rfl rfl (Ok.bat 2 [2, 85, 89] [(93, .bool (xt.lab.1 != 5))] ?_))
              refine Ok.boolAt 93 ((xt.lab.1 != 5)) rfl (fun hc24 => ?_) (fun hc24 => ?_)
              ·replace hF := hF.1 hc24
               refine Ok.bat 7 [2] [(100, .bool true)] ?_
               refine Ok.nil (Ok.thenN (Ok.reval 100 rfl (show (.bool true : Value) = .bool (tmyV4 xt) from congrArg (Value.bool) ((Eq.trans ((Eq.trans ((Eq.trans (mor_t hc24) (mand_t hc23))) (mor_f hc22))) ((if_t hc21).symm)))) ?_))
               exact fun a W hA hW => ⟨hA.sub (by kernel_rfl), hW, hF⟩
              ·replace hF := hF.2 hc24
               refine Ok.bat 1 [2, 85, 89] [(93, .bool false), (94, pv bs2 2)] ?_
               refine Ok.opYes (j := 16) (d := 93) (want := false) (b := false) rfl (by kernel_rfl) (by kernel_rfl) rfl (OpOk.step (v := .int .u8 xt.lab.2.2.1) (Yields.load 0 rfl rfl Tryz.underlying5 rfl (by kernel_rfl)) rfl rfl ?_)
               obtain ⟨hp25, hF⟩ := hF
               refine Ok.opYes (j := 16) (d := 93) (want := false) (b := false) rfl (by kernel_rfl) (by kernel_rfl) rfl (OpOk.callG (v := .bool (hbyS ([61, 126, 124, 94, 36, 42] : Bs) xt.lab.2.2.1)) enr (fun W hW => hby_c ([61, 126, 124, 94, 36, 42] : Bs) xt.lab.2.2.1 hp25) rfl ?_)
               refine Ok.bat 4 [2] [(100, .bool (!(hbyS ([61, 126, 124, 94, 36, 42] : Bs) xt.lab.2.2.1)))] ?_
               refine Ok.nil (Ok.thenN (Ok.reval 100 rfl (show (.bool (!(hbyS ([61, 126, 124, 94, 36, 42] : Bs) xt.lab.2.2.1)) : Value) = .bool (tmyV4 xt) from congrArg (Value.bool) ((Eq.trans ((Eq.trans ((Eq.trans (mor_f hc24) (mand_t hc23))) (mor_f hc22))) ((if_t hc21).symm)))) ?_))
               exact fun a W hA hW => ⟨hA.sub (by kernel_rfl), hW, hF⟩
             ·replace hF := hF.2 hc23
              refine Ok.bat 11 [2] [(100, .bool false)] ?_
              refine Ok.nil (Ok.thenN (Ok.reval 100 rfl (show (.bool false : Value) = .bool (tmyV4 xt) from congrArg (Value.bool) ((Eq.trans ((Eq.trans (mand_f hc23) (mor_f hc22))) ((if_t hc21).symm)))) ?_))
              exact fun a W hA hW => ⟨hA.sub (by kernel_rfl), hW, hF⟩
           ·replace hF := hF.2 hc21
            refine Ok.bat 6 [2] [(85, .bool false), (86, pv bs2 2)] ?_
            refine Ok.opYes (j := 8) (d := 85) (want := false) (b := false) rfl (by kernel_rfl) (by kernel_rfl) rfl (OpOk.step (v := .int .u8 xt.lab.2.2.1) (Yields.load 0 rfl rfl Tryz.underlying5 rfl (by kernel_rfl)) rfl rfl (Ok.bat 2 [2, 85] [(89, .bool (xt.lab.2.2.1 != 0))] ?_))
            refine Ok.boolAt 89 ((xt.lab.2.2.1 != 0)) rfl (fun hc26 => ?_) (fun hc26 => ?_)
            ·replace hF := hF.1 hc26
             refine Ok.bat 1 [2, 85] [(89, .bool true), (90, pv bs2 0)] ?_
             refine Ok.opYes (j := 12) (d := 89) (want := true) (b := true) rfl (by kernel_rfl) (by kernel_rfl) rfl (OpOk.step (v := .int .i64 xt.lab.1) (Yields.load 0 rfl rfl Tryz.underlying3 rfl (by kernel_rfl)) rfl rfl (Ok.bat 2 [2, 85, 89] [(93, .bool (xt.lab.1 != 5))] ?_))
             refine Ok.boolAt 93 ((xt.lab.1 != 5)) rfl (fun hc27 => ?_) (fun hc27 => ?_)
             ·replace hF := hF.1 hc27
              refine Ok.bat 7 [2] [(100, .bool true)] ?_
              refine Ok.nil (Ok.thenN (Ok.reval 100 rfl (show (.bool true : Value) = .bool (tmyV4 xt) from congrArg (Value.bool) ((Eq.trans ((Eq.trans (mor_t hc27) (mand_t hc26))) ((if_f hc21).symm)))) ?_))
              exact fun a W hA hW => ⟨hA.sub (by kernel_rfl), hW, hF⟩
             ·replace hF := hF.2 hc27
              refine Ok.bat 1 [2, 85, 89] [(93, .bool false), (94, pv bs2 2)] ?_
              refine Ok.opYes (j := 16) (d := 93) (want := false) (b := false) rfl (by kernel_rfl) (by kernel_rfl) rfl (OpOk.step (v := .int .u8 xt.lab.2.2.1) (Yields.load 0 rfl rfl Tryz.underlying5 rfl (by kernel_rfl)) rfl rfl ?_)
              obtain ⟨hp28, hF⟩ := hF
              refine Ok.opYes (j := 16) (d := 93) (want := false) (b := false) rfl (by kernel_rfl) (by kernel_rfl) rfl (OpOk.callG (v := .bool (hbyS ([61, 126, 124, 94, 36, 42] : Bs) xt.lab.2.2.1)) enr (fun W hW => hby_c ([61, 126, 124, 94, 36, 42] : Bs) xt.lab.2.2.1 hp28) rfl ?_)
              refine Ok.bat 4 [2] [(100, .bool (!(hbyS ([61, 126, 124, 94, 36, 42] : Bs) xt.lab.2.2.1)))] ?_
              refine Ok.nil (Ok.thenN (Ok.reval 100 rfl (show (.bool (!(hbyS ([61, 126, 124, 94, 36, 42] : Bs) xt.lab.2.2.1)) : Value) = .bool (tmyV4 xt) from congrArg (Value.bool) ((Eq.trans ((Eq.trans (mor_f hc27) (mand_t hc26))) ((if_f hc21).symm)))) ?_))
              exact fun a W hA hW => ⟨hA.sub (by kernel_rfl), hW, hF⟩
            ·replace hF := hF.2 hc26
             refine Ok.bat 11 [2] [(100, .bool false)] ?_
             refine Ok.nil (Ok.thenN (Ok.reval 100 rfl (show (.bool false : Value) = .bool (tmyV4 xt) from congrArg (Value.bool) ((Eq.trans (mand_f hc26) ((if_f hc21).symm)))) ?_))
             exact fun a W hA hW => ⟨hA.sub (by kernel_rfl), hW, hF⟩
          ·
           clear hF
           rintro a W ⟨hA, hW, hF⟩
           refine (?_ : Ok _ _ _ _ _ _) a W hA hW
           clear hA hW
           refine Ok.cond (b := (tmyV4 xt)) rfl (fun hc6 => ?_) (fun hc6 => ?_)
           ·replace hF := hF.1 hc6
            refine Ok.seq (Ok.region (Ok.batch 1 [(4, .bool false)] (by kernel_rfl) (Ok.nil (Ok.thenN (Ok.ret (Ok.thenR ?_))))))
            exact Ok.resP (vs := [.bool false]) [] [] (by decide) rfl (.inl rfl) rfl (.cons (.tmp rfl) .nil) (Gext.refl w0 g) ⟨false, rfl, rfl, hF⟩
           ·replace hF := hF.2 hc6
            refine Ok.skip (Ok.thenN (Ok.cut (fun a W => StA 156 [(2, pv bs2 0), (6, .bool ((xt.lab.1 == 8) || (xt.lab.1 == 9)))] a ∧ StW w0 [.blk bs2 (.cells #[.int .i64 xt.lab.1, sv xt.lab.2.1, .int .u8 xt.lab.2.2.1, sv xt.lab.2.2.2.1, .int .i64 xt.lab.2.2.2.2.1, .int .i64 xt.lab.2.2.2.2.2, .slice axt_0 xt.kids.length cxt_0] 48)] g W ∧ tmyj45 N xt K) ?_ ?_))
            ·
             refine Ok.region (Ok.bat 1 [2] [(101, pv bs2 0)] ?_)
             refine Ok.op rfl (OpOk.step (v := .int .i64 xt.lab.1) (Yields.load 0 rfl rfl Tryz.underlying3 rfl (by kernel_rfl)) rfl rfl (Ok.bat 2 [2] [(104, .bool (xt.lab.1 == 8))] ?_))
             refine Ok.boolAt 104 ((xt.lab.1 == 8)) rfl (fun hc20 => ?_) (fun hc20 => ?_)
             ·replace hF := hF.1 hc20
              refine Ok.bat 5 [2] [(6, .bool true)] ?_
              refine Ok.nil (Ok.thenN (Ok.reval 6 rfl (show (.bool true : Value) = .bool ((xt.lab.1 == 8) || (xt.lab.1 == 9)) from congrArg (Value.bool) (mor_t hc20)) ?_))
              exact fun a W hA hW => ⟨hA.sub (by kernel_rfl), hW, hF⟩
             ·replace hF := hF.2 hc20
              refine Ok.bat 1 [2] [(104, .bool false), (105, pv bs2 0)] ?_
              refine Ok.opYes (j := 3) (d := 104) (want := false) (b := false) rfl (by kernel_rfl) (by kernel_rfl) rfl (OpOk.step (v := .int .i64 xt.lab.1) (Yields.load 0 rfl rfl Tryz.underlying3 rfl (by kernel_rfl)) rfl rfl (Ok.bat 3 [2] [(6, .bool (xt.lab.1 == 9))] ?_))
              refine Ok.nil (Ok.thenN (Ok.reval 6 rfl (show (.bool (xt.lab.1 == 9) : Value) = .bool ((xt.lab.1 == 8) || (xt.lab.1 == 9)) from congrArg (Value.bool) (mor_f hc20)) ?_))
              exact fun a W hA hW => ⟨hA.sub (by kernel_rfl), hW, hF⟩
            ·
             clear hF
             rintro a W ⟨hA, hW, hF⟩
             refine (?_ : Ok _ _ _ _ _ _) a W hA hW
             clear hA hW
             refine Ok.seq (Ok.cut (fun a W => StA 156 [(2, pv bs2 0), (140, .bool (tmyV5 xt))] a ∧ StW w0 [.blk bs2 (.cells #[.int .i64 xt.lab.1, sv xt.lab.2.1, .int .u8 xt.lab.2.2.1, sv xt.lab.2.2.2.1, .int .i64 xt.lab.2.2.2.2.1, .int .i64 xt.lab.2.2.2.2.2, .slice axt_0 xt.kids.length cxt_0] 48)] g W ∧ tmyj48 N xt K) ?_ ?_)
             ·
              refine Ok.region (Ok.bat 3 [2] [(111, .bool (!((xt.lab.1 == 8) || (xt.lab.1 == 9))))] ?_)
              refine Ok.boolAt 111 (!((xt.lab.1 == 8) || (xt.lab.1 == 9))) rfl (fun hc11 => ?_) (fun hc11 => ?_)
              ·replace hF := hF.1 hc11
               refine Ok.bat 1 [2] [(111, .bool true), (112, pv bs2 4)] ?_
               refine Ok.opYes (j := 2) (d := 111) (want := true) (b := true) rfl (by kernel_rfl) (by kernel_rfl) rfl (OpOk.step (v := .int .i64 xt.lab.2.2.2.2.1) (Yields.load 0 rfl rfl Tryz.underlying3 rfl (by kernel_rfl)) rfl rfl (Ok.bat 2 [2, 111] [(115, .bool (xt.lab.2.2.2.2.1 != 0))] ?_))
               refine Ok.boolAt 115 ((xt.lab.2.2.2.2.1 != 0)) rfl (fun hc12 => ?_) (fun hc12 => ?_)
               ·replace hF := hF.1 hc12
                refine Ok.bat 25 [2] [(140, .bool true)] ?_
                refine Ok.nil (Ok.thenN (Ok.reval 140 rfl (show (.bool true : Value) = .bool (tmyV5 xt) from congrArg (Value.bool) ((Eq.trans (mor_t hc12) ((if_t hc11).symm)))) ?_))
                exact fun a W hA hW => ⟨hA.sub (by kernel_rfl), hW, hF⟩
               ·replace hF := hF.2 hc12
                refine Ok.bat 1 [2, 111] [(115, .bool false), (116, pv bs2 5)] ?_
                refine Ok.opYes (j := 6) (d := 115) (want := false) (b := false) rfl (by kernel_rfl) (by kernel_rfl) rfl (OpOk.step (v := .int .i64 xt.lab.2.2.2.2.2) (Yields.load 0 rfl rfl Tryz.underlying3 rfl (by kernel_rfl)) rfl rfl (Ok.bat 4 [2] [(121, .bool (xt.lab.2.2.2.2.2 != 0))] ?_))
                refine Ok.boolAt 121 ((xt.lab.2.2.2.2.2 != 0)) rfl (fun hc13 => ?_) (fun hc13 => ?_)
                ·replace hF := hF.1 hc13
                 refine Ok.bat 19 [2] [(140, .bool true)] ?_
                 refine Ok.nil (Ok.thenN (Ok.reval 140 rfl (show (.bool true : Value) = .bool (tmyV5 xt) from congrArg (Value.bool) ((Eq.trans ((Eq.trans (mor_t hc13) (mor_f hc12))) ((if_t hc11).symm)))) ?_))
                 exact fun a W hA hW => ⟨hA.sub (by kernel_rfl), hW, hF⟩
                ·replace hF := hF.2 hc13
                 refine Ok.bat 1 [2] [(121, .bool false), (122, pv bs2 4)] ?_
                 refine Ok.opYes (j := 12) (d := 121) (want := false) (b := false) rfl (by kernel_rfl) (by kernel_rfl) rfl (OpOk.step (v := .int .i64 xt.lab.2.2.2.2.1) (Yields.load 0 rfl rfl Tryz.underlying3 rfl (by kernel_rfl)) rfl rfl (Ok.bat 3 [2] [(126, .bool (decide (xt.lab.2.2.2.2.1 < (-1000))))] ?_))
                 refine Ok.boolAt 126 (decide (xt.lab.2.2.2.2.1 < (-1000))) rfl (fun hc14 => ?_) (fun hc14 => ?_)
                 ·replace hF := hF.1 hc14
                  refine Ok.bat 14 [2] [(140, .bool true)] ?_
                  refine Ok.nil (Ok.thenN (Ok.reval 140 rfl (show (.bool true : Value) = .bool (tmyV5 xt) from congrArg (Value.bool) ((Eq.trans ((Eq.trans ((Eq.trans (mor_t hc14) (mor_f hc13))) (mor_f hc12))) ((if_t hc11).symm)))) ?_))
                  exact fun a W hA hW => ⟨hA.sub (by kernel_rfl), hW, hF⟩
                 ·replace hF := hF.2 hc14
                  refine Ok.bat 1 [2] [(126, .bool false), (127, pv bs2 4)] ?_
                  refine Ok.opYes (j := 17) (d := 126) (want := false) (b := false) rfl (by kernel_rfl) (by kernel_rfl) rfl (OpOk.step (v := .int .i64 xt.lab.2.2.2.2.1) (Yields.load 0 rfl rfl Tryz.underlying3 rfl (by kernel_rfl)) rfl rfl (Ok.bat 3 [2] [(131, .bool (decide (xt.lab.2.2.2.2.1 > 1000)))] ?_))
                  refine Ok.boolAt 131 (decide (xt.lab.2.2.2.2.1 > 1000)) rfl (fun hc15 => ?_) (fun hc15 => ?_)
                  ·replace hF := hF.1 hc15
                   refine Ok.bat 9 [2] [(140, .bool true)] ?_
                   refine Ok.nil (Ok.thenN (Ok.reval 140 rfl (show (.bool true : Value) = .bool (tmyV5 xt) from congrArg (Value.bool) ((Eq.trans ((Eq.trans ((Eq.trans ((Eq.trans (mor_t hc15) (mor_f hc14))) (mor_f hc13))) (mor_f hc12))) ((if_t hc11).symm)))) ?_))
                   exact fun a W hA hW => ⟨hA.sub (by kernel_rfl), hW, hF⟩
                  ·replace hF := hF.2 hc15
                   refine Ok.bat 1 [2] [(131, .bool false), (132, pv bs2 5)] ?_
                   refine Ok.opYes (j := 22) (d := 131) (want := false) (b := false) rfl (by kernel_rfl) (by kernel_rfl) rfl (OpOk.step (v := .int .i64 xt.lab.2.2.2.2.2) (Yields.load 0 rfl rfl Tryz.underlying3 rfl (by kernel_rfl)) rfl rfl (Ok.bat 3 [2] [(136, .bool (decide (xt.lab.2.2.2.2.2 < (-1000))))] ?_))
                   refine Ok.boolAt 136 (decide (xt.lab.2.2.2.2.2 < (-1000))) rfl (fun hc16 => ?_) (fun hc16 => ?_)
                   ·replace hF := hF.1 hc16
                    refine Ok.bat 4 [2] [(140, .bool true)] ?_
                    refine Ok.nil (Ok.thenN (Ok.reval 140 rfl (show (.bool true : Value) = .bool (tmyV5 xt) from congrArg (Value.bool) ((Eq.trans ((Eq.trans ((Eq.trans ((Eq.trans ((Eq.trans (mor_t hc16) (mor_f hc15))) (mor_f hc14))) (mor_f hc13))) (mor_f hc12))) ((if_t hc11).symm)))) ?_))
                    exact fun a W hA hW => ⟨hA.sub (by kernel_rfl), hW, hF⟩
                   ·replace hF := hF.2 hc16
                    refine Ok.bat 1 [2] [(136, .bool false), (137, pv bs2 5)] ?_
                    refine Ok.opYes (j := 27) (d := 136) (want := false) (b := false) rfl (by kernel_rfl) (by kernel_rfl) rfl (OpOk.step (v := .int .i64 xt.lab.2.2.2.2.2) (Yields.load 0 rfl rfl Tryz.underlying3 rfl (by kernel_rfl)) rfl rfl (Ok.bat 2 [2] [(140, .bool (decide (xt.lab.2.2.2.2.2 > 1000)))] ?_))
                    refine Ok.nil (Ok.thenN (Ok.reval 140 rfl (show (.bool (decide (xt.lab.2.2.2.2.2 > 1000)) : Value) = .bool (tmyV5 xt) from congrArg (Value.bool) ((Eq.trans ((Eq.trans ((Eq.trans ((Eq.trans ((Eq.trans (mor_f hc16) (mor_f hc15))) (mor_f hc14))) (mor_f hc13))) (mor_f hc12))) ((if_t hc11).symm)))) ?_))
                    exact fun a W hA hW => ⟨hA.sub (by kernel_rfl), hW, hF⟩
              ·replace hF := hF.2 hc11
               refine Ok.bat 11 [2] [(121, .bool false), (122, pv bs2 4)] ?_
               refine Ok.opYes (j := 12) (d := 121) (want := false) (b := false) rfl (by kernel_rfl) (by kernel_rfl) rfl (OpOk.step (v := .int .i64 xt.lab.2.2.2.2.1) (Yields.load 0 rfl rfl Tryz.underlying3 rfl (by kernel_rfl)) rfl rfl (Ok.bat 3 [2] [(126, .bool (decide (xt.lab.2.2.2.2.1 < (-1000))))] ?_))
               refine Ok.boolAt 126 (decide (xt.lab.2.2.2.2.1 < (-1000))) rfl (fun hc17 => ?_) (fun hc17 => ?_)
               ·replace hF := hF.1 hc17
                refine Ok.bat 14 [2] [(140, .bool true)] ?_
                refine Ok.nil (Ok.thenN (Ok.reval 140 rfl (show (.bool true : Value) = .bool (tmyV5 xt) from congrArg (Value.bool) ((Eq.trans (mor_t hc17) ((if_f hc11).symm)))) ?_))
                exact fun a W hA hW => ⟨hA.sub (by kernel_rfl), hW, hF⟩
               ·replace hF := hF.2 hc17
                refine Ok.bat 1 [2] [(126, .bool false), (127, pv bs2 4)] ?_
                refine Ok.opYes (j := 17) (d := 126) (want := false) (b := false) rfl (by kernel_rfl) (by kernel_rfl) rfl (OpOk.step (v := .int .i64 xt.lab.2.2.2.2.1) (Yields.load 0 rfl rfl Tryz.underlying3 rfl (by kernel_rfl)) rfl rfl (Ok.bat 3 [2] [(131, .bool (decide (xt.lab.2.2.2.2.1 > 1000)))] ?_))
                refine Ok.boolAt 131 (decide (xt.lab.2.2.2.2.1 > 1000)) rfl (fun hc18 => ?_) (fun hc18 => ?_)
                ·replace hF := hF.1 hc18
                 refine Ok.bat 9 [2] [(140, .bool true)] ?_
                 refine Ok.nil (Ok.thenN (Ok.reval 140 rfl (show (.bool true : Value) = .bool (tmyV5 xt) from congrArg (Value.bool) ((Eq.trans ((Eq.trans (mor_t hc18) (mor_f hc17))) ((if_f hc11).symm)))) ?_))
                 exact fun a W hA hW => ⟨hA.sub (by kernel_rfl), hW, hF⟩
                ·replace hF := hF.2 hc18
                 refine Ok.bat 1 [2] [(131, .bool false), (132, pv bs2 5)] ?_
                 refine Ok.opYes (j := 22) (d := 131) (want := false) (b := false) rfl (by kernel_rfl) (by kernel_rfl) rfl (OpOk.step (v := .int .i64 xt.lab.2.2.2.2.2) (Yields.load 0 rfl rfl Tryz.underlying3 rfl (by kernel_rfl)) rfl rfl (Ok.bat 3 [2] [(136, .bool (decide (xt.lab.2.2.2.2.2 < (-1000))))] ?_))
                 refine Ok.boolAt 136 (decide (xt.lab.2.2.2.2.2 < (-1000))) rfl (fun hc19 => ?_) (fun hc19 => ?_)
                 ·replace hF := hF.1 hc19
                  refine Ok.bat 4 [2] [(140, .bool true)] ?_
                  refine Ok.nil (Ok.thenN (Ok.reval 140 rfl (show (.bool true : Value) = .bool (tmyV5 xt) from congrArg (Value.bool) ((Eq.trans ((Eq.trans ((Eq.trans (mor_t hc19) (mor_f hc18))) (mor_f hc17))) ((if_f hc11).symm)))) ?_))
                  exact fun a W hA hW => ⟨hA.sub (by kernel_rfl), hW, hF⟩
                 ·replace hF := hF.2 hc19
                  refine Ok.bat 1 [2] [(136, .bool false), (137, pv bs2 5)] ?_
                  refine Ok.opYes (j := 27) (d := 136) (want := false) (b := false) rfl (by kernel_rfl) (by kernel_rfl) rfl (OpOk.step (v := .int .i64 xt.lab.2.2.2.2.2) (Yields.load 0 rfl rfl Tryz.underlying3 rfl (by kernel_rfl)) rfl rfl (Ok.bat 2 [2] [(140, .bool (decide (xt.lab.2.2.2.2.2 > 1000)))] ?_))
                  refine Ok.nil (Ok.thenN (Ok.reval 140 rfl (show (.bool (decide (xt.lab.2.2.2.2.2 > 1000)) : Value) = .bool (tmyV5 xt) from congrArg (Value.bool) ((Eq.trans ((Eq.trans ((Eq.trans (mor_f hc19) (mor_f hc18))) (mor_f hc17))) ((if_f hc11).symm)))) ?_))
                  exact fun a W hA hW => ⟨hA.sub (by kernel_rfl), hW, hF⟩
             ·
              clear hF
              rintro a W ⟨hA, hW, hF⟩
              refine (?_ : Ok _ _ _ _ _ _) a W hA hW
              clear hA hW
              refine Ok.cond (b := (tmyV5 xt)) rfl (fun hc7 => ?_) (fun hc7 => ?_)
              ·replace hF := hF.1 hc7
               refine Ok.seq (Ok.region (Ok.batch 1 [(4, .bool false)] (by kernel_rfl) (Ok.nil (Ok.thenN (Ok.ret (Ok.thenR ?_))))))
               exact Ok.resP (vs := [.bool false]) [] [] (by decide) rfl (.inl rfl) rfl (.cons (.tmp rfl) .nil) (Gext.refl w0 g) ⟨false, rfl, rfl, hF⟩
              ·replace hF := hF.2 hc7
               refine Ok.skip (Ok.thenN (Ok.seq (Ok.cut (fun a W => StA 156 [(2, pv bs2 0), (148, .bool ((xt.lab.1 == 10) || (xt.lab.1 == 11)))] a ∧ StW w0 [.blk bs2 (.cells #[.int .i64 xt.lab.1, sv xt.lab.2.1, .int .u8 xt.lab.2.2.1, sv xt.lab.2.2.2.1, .int .i64 xt.lab.2.2.2.2.1, .int .i64 xt.lab.2.2.2.2.2, .slice axt_0 xt.kids.length cxt_0] 48)] g W ∧ tmyj56 N xt K) ?_ ?_)))
               ·
                refine Ok.region (Ok.bat 1 [2] [(141, pv bs2 0)] ?_)
                refine Ok.op rfl (OpOk.step (v := .int .i64 xt.lab.1) (Yields.load 0 rfl rfl Tryz.underlying3 rfl (by kernel_rfl)) rfl rfl (Ok.bat 2 [2] [(144, .bool (xt.lab.1 == 10))] ?_))
                refine Ok.boolAt 144 ((xt.lab.1 == 10)) rfl (fun hc10 => ?_) (fun hc10 => ?_)
                ·replace hF := hF.1 hc10
                 refine Ok.bat 4 [2] [(148, .bool true)] ?_
                 refine Ok.nil (Ok.thenN (Ok.reval 148 rfl (show (.bool true : Value) = .bool ((xt.lab.1 == 10) || (xt.lab.1 == 11)) from congrArg (Value.bool) (mor_t hc10)) ?_))
                 exact fun a W hA hW => ⟨hA.sub (by kernel_rfl), hW, hF⟩
                ·replace hF := hF.2 hc10
                 refine Ok.bat 1 [2] [(144, .bool false), (145, pv bs2 0)] ?_
                 refine Ok.opYes (j := 3) (d := 144) (want := false) (b := false) rfl (by kernel_rfl) (by kernel_rfl) rfl (OpOk.step (v := .int .i64 xt.lab.1) (Yields.load 0 rfl rfl Tryz.underlying3 rfl (by kernel_rfl)) rfl rfl (Ok.bat 2 [2] [(148, .bool (xt.lab.1 == 11))] ?_))
                 refine Ok.nil (Ok.thenN (Ok.reval 148 rfl (show (.bool (xt.lab.1 == 11) : Value) = .bool ((xt.lab.1 == 10) || (xt.lab.1 == 11)) from congrArg (Value.bool) (mor_f hc10)) ?_))
                 exact fun a W hA hW => ⟨hA.sub (by kernel_rfl), hW, hF⟩
               ·
                clear hF
                rintro a W ⟨hA, hW, hF⟩
                refine (?_ : Ok _ _ _ _ _ _) a W hA hW
                clear hA hW
                refine Ok.cond (b := ((xt.lab.1 == 10) || (xt.lab.1 == 11))) rfl (fun hc8 => ?_) (fun hc8 => ?_)
                ·replace hF := hF.1 hc8
                 refine Ok.seq (Ok.region (Ok.batch 1 [(149, pv bs2 6)] (by kernel_rfl) (Ok.op rfl (OpOk.step (v := .slice axt_0 xt.kids.length cxt_0) (Yields.load 0 rfl rfl Tryz.underlying29 rfl (by kernel_rfl)) rfl rfl ?_))))
                 obtain ⟨hp9, hF⟩ := hF
                 refine Ok.op rfl (OpOk.callG (v := .bool (ptsS xt.kids)) enr (fun W hW => ih_pmy _ xt.kids (hRxt_0.mono hW.sees) (hG0.mono hW.sees) hp9) rfl ?_)
                 refine Ok.batch 1 [(4, .bool (ptsS xt.kids))] (by kernel_rfl) (Ok.nil (Ok.thenN (Ok.ret (Ok.thenR ?_))))
                 exact Ok.resP (vs := [.bool (ptsS xt.kids)]) [] [] (by decide) rfl (.inl rfl) rfl (.cons (.tmp rfl) .nil) (Gext.refl w0 g) ⟨(ptsS xt.kids), rfl, rfl, hF⟩
                ·replace hF := hF.2 hc8
                 refine Ok.skip (Ok.thenN (Ok.seq (Ok.region (Ok.batch 1 [(152, pv bs2 6)] (by kernel_rfl) (Ok.op rfl (OpOk.step (v := .slice axt_0 xt.kids.length cxt_0) (Yields.load 0 rfl rfl Tryz.underlying29 rfl (by kernel_rfl)) rfl rfl (Ok.batch 3 [(4, .bool ((xt.kids.length : Int) == 0))] (by kernel_rfl) (Ok.nil (Ok.thenN (Ok.ret ?_))))))))))
                 exact Ok.resP (vs := [.bool ((xt.kids.length : Int) == 0)]) [] [] (by decide) rfl (.inl rfl) rfl (.cons (.tmp rfl) .nil) (Gext.refl w0 g) ⟨((xt.kids.length : Int) == 0), rfl, rfl, hF⟩
def pmyV0 (e3 : (List (List (Tst (Int × Bs × Int × Bs × Int × Int)))) × List (Int)) : Bool :=
 (((e3.1.length : Int) == 0) || ((e3.2.length : Int) != (w6 ((e3.1.length : Int) - 1))))
def pmyV3 (e3 : (List (List (Tst (Int × Bs × Int × Bs × Int × Int)))) × List (Int)) (x5l29 : Int) : Bool :=
 ((((e3.1.getD (Int.toNat x5l29) default).length : Int) == 0) || ((decide (x5l29 > 0)) && (!(hbyS ([32, 62, 43, 126] : Bs) (e3.2.getD (Int.toNat (w6 (x5l29 - 1))) default)))))
def pmyl49b (N : Nat) (K : Bool → Prop) (e3 : (List (List (Tst (Int × Bs × Int × Bs × Int × Int)))) × List (Int)) (x5l29 : Int) (C29 : Int → Prop) (x6l49 : Int) (C49 : Int → Prop) : Prop :=
 (0 : Int) ≤ x5l29 ∧ Int.toNat x5l29 < e3.1.length ∧ ((decide (x6l49 < ((e3.1.getD (Int.toNat x5l29) default).length : Int))) = true → (0 : Int) ≤ x6l49 ∧ Int.toNat x6l49 < (e3.1.getD (Int.toNat x5l29) default).length ∧ tmyP N ((e3.1.getD (Int.toNat x5l29) default).getD (Int.toNat x6l49) default) x6l49 ∧ ((!(tstS ((e3.1.getD (Int.toNat x5l29) default).getD (Int.toNat x6l49) default) x6l49)) = true → K false) ∧ ((!(tstS ((e3.1.getD (Int.toNat x5l29) default).getD (Int.toNat x6l49) default) x6l49)) = false → C49 (w6 (x6l49 + 1)))) ∧ ((decide (x6l49 < ((e3.1.getD (Int.toNat x5l29) default).length : Int))) = false → C29 (w6 (x5l29 + 1)))
def pmyl49 (N : Nat) (K : Bool → Prop) (e3 : (List (List (Tst (Int × Bs × Int × Bs × Int × Int)))) × List (Int)) (x5l29 : Int) (C29 : Int → Prop) : Nat → Int → Prop
 | 0, _ => False
 | k + 1, x6l49 => pmyl49b N K e3 x5l29 C29 x6l49 (pmyl49 N K e3 x5l29 C29 k)
def pmyj39 (N : Nat) (K : Bool → Prop) (e3 : (List (List (Tst (Int × Bs × Int × Bs × Int × Int)))) × List (Int)) (x5l29 : Int) (C29 : Int → Prop) : Prop :=
 (((pmyV3 e3 x5l29)) = true → K false) ∧ (((pmyV3 e3 x5l29)) = false → ∃ k, pmyl49 N K e3 x5l29 C29 k 0)
def pmyl29b (N : Nat) (K : Bool → Prop) (e3 : (List (List (Tst (Int × Bs × Int × Bs × Int × Int)))) × List (Int)) (x3l7 : Int) (C7 : Int → Prop) (x5l29 : Int) (C29 : Int → Prop) : Prop :=
 ((decide (x5l29 < (e3.1.length : Int))) = true → (0 : Int) ≤ x5l29 ∧ Int.toNat x5l29 < e3.1.length ∧ (((((e3.1.getD (Int.toNat x5l29) default).length : Int) == 0)) = true → pmyj39 N K e3 x5l29 C29) ∧ (((((e3.1.getD (Int.toNat x5l29) default).length : Int) == 0)) = false → ((decide (x5l29 > 0)) = true → (0 : Int) ≤ (w6 (x5l29 - 1)) ∧ Int.toNat (w6 (x5l29 - 1)) < e3.2.length ∧ hbyP ([32, 62, 43, 126] : Bs) (e3.2.getD (Int.toNat (w6 (x5l29 - 1))) default) ∧ pmyj39 N K e3 x5l29 C29) ∧ ((decide (x5l29 > 0)) = false → pmyj39 N K e3 x5l29 C29))) ∧ ((decide (x5l29 < (e3.1.length : Int))) = false → C7 (w6 (x3l7 + 1)))
def pmyl29 (N : Nat) (K : Bool → Prop) (e3 : (List (List (Tst (Int × Bs × Int × Bs × Int × Int)))) × List (Int)) (x3l7 : Int) (C7 : Int → Prop) : Nat → Int → Prop
 | 0, _ => False
 | k + 1, x5l29 => pmyl29b N K e3 x3l7 C7 x5l29 (pmyl29 N K e3 x3l7 C7 k)
def pmyj19 (N : Nat) (K : Bool → Prop) (e3 : (List (List (Tst (Int × Bs × Int × Bs × Int × Int)))) × List (Int)) (x3l7 : Int) (C7 : Int → Prop) : Prop :=
 (((pmyV0 e3)) = true → K false) ∧ (((pmyV0 e3)) = false → ∃ k, pmyl29 N K e3 x3l7 C7 k 0)
def pmyl7b (N : Nat) (xl : List ((List (List (Tst (Int × Bs × Int × Bs × Int × Int)))) × List (Int))) (K : Bool → Prop) (x3l7 : Int) (C7 : Int → Prop) : Prop :=
 ((decide (x3l7 < (xl.length : Int))) = true → (0 : Int) ≤ x3l7 ∧ Int.toNat x3l7 < xl.length ∧ (((((xl.getD (Int.toNat x3l7) default).1.length : Int) == 0)) = true → pmyj19 N K (xl.getD (Int.toNat x3l7) default) x3l7 C7) ∧ (((((xl.getD (Int.toNat x3l7) default).1.length : Int) == 0)) = false → pmyj19 N K (xl.getD (Int.toNat x3l7) default) x3l7 C7)) ∧ ((decide (x3l7 < (xl.length : Int))) = false → K (decide ((xl.length : Int) > 0)))
def pmyl7 (N : Nat) (xl : List ((List (List (Tst (Int × Bs × Int × Bs × Int × Int)))) × List (Int))) (K : Bool → Prop) : Nat → Int → Prop
 | 0, _ => False
 | k + 1, x3l7 => pmyl7b N xl K x3l7 (pmyl7 N xl K k)
def pmyF (N : Nat) (xl : List ((List (List (Tst (Int × Bs × Int × Bs × Int × Int)))) × List (Int))) (K : Bool → Prop) : Prop :=
 ∃ k, pmyl7 N xl K k 0
theorem pmy_ok {g : Ghost} (N : Nat) (ih_tmy : tmy_C N) (ih_pmy : pmy_C N) {axl_0 : Option Addr} {cxl_0 : Nat} (xl : List ((List (List (Tst (Int × Bs × Int × Bs × Int × Int)))) × List (Int))) (hRxl_0 : Rep g (.slice (.pair (.slice (.slice (.tst (.pair (.int .i64) (.pair (.str) (.pair (.int .u8) (.pair (.str) (.pair (.int .i64) (.int .i64))))))))) (.slice (.int .u8)))) [.slice axl_0 xl.length cxl_0] xl) (hG0 : SomeInt g 0) (K : Bool → Prop)
  (hF : pmyF N xl K) : CallsH Tryz.prog 18 #[.slice axl_0 xl.length cxl_0] g [] (fun g' H' v => ∃ (r0 : Bool), v = .bool r0 ∧ H' = [] ∧ K r0) := by
 refine CallsH.enter 83 [(0, .slice axl_0 xl.length cxl_0)] Tryz.func18 rfl (by kernel_rfl) (by kernel_rfl) (by kernel_rfl) fun w0 => ?_
 refine Ok.seq (Ok.region (Ok.batch 1 [(0, .slice axl_0 xl.length cxl_0)] (by kernel_rfl) (Ok.nil (Ok.thenN (Ok.seq (Ok.seq (Ok.region (Ok.bat 1 [0] [(3, .int .i64 0)] ?_))))))))
 refine Ok.nil (Ok.thenN (Ok.block ?_))
 obtain ⟨k, hF⟩ := hF
 refine Ok.loop (fun k a W => ∃ (x3l7 : Int), StA 83 [(0, .slice axl_0 xl.length cxl_0), (3, .int .i64 x3l7)] a ∧ StW w0 [] g W ∧ pmyl7 N xl K k x3l7) k ?_ ?_
 ·
  exact fun a W hA hW => ⟨0, hA.sub (by kernel_rfl), hW, hF⟩
 ·
  clear hF
  rintro k7 a W ⟨x3l7, hA, hW, hF⟩
  cases k7 with
  | zero => exact (hF : False).elim
  | succ k7 =>
   refine (?_ : Ok _ _ _ _ _ _) a W hA hW
   clear hA hW
   refine Ok.seq (Ok.seq (Ok.region (Ok.bat 4 [0, 3] [(10, .bool (decide (x3l7 < (xl.length : Int))))] ?_)))
   refine Ok.nil (Ok.thenN (Ok.cond (b := decide (x3l7 < (xl.length : Int))) rfl (fun hc1 => ?_) (fun hc1 => ?_)))
   ·replace hF := hF.1 hc1
    refine Ok.skip (Ok.thenN (Ok.seq (Ok.block (Ok.seq (Ok.region (Ok.bat 2 [0, 3] [(13, .slice axl_0 xl.length cxl_0), (14, .int .i64 x3l7)] ?_))))))
    obtain ⟨h03, h13, hF⟩ := hF
    have he3 := get_of (l := xl) (default : (List (List (Tst (Int × Bs × Int × Bs × Int × Int)))) × List (Int)) h13
    generalize hg3 : (xl.getD (Int.toNat x3l7) default) = e3 at he3 hF ⊢
    refine Ok.op rfl (OpOk.indexRo (e := .pair (.slice (.slice (.tst (.pair (.int .i64) (.pair (.str) (.pair (.int .u8) (.pair (.str) (.pair (.int .i64) (.int .i64))))))))) (.slice (.int .u8))) (i := x3l7) (el := e3) rfl rfl Tryz.underlying29 (by kernel_rfl) hRxl_0 h03 he3 rfl fun q2 o2 cs2 _ hat2 hr2 => ?_)
    obtain ⟨_, _, rfl, ⟨a2_0, c2_0, rfl, hm2_0, hr2_0⟩, ⟨a2_1, c2_1, rfl, hm2_1, hr2_1⟩⟩ := hr2
    have hR2_0 : Rep g (.slice (.slice (.tst (.pair (.int .i64) (.pair (.str) (.pair (.int .u8) (.pair (.str) (.pair (.int .i64) (.int .i64))))))))) [.slice a2_0 e3.1.length c2_0] e3.1 := ⟨a2_0, c2_0, rfl, hm2_0, hr2_0⟩
    have hR2_1 : Rep g (.slice (.int .u8)) [.slice a2_1 e3.2.length c2_1] e3.2 := ⟨a2_1, c2_1, rfl, hm2_1, hr2_1⟩
    replace hat2 : At g q2 o2 [.slice a2_0 e3.1.length c2_0, .slice a2_1 e3.2.length c2_1] := hat2
    refine Ok.op rfl (OpOk.step (v := .agg #[.slice a2_0 e3.1.length c2_0, .slice a2_1 e3.2.length c2_1]) (Yields.loadAggRo 0 2 #[.slice a2_0 e3.1.length c2_0, .slice a2_1 e3.2.length c2_1] hat2 (by kernel_rfl) Tryz.underlying25 rfl (by kernel_rfl) (by kernel_rfl) (by kernel_rfl)) rfl rfl (Ok.op rfl (OpOk.alloc (z := .agg #[.slice none 0 0, .slice none 0 0]) (cs := #[.slice none 0 0, .slice none 0 0]) (by kernel_rfl) (by kernel_rfl) rfl fun bs4 => ?_)))
    refine Ok.op rfl (OpOk.sto (k := 2) (v := .agg #[.slice a2_0 e3.1.length c2_0, .slice a2_1 e3.2.length c2_1]) 0 #[.slice a2_0 e3.1.length c2_0, .slice a2_1 e3.2.length c2_1] rfl rfl rfl ?_)
    refine Ok.nil (Ok.thenN (Ok.seq (Ok.cut (fun a W => StA 83 [(0, .slice axl_0 xl.length cxl_0), (3, .int .i64 x3l7), (4, pv bs4 0), (30, .bool (pmyV0 e3))] a ∧ StW w0 [.blk bs4 (.cells #[.slice a2_0 e3.1.length c2_0, .slice a2_1 e3.2.length c2_1] 25)] g W ∧ pmyj19 N K e3 x3l7 (pmyl7 N xl K k7)) ?_ ?_)))
    ·
     refine Ok.region (Ok.bat 1 [0, 3] [(4, pv bs4 0), (17, pv bs4 0)] ?_)
     refine Ok.op rfl (OpOk.step (v := .slice a2_0 e3.1.length c2_0) (Yields.load 0 rfl rfl Tryz.underlying22 rfl (by kernel_rfl)) rfl rfl (Ok.bat 3 [0, 3, 4] [(21, .bool ((e3.1.length : Int) == 0))] ?_))
     refine Ok.boolAt 21 (((e3.1.length : Int) == 0)) rfl (fun hc23 => ?_) (fun hc23 => ?_)
     ·replace hF := hF.1 hc23
      refine Ok.bat 9 [0, 3, 4] [(30, .bool true)] ?_
      refine Ok.nil (Ok.thenN (Ok.reval 30 rfl (show (.bool true : Value) = .bool (pmyV0 e3) from congrArg (Value.bool) (mor_t hc23)) ?_))
      exact fun a W hA hW => ⟨hA.sub (by kernel_rfl), hW, hF⟩
     ·replace hF := hF.2 hc23
      refine Ok.bat 1 [0, 3, 4] [(21, .bool false), (22, pv bs4 1)] ?_
      refine Ok.opYes (j := 4) (d := 21) (want := false) (b := false) rfl (by kernel_rfl) (by kernel_rfl) rfl (OpOk.step (v := .slice a2_1 e3.2.length c2_1) (Yields.load 0 rfl rfl Tryz.underlying23 rfl (by kernel_rfl)) rfl rfl (Ok.bat 2 [0, 3, 4, 21] [(24, .int .i64 (e3.2.length : Int)), (25, pv bs4 0)] ?_))
      refine Ok.opYes (j := 4) (d := 21) (want := false) (b := false) rfl (by kernel_rfl) (by kernel_rfl) rfl (OpOk.step (v := .slice a2_0 e3.1.length c2_0) (Yields.load 0 rfl rfl Tryz.underlying22 rfl (by kernel_rfl)) rfl rfl (Ok.bat 4 [0, 3, 4] [(30, .bool ((e3.2.length : Int) != (w6 ((e3.1.length : Int) - 1))))] ?_))
      refine Ok.nil (Ok.thenN (Ok.reval 30 rfl (show (.bool ((e3.2.length : Int) != (w6 ((e3.1.length : Int) - 1))) : Value) = .bool (pmyV0 e3) from congrArg (Value.bool) (mor_f hc23)) ?_))
      exact fun a W hA hW => ⟨hA.sub (by kernel_rfl), hW, hF⟩
    ·
     clear hF
     rintro a W ⟨hA, hW, hF⟩
     refine (?_ : Ok _ _ _ _ _ _) a W hA hW
     clear hA hW
     refine Ok.cond (b := (pmyV0 e3)) rfl (fun hc5 => ?_) (fun hc5 => ?_)
     ·replace hF := hF.1 hc5
      refine Ok.seq (Ok.region (Ok.batch 1 [(2, .bool false)] (by kernel_rfl) (Ok.nil (Ok.thenN (Ok.ret (Ok.thenR (Ok.blockR (Ok.thenR (Ok.thenR (Ok.blockR (Ok.thenR ?_)))))))))))
      exact Ok.resP (vs := [.bool false]) [] [] (by decide) rfl (.inl rfl) rfl (.cons (.tmp rfl) .nil) (Gext.refl w0 g) ⟨false, rfl, rfl, hF⟩
     ·replace hF := hF.2 hc5
      refine Ok.skip (Ok.thenN (Ok.seq (Ok.region (Ok.bat 1 [0, 3, 4] [(5, .int .i64 0)] ?_))))
      refine Ok.nil (Ok.thenN (Ok.block ?_))
      obtain ⟨k, hF⟩ := hF
      refine Ok.loop (fun k a W => ∃ (x5l29 : Int), StA 83 [(0, .slice axl_0 xl.length cxl_0), (3, .int .i64 x3l7), (4, pv bs4 0), (5, .int .i64 x5l29)] a ∧ StW w0 [.blk bs4 (.cells #[.slice a2_0 e3.1.length c2_0, .slice a2_1 e3.2.length c2_1] 25)] g W ∧ pmyl29 N K e3 x3l7 (pmyl7 N xl K k7) k x5l29) k ?_ ?_
      ·
       exact fun a W hA hW => ⟨0, hA.sub (by kernel_rfl), hW, hF⟩
      ·
       clear hF
       rintro k29 a W ⟨x5l29, hA, hW, hF⟩
       cases k29 with
       | zero => exact (hF : False).elim
       | succ k29 =>
        refine (?_ : Ok _ _ _ _ _ _) a W hA hW
        clear hA hW
        refine Ok.seq (Ok.seq (Ok.region (Ok.bat 2 [0, 3, 4, 5] [(31, .int .i64 x5l29), (32, pv bs4 0)] ?_)))
        refine Ok.op rfl (OpOk.step (v := .slice a2_0 e3.1.length c2_0) (Yields.load 0 rfl rfl Tryz.underlying22 rfl (by kernel_rfl)) rfl rfl (Ok.bat 2 [0, 3, 4, 5] [(35, .bool (decide (x5l29 < (e3.1.length : Int))))] ?_))
        refine Ok.nil (Ok.thenN (Ok.cond (b := decide (x5l29 < (e3.1.length : Int))) rfl (fun hc6 => ?_) (fun hc6 => ?_)))
        ·replace hF := hF.1 hc6
         refine Ok.skip (Ok.thenN (Ok.seq (Ok.block (Ok.seq (Ok.cut (fun a W => StA 83 [(0, .slice axl_0 xl.length cxl_0), (3, .int .i64 x3l7), (4, pv bs4 0), (5, .int .i64 x5l29), (58, .bool (pmyV3 e3 x5l29))] a ∧ StW w0 [.blk bs4 (.cells #[.slice a2_0 e3.1.length c2_0, .slice a2_1 e3.2.length c2_1] 25)] g W ∧ pmyj39 N K e3 x5l29 (pmyl29 N K e3 x3l7 (pmyl7 N xl K k7) k29)) ?_ ?_)))))
         ·
          refine Ok.region (Ok.bat 1 [0, 3, 4, 5] [(38, pv bs4 0)] ?_)
          refine Ok.op rfl (OpOk.step (v := .slice a2_0 e3.1.length c2_0) (Yields.load 0 rfl rfl Tryz.underlying22 rfl (by kernel_rfl)) rfl rfl (Ok.bat 1 [0, 3, 4, 5] [(39, .slice a2_0 e3.1.length c2_0), (40, .int .i64 x5l29)] ?_))
          obtain ⟨h017, h117, hF⟩ := hF
          have he17 := get_of (l := e3.1) (default : List (Tst (Int × Bs × Int × Bs × Int × Int))) h117
          generalize hg17 : (e3.1.getD (Int.toNat x5l29) default) = e17 at he17 hF ⊢
          refine Ok.op rfl (OpOk.indexRo (e := .slice (.tst (.pair (.int .i64) (.pair (.str) (.pair (.int .u8) (.pair (.str) (.pair (.int .i64) (.int .i64)))))))) (i := x5l29) (el := e17) rfl rfl Tryz.underlying22 (by kernel_rfl) hR2_0 h017 he17 rfl fun q16 o16 cs16 _ hat16 hr16 => ?_)
          obtain ⟨a16_0, c16_0, rfl, hm16_0, hr16_0⟩ := hr16
          have hR16_0 : Rep g (.slice (.tst (.pair (.int .i64) (.pair (.str) (.pair (.int .u8) (.pair (.str) (.pair (.int .i64) (.int .i64)))))))) [.slice a16_0 e17.length c16_0] e17 := ⟨a16_0, c16_0, rfl, hm16_0, hr16_0⟩
          replace hat16 : At g q16 o16 [.slice a16_0 e17.length c16_0] := hat16
          refine Ok.op rfl (OpOk.step (v := .slice a16_0 e17.length c16_0) (Yields.loadRo 0 hat16 (by kernel_rfl) Tryz.underlying41 rfl (by kernel_rfl)) rfl rfl (Ok.bat 3 [0, 3, 4, 5] [(45, .bool ((e17.length : Int) == 0))] ?_))
          refine Ok.boolAt 45 (((e17.length : Int) == 0)) rfl (fun hc18 => ?_) (fun hc18 => ?_)
          ·replace hF := hF.1 hc18
           refine Ok.bat 13 [0, 3, 4, 5] [(58, .bool true)] ?_
           refine Ok.nil (Ok.thenN ?_)
           subst hg17
           refine Ok.reval 58 rfl (show (.bool true : Value) = .bool (pmyV3 e3 x5l29) from congrArg (Value.bool) (mor_t hc18)) ?_
           exact fun a W hA hW => ⟨hA.sub (by kernel_rfl), hW, hF⟩
          ·replace hF := hF.2 hc18
           refine Ok.bat 3 [0, 3, 4, 5] [(45, .bool false), (48, .bool (decide (x5l29 > 0)))] ?_
           refine Ok.boolAt 48 (decide (x5l29 > 0)) rfl (fun hc19 => ?_) (fun hc19 => ?_)
           ·replace hF := hF.1 hc19
            refine Ok.bat 1 [0, 3, 4, 5, 45] [(48, .bool true), (49, pv bs4 1)] ?_
            refine Ok.opYes (j := 10) (d := 48) (want := true) (b := true) rfl (by kernel_rfl) (by kernel_rfl) rfl (OpOk.step (v := .slice a2_1 e3.2.length c2_1) (Yields.load 0 rfl rfl Tryz.underlying23 rfl (by kernel_rfl)) rfl rfl (Ok.bat 2 [0, 3, 4, 5, 45, 48] [(50, .slice a2_1 e3.2.length c2_1), (52, .int .i64 (w6 (x5l29 - 1)))] ?_))
            obtain ⟨h021, h121, hF⟩ := hF
            have he21 := get_of (l := e3.2) (default : Int) h121
            generalize hg21 : (e3.2.getD (Int.toNat (w6 (x5l29 - 1))) default) = e21 at he21 hF ⊢
            refine Ok.opYes (j := 10) (d := 48) (want := true) (b := true) rfl (by kernel_rfl) (by kernel_rfl) rfl (OpOk.indexRo (e := .int .u8) (i := w6 (x5l29 - 1)) (el := e21) rfl rfl Tryz.underlying23 (by kernel_rfl) hR2_1 h021 he21 rfl fun q20 o20 cs20 _ hat20 hr20 => ?_)
            obtain rfl := hr20
            replace hat20 : At g q20 o20 [.int .u8 e21] := hat20
            refine Ok.opYes (j := 10) (d := 48) (want := true) (b := true) rfl (by kernel_rfl) (by kernel_rfl) rfl (OpOk.step (v := .int .u8 e21) (Yields.loadRo 0 hat20 (by kernel_rfl) Tryz.underlying5 rfl (by kernel_rfl)) rfl rfl ?_)
            obtain ⟨hp22, hF⟩ := hF
            refine Ok.opYes (j := 10) (d := 48) (want := true) (b := true) rfl (by kernel_rfl) (by kernel_rfl) rfl (OpOk.callG (v := .bool (hbyS ([32, 62, 43, 126] : Bs) e21)) enr (fun W hW => hby_c ([32, 62, 43, 126] : Bs) e21 hp22) rfl ?_)
            refine Ok.bat 3 [0, 3, 4, 5] [(58, .bool (!(hbyS ([32, 62, 43, 126] : Bs) e21)))] ?_
            refine Ok.nil (Ok.thenN ?_)
            subst hg21
            subst hg17
            refine Ok.reval 58 rfl (show (.bool (!(hbyS ([32, 62, 43, 126] : Bs) (e3.2.getD (Int.toNat (w6 (x5l29 - 1))) default))) : Value) = .bool (pmyV3 e3 x5l29) from congrArg (Value.bool) ((Eq.trans (mand_t hc19) (mor_f hc18)))) ?_
            exact fun a W hA hW => ⟨hA.sub (by kernel_rfl), hW, hF⟩
           ·replace hF := hF.2 hc19
            refine Ok.bat 10 [0, 3, 4, 5] [(58, .bool false)] ?_
            refine Ok.nil (Ok.thenN ?_)
            subst hg17
            refine Ok.reval 58 rfl (show (.bool false : Value) = .bool (pmyV3 e3 x5l29) from congrArg (Value.bool) ((Eq.trans (mand_f hc19) (mor_f hc18)))) ?_
            exact fun a W hA hW => ⟨hA.sub (by kernel_rfl), hW, hF⟩
         ·
          clear hF
          rintro a W ⟨hA, hW, hF⟩
          refine (?_ : Ok _ _ _ _ _ _) a W hA hW
          clear hA hW
          refine Ok.cond (b := (pmyV3 e3 x5l29)) rfl (fun hc7 => ?_) (fun hc7 => ?_)
          ·replace hF := hF.1 hc7
           refine Ok.seq (Ok.region (Ok.batch 1 [(2, .bool false)] (by kernel_rfl) (Ok.nil (Ok.thenN (Ok.ret (Ok.thenR (Ok.blockR (Ok.thenR (Ok.thenR (Ok.blockR (Ok.blockR (Ok.thenR (Ok.thenR (Ok.blockR (Ok.thenR ?_)))))))))))))))
           exact Ok.resP (vs := [.bool false]) [] [] (by decide) rfl (.inl rfl) rfl (.cons (.tmp rfl) .nil) (Gext.refl w0 g) ⟨false, rfl, rfl, hF⟩
          ·replace hF := hF.2 hc7
           refine Ok.skip (Ok.thenN (Ok.seq (Ok.region (Ok.bat 1 [0, 3, 4, 5] [(6, .int .i64 0)] ?_))))
           refine Ok.nil (Ok.thenN (Ok.block ?_))
           obtain ⟨k, hF⟩ := hF
           refine Ok.loop (fun k a W => ∃ (x6l49 : Int), StA 83 [(0, .slice axl_0 xl.length cxl_0), (3, .int .i64 x3l7), (4, pv bs4 0), (5, .int .i64 x5l29), (6, .int .i64 x6l49)] a ∧ StW w0 [.blk bs4 (.cells #[.slice a2_0 e3.1.length c2_0, .slice a2_1 e3.2.length c2_1] 25)] g W ∧ pmyl49 N K e3 x5l29 (pmyl29 N K e3 x3l7 (pmyl7 N xl K k7) k29) k x6l49) k ?_ ?_
           ·
            exact fun a W hA hW => ⟨0, hA.sub (by kernel_rfl), hW, hF⟩
           ·
            clear hF
            rintro k49 a W ⟨x6l49, hA, hW, hF⟩
            cases k49 with
            | zero => exact (hF : False).elim
            | succ k49 =>
             refine (?_ : Ok _ _ _ _ _ _) a W hA hW
             clear hA hW
             refine Ok.seq (Ok.seq (Ok.region (Ok.bat 2 [0, 3, 4, 5, 6] [(59, .int .i64 x6l49), (60, pv bs4 0)] ?_)))
             refine Ok.op rfl (OpOk.step (v := .slice a2_0 e3.1.length c2_0) (Yields.load 0 rfl rfl Tryz.underlying22 rfl (by kernel_rfl)) rfl rfl (Ok.bat 1 [0, 3, 4, 5, 6, 59] [(61, .slice a2_0 e3.1.length c2_0), (62, .int .i64 x5l29)] ?_))
             obtain ⟨h09, h19, hF⟩ := hF
             have he9 := get_of (l := e3.1) (default : List (Tst (Int × Bs × Int × Bs × Int × Int))) h19
             generalize hg9 : (e3.1.getD (Int.toNat x5l29) default) = e9 at he9 hF ⊢
             refine Ok.op rfl (OpOk.indexRo (e := .slice (.tst (.pair (.int .i64) (.pair (.str) (.pair (.int .u8) (.pair (.str) (.pair (.int .i64) (.int .i64)))))))) (i := x5l29) (el := e9) rfl rfl Tryz.underlying22 (by kernel_rfl) hR2_0 h09 he9 rfl fun q8 o8 cs8 _ hat8 hr8 => ?_)
             obtain ⟨a8_0, c8_0, rfl, hm8_0, hr8_0⟩ := hr8
             have hR8_0 : Rep g (.slice (.tst (.pair (.int .i64) (.pair (.str) (.pair (.int .u8) (.pair (.str) (.pair (.int .i64) (.int .i64)))))))) [.slice a8_0 e9.length c8_0] e9 := ⟨a8_0, c8_0, rfl, hm8_0, hr8_0⟩
             replace hat8 : At g q8 o8 [.slice a8_0 e9.length c8_0] := hat8
             refine Ok.op rfl (OpOk.step (v := .slice a8_0 e9.length c8_0) (Yields.loadRo 0 hat8 (by kernel_rfl) Tryz.underlying41 rfl (by kernel_rfl)) rfl rfl (Ok.bat 2 [0, 3, 4, 5, 6] [(66, .bool (decide (x6l49 < (e9.length : Int))))] ?_))
             refine Ok.nil (Ok.thenN (Ok.cond (b := decide (x6l49 < (e9.length : Int))) rfl (fun hc10 => ?_) (fun hc10 => ?_)))
             ·replace hF := hF.1 hc10
              refine Ok.skip (Ok.thenN (Ok.seq (Ok.block (Ok.seq (Ok.region (Ok.bat 1 [0, 3, 4, 5, 6] [(69, pv bs4 0)] ?_))))))
              refine Ok.op rfl (OpOk.step (v := .slice a2_0 e3.1.length c2_0) (Yields.load 0 rfl rfl Tryz.underlying22 rfl (by kernel_rfl)) rfl rfl (Ok.bat 1 [0, 3, 4, 5, 6] [(70, .slice a2_0 e3.1.length c2_0), (71, .int .i64 x5l29)] ?_))
              refine Ok.op rfl (OpOk.indexRo (e := .slice (.tst (.pair (.int .i64) (.pair (.str) (.pair (.int .u8) (.pair (.str) (.pair (.int .i64) (.int .i64)))))))) (i := x5l29) (el := e9) rfl rfl Tryz.underlying22 (by kernel_rfl) hR2_0 h09 he9 rfl fun q11 o11 cs11 _ hat11 hr11 => ?_)
              obtain ⟨a11_0, c11_0, rfl, hm11_0, hr11_0⟩ := hr11
              have hR11_0 : Rep g (.slice (.tst (.pair (.int .i64) (.pair (.str) (.pair (.int .u8) (.pair (.str) (.pair (.int .i64) (.int .i64)))))))) [.slice a11_0 e9.length c11_0] e9 := ⟨a11_0, c11_0, rfl, hm11_0, hr11_0⟩
              replace hat11 : At g q11 o11 [.slice a11_0 e9.length c11_0] := hat11
              refine Ok.op rfl (OpOk.step (v := .slice a11_0 e9.length c11_0) (Yields.loadRo 0 hat11 (by kernel_rfl) Tryz.underlying41 rfl (by kernel_rfl)) rfl rfl (Ok.bat 1 [0, 3, 4, 5, 6] [(73, .slice a11_0 e9.length c11_0), (74, .int .i64 x6l49)] ?_))
              obtain ⟨h013, h113, hF⟩ := hF
              have he13 := get_of (l := e9) (default : Tst (Int × Bs × Int × Bs × Int × Int)) h113
              generalize hg13 : (e9.getD (Int.toNat x6l49) default) = e13 at he13 hF ⊢
              refine Ok.op rfl (OpOk.indexRo (e := .tst (.pair (.int .i64) (.pair (.str) (.pair (.int .u8) (.pair (.str) (.pair (.int .i64) (.int .i64))))))) (i := x6l49) (el := e13) rfl rfl Tryz.underlying41 (by kernel_rfl) hR11_0 h013 he13 rfl fun q12 o12 cs12 _ hat12 hr12 => ?_)
              have hT12_0 := hr12
              replace hT12_0 := Rep.tst.1 hT12_0
              obtain ⟨_, _, rfl, ⟨_, _, rfl, rfl, ⟨_, _, rfl, rfl, ⟨_, _, rfl, rfl, ⟨_, _, rfl, rfl, ⟨_, _, rfl, rfl, rfl⟩⟩⟩⟩⟩, ⟨a12_6, c12_6, rfl, hm12_6, hr12_6⟩⟩ := hT12_0
              have hR12_6 : Rep g (.slice (.pair (.slice (.slice (.tst (.pair (.int .i64) (.pair (.str) (.pair (.int .u8) (.pair (.str) (.pair (.int .i64) (.int .i64))))))))) (.slice (.int .u8)))) [.slice a12_6 e13.kids.length c12_6] e13.kids := ⟨a12_6, c12_6, rfl, hm12_6, hr12_6⟩
              replace hat12 : At g q12 o12 [.int .i64 e13.lab.1, sv e13.lab.2.1, .int .u8 e13.lab.2.2.1, sv e13.lab.2.2.2.1, .int .i64 e13.lab.2.2.2.2.1, .int .i64 e13.lab.2.2.2.2.2, .slice a12_6 e13.kids.length c12_6] := hat12
              refine Ok.op rfl (OpOk.step (v := .agg #[.int .i64 e13.lab.1, sv e13.lab.2.1, .int .u8 e13.lab.2.2.1, sv e13.lab.2.2.2.1, .int .i64 e13.lab.2.2.2.2.1, .int .i64 e13.lab.2.2.2.2.2, .slice a12_6 e13.kids.length c12_6]) (Yields.loadAggRo 0 7 #[.int .i64 e13.lab.1, sv e13.lab.2.1, .int .u8 e13.lab.2.2.1, sv e13.lab.2.2.2.1, .int .i64 e13.lab.2.2.2.2.1, .int .i64 e13.lab.2.2.2.2.2, .slice a12_6 e13.kids.length c12_6] hat12 (by kernel_rfl) Tryz.underlying48 rfl (by kernel_rfl) (by kernel_rfl) (by kernel_rfl)) rfl rfl (Ok.bat 1 [0, 3, 4, 5, 6] [(76, .agg #[.int .i64 e13.lab.1, sv e13.lab.2.1, .int .u8 e13.lab.2.2.1, sv e13.lab.2.2.2.1, .int .i64 e13.lab.2.2.2.2.1, .int .i64 e13.lab.2.2.2.2.2, .slice a12_6 e13.kids.length c12_6]), (77, .int .i64 x6l49)] ?_))
              obtain ⟨hp14, hF⟩ := hF
              refine Ok.op rfl (OpOk.callG (v := .bool (tstS e13 x6l49)) enr (fun W hW => ih_tmy _ e13 x6l49 (hR12_6.mono hW.sees) (hG0.mono hW.sees) hp14) rfl ?_)
              refine Ok.bat 1 [0, 3, 4, 5, 6] [(79, .bool (!(tstS e13 x6l49)))] ?_
              refine Ok.nil (Ok.thenN (Ok.cond (b := !(tstS e13 x6l49)) rfl (fun hc15 => ?_) (fun hc15 => ?_)))
              ·replace hF := hF.1 hc15
               refine Ok.seq (Ok.region (Ok.batch 1 [(2, .bool false)] (by kernel_rfl) (Ok.nil (Ok.thenN (Ok.ret (Ok.blockR (Ok.thenR (Ok.thenR (Ok.blockR (Ok.blockR (Ok.thenR (Ok.thenR (Ok.blockR (Ok.blockR (Ok.thenR (Ok.thenR (Ok.blockR (Ok.thenR ?_))))))))))))))))))
               exact Ok.resP (vs := [.bool false]) [] [] (by decide) rfl (.inl rfl) rfl (.cons (.tmp rfl) .nil) (Gext.refl w0 g) ⟨false, rfl, rfl, hF⟩
              ·replace hF := hF.2 hc15
               refine Ok.skip (Ok.blockN (Ok.thenN (Ok.region (Ok.bat 3 [0, 3, 4, 5] [(6, .int .i64 (w6 (x6l49 + 1)))] ?_))))
               refine Ok.nil (Ok.thenN ?_)
               subst hg13
               subst hg9
               exact fun a W hA hW => ⟨k49, Nat.lt_succ_self _, w6 (x6l49 + 1), hA.sub (by kernel_rfl), hW, hF⟩
             ·replace hF := hF.2 hc10
              refine Ok.exit (Ok.thenE (Ok.thenE (Ok.blockHit (Ok.blockN (Ok.thenN (Ok.region (Ok.bat 3 [0, 3, 4] [(5, .int .i64 (w6 (x5l29 + 1)))] ?_)))))))
              refine Ok.nil (Ok.thenN ?_)
              subst hg9
              exact fun a W hA hW => ⟨k29, Nat.lt_succ_self _, w6 (x5l29 + 1), hA.sub (by kernel_rfl), hW, hF⟩
        ·replace hF := hF.2 hc6
         refine Ok.exit (Ok.thenE (Ok.thenE (Ok.blockHit (Ok.blockN (Ok.thenN (Ok.region (Ok.bat 3 [0] [(3, .int .i64 (w6 (x3l7 + 1)))] ?_)))))))
         refine Ok.nil (Ok.thenN ?_)
         subst hg3
         exact fun a W hA hW => ⟨k7, Nat.lt_succ_self _, w6 (x3l7 + 1), hA.sub (by kernel_rfl), hW.sub (.cons _ .slnil), hF⟩
   ·replace hF := hF.2 hc1
    refine Ok.exit (Ok.thenE (Ok.thenE (Ok.blockHit (Ok.thenN (Ok.seq (Ok.region (Ok.batch 4 [(2, .bool (decide ((xl.length : Int) > 0)))] (by kernel_rfl) (Ok.nil (Ok.thenN (Ok.ret ?_))))))))))
    exact Ok.resH (vs := [.bool (decide ((xl.length : Int) > 0))]) (.inl rfl) rfl (.cons (.tmp rfl) .nil) (Gext.refl w0 g) ⟨(decide ((xl.length : Int) > 0)), rfl, rfl, hF⟩
theorem tmy_0 (t : Ts) (i : Int) : ¬ tmyP 0 t i := fun h => absurd h.1 (Nat.not_lt_zero _)
theorem pmy_0 (l : List Ph) : ¬ pmyP 0 l := fun h => absurd h.1 (Nat.not_lt_zero _)
theorem l0_eq (t : Ts) (i : Int) : l0 t.lab i = ((decide (t.lab.1 < 1) || decide (t.lab.1 > 11)) || (tmyV0 t i || tmyV2 t)) := by
 unfold l0 tmyV0 tmyV2 tmyV1
 have hep : ((t.lab.2.1 == ([] : Bs)) && plainS t.lab.2.1) = false := by
  cases t.lab.2.1 with
  | nil => decide
  | cons c s => rfl
 generalize t.lab.1 = k
 generalize (t.lab.2.1 == ([] : Bs)) = e at *
 generalize plainS t.lab.2.1 = p at *
 generalize decide (i > 0) = a
 by_cases h1 : k < 1
 ·rw [decide_eq_true h1]; simp
 ·by_cases h2 : k > 11
  ·rw [decide_eq_true h2]; simp
  ·obtain rfl | rfl | rfl | rfl | rfl | rfl | rfl | rfl | rfl | rfl | rfl : k = 1 ∨ k = 2 ∨ k = 3 ∨ k = 4 ∨ k = 5 ∨ k = 6 ∨ k = 7 ∨ k = 8 ∨ k = 9 ∨ k = 10 ∨ k = 11 := by omega
   all_goals (revert a e p hep; decide)
theorem l1_eq (t : Ts) : l1 t.lab = tmyV3 t := by
 unfold l1 tmyV3
 rw [show (lowerS t.lab.2.1 == t.lab.2.1) = (t.lab.2.1 == lowerS t.lab.2.1) from Bool.beq_comm ..]
theorem l2_eq (t : Ts) : l2 t.lab = tmyV4 t := by
 unfold l2 tmyV4
 generalize (t.lab.1 != 5) = a
 generalize (t.lab.2.2.2.1 == ([] : Bs)) = b
 generalize hbyS ([61, 126, 124, 94, 36, 42] : Bs) t.lab.2.2.1 = c
 by_cases h : t.lab.2.2.1 = 0
 ·rw [h]; revert a b c; decide
 ·rw [show (t.lab.2.2.1 == 0) = false by simpa using h, show (t.lab.2.2.1 != 0) = true by simpa using h]
  revert a b c; decide
theorem l3_eq (t : Ts) : l3 t.lab = tmyV5 t := by
 unfold l3 tmyV5
 generalize (!((t.lab.1 == 8) || (t.lab.1 == 9))) = c
 generalize t.lab.2.2.2.2.1 = a
 generalize t.lab.2.2.2.2.2 = b
 have e : ((decide ((if b < a then b else a) < (-1000))) || (decide ((if a < b then b else a) > 1000))) = (decide (a < (-1000)) || (decide (a > 1000) || (decide (b < (-1000)) || decide (b > 1000)))) := by
  rw [Bool.eq_iff_iff]
  simp only [Bool.or_eq_true, decide_eq_true_eq]
  split <;> split <;> omega
 rw [e]
theorem lab_eq (t : Ts) (i : Int) : labS t.lab i = !(((decide (t.lab.1 < 1) || decide (t.lab.1 > 11)) || (tmyV0 t i || tmyV2 t)) || (tmyV3 t || (tmyV4 t || tmyV5 t))) := by
 unfold labS
 rw [l0_eq, l1_eq, l2_eq, l3_eq]
 simp only [Bool.not_or]
theorem tmy_F (N : Nat) (t : Ts) (i : Int) (h : tmyP (N + 1) t i) : tmyF N t i (fun r => r = tstS t i) := by
 have hk : pmyP N t.kids := tstP_kids h
 have hb := bT_kids t
 have hc : cutP t.lab.2.1 := by have := h.2.1; show t.lab.2.1.length < 4294967281; omega
 have hl : lowerP t.lab.2.1 := by have := h.2.1; show t.lab.2.1.length ≤ 140737488351232; omega
 have hy : hbyP ([61, 126, 124, 94, 36, 42] : Bs) t.lab.2.2.1 := by show 6 ≤ 140737488351232; omega
 have e := okT_eq t i
 rw [lab_eq] at e
 have e : tstS t i = _ := e
 generalize hB : (decide (t.lab.1 < 1) || decide (t.lab.1 > 11)) = B at e
 have j56 : B = false → tmyV0 t i = false → tmyV2 t = false → tmyV3 t = false → tmyV4 t = false → tmyV5 t = false → tmyj56 N t (fun r => r = tstS t i) := by
  intro hB h0 h2 h3 h4 h5
  rw [hB, h0, h2, h3, h4, h5] at e
  refine ⟨fun hn => ⟨hk, ?_⟩, fun hn => ?_⟩
  ·rw [if_t hn] at e; rw [e]; rfl
  ·rw [if_f hn] at e; rw [e]; rfl
 have j48 : B = false → tmyV0 t i = false → tmyV2 t = false → tmyV3 t = false → tmyV4 t = false → tmyj48 N t (fun r => r = tstS t i) := by
  intro hB h0 h2 h3 h4
  refine ⟨fun h5 => ?_, fun h5 => ⟨fun _ => j56 hB h0 h2 h3 h4 h5, fun _ => j56 hB h0 h2 h3 h4 h5⟩⟩
  rw [h5] at e; rw [e]; simp
 have j45 : B = false → tmyV0 t i = false → tmyV2 t = false → tmyV3 t = false → tmyV4 t = false → tmyj45 N t (fun r => r = tstS t i) := by
  intro hB h0 h2 h3 h4
  have k := j48 hB h0 h2 h3 h4
  exact ⟨fun _ => ⟨fun _ => k, fun _ => ⟨fun _ => k, fun _ => ⟨fun _ => k, fun _ => ⟨fun _ => k, fun _ => ⟨fun _ => k, fun _ => k⟩⟩⟩⟩⟩, fun _ => ⟨fun _ => k, fun _ => ⟨fun _ => k, fun _ => ⟨fun _ => k, fun _ => k⟩⟩⟩⟩
 have j38 : B = false → tmyV0 t i = false → tmyV2 t = false → tmyV3 t = false → tmyj38 N t (fun r => r = tstS t i) := by
  intro hB h0 h2 h3
  refine ⟨fun h4 => ?_, fun h4 => ⟨fun _ => j45 hB h0 h2 h3 h4, fun _ => j45 hB h0 h2 h3 h4⟩⟩
  rw [h4] at e; rw [e]; simp
 have j30 : B = false → tmyV0 t i = false → tmyV2 t = false → tmyj30 N t (fun r => r = tstS t i) := by
  intro hB h0 h2
  refine ⟨fun h3 => ?_, fun h3 => ?_⟩
  ·rw [h3] at e; rw [e]; simp
  ·have k := j38 hB h0 h2 h3
   exact ⟨fun _ => ⟨fun _ => k, fun _ => ⟨fun _ => ⟨fun _ => k, fun _ => ⟨hy, k⟩⟩, fun _ => k⟩⟩, fun _ => ⟨fun _ => ⟨fun _ => k, fun _ => ⟨hy, k⟩⟩, fun _ => k⟩⟩
 have j22 : B = false → tmyV0 t i = false → tmyj22 N t (fun r => r = tstS t i) := by
  intro hB h0
  refine ⟨fun h2 => ?_, fun h2 => ?_⟩
  ·rw [h2] at e; rw [e]; simp
  ·have k := j30 hB h0 h2
   exact ⟨fun _ => ⟨hl, k⟩, fun _ => ⟨fun _ => ⟨hl, k⟩, fun _ => k⟩⟩
 have j19 : B = false → tmyV0 t i = false → tmyj19 N t (fun r => r = tstS t i) := by
  intro hB h0
  have k := j22 hB h0
  exact ⟨fun _ => ⟨fun _ => k, fun _ => ⟨fun _ => ⟨hc, k⟩, fun _ => k⟩⟩, fun _ => ⟨fun _ => ⟨hc, k⟩, fun _ => k⟩⟩
 have j12 : B = false → tmyj12 N t i (fun r => r = tstS t i) := by
  intro hB
  refine ⟨fun h0 => ?_, fun h0 => ?_⟩
  ·rw [h0] at e; rw [e]; simp
  ·have k := j19 hB h0
   exact ⟨fun _ => k, fun _ => ⟨fun _ => k, fun _ => ⟨fun _ => k, fun _ => k⟩⟩⟩
 have j4 : tmyj4 N t i (fun r => r = tstS t i) := by
  refine ⟨fun h0 => ?_, fun h0 => ?_⟩
  ·rw [hB] at h0
   rw [h0] at e; rw [e]; simp
  ·rw [hB] at h0
   have k := j12 h0
   exact ⟨fun _ => ⟨fun _ => k, fun _ => k⟩, fun _ => k⟩
 exact ⟨fun _ => j4, fun _ => j4⟩
theorem pmy49 {N : Nat} {r : Bool} (q : Ph) (k : Nat) (hk : k < q.1.length) (hk2 : k ≤ 1048600) (hs : ∀ t ∈ q.1.getD k default, ∀ i, tmyP N t i) (hl : (q.1.getD k default).length ≤ 1048600) (C : Int → Prop) (R : Bool) (hC : r = R → C (w6 ((k : Int) + 1))) :
  ∀ (m i : Nat), i + m = (q.1.getD k default).length → r = (ok1 ((q.1.getD k default).drop i) i && R) → pmyl49 N (fun x => x = r) q (k : Int) C (m + 1) (i : Int) := by
 intro m
 induction m with
 | zero =>
  intro i hi he
  rw [List.drop_of_length_le (by omega), ok1, Bool.true_and] at he
  refine ⟨by omega, by rw [Int.toNat_natCast]; omega, ?_⟩
  rw [Int.toNat_natCast]
  exact ⟨fun hc => absurd (of_decide_eq_true hc) (by omega), fun _ => hC he⟩
 | succ m ih =>
  intro i hi he
  have hi' : i < (q.1.getD k default).length := by omega
  have ht := hs _ (get_in default hi') i
  rw [drop_get (l := q.1.getD k default) default hi', ok1, Bool.and_assoc] at he
  refine ⟨by omega, by rw [Int.toNat_natCast]; omega, ?_⟩
  rw [Int.toNat_natCast]
  refine ⟨fun _ => ⟨by omega, by rw [Int.toNat_natCast]; omega, ?_⟩, fun hc => absurd (of_decide_eq_false hc) (by omega)⟩
  rw [Int.toNat_natCast]
  refine ⟨ht, fun hb => ?_, fun hb => ?_⟩
  ·have hb : okT ((q.1.getD k default).getD i default) i = false := by simpa [tstS] using hb
   rw [he, hb, Bool.false_and]
  ·have hb : okT ((q.1.getD k default).getD i default) i = true := by simpa [tstS] using hb
   rw [hb, Bool.true_and, show (i : Int) + 1 = ((i + 1 : Nat) : Int) by omega] at he
   rw [w64 (by omega), show (i : Int) + 1 = ((i + 1 : Nat) : Int) by omega]
   exact ih (i + 1) (by omega) he
theorem pmy29 {N : Nat} {r : Bool} (q : Ph) (hs : ∀ s ∈ q.1, ∀ t ∈ s, ∀ i, tmyP N t i) (hw : w2 q.1 ≤ 1048600) (hl : q.2.length + 1 = q.1.length) (j : Int) (C : Int → Prop) (R : Bool) (hC : r = R → C (w6 (j + 1))) :
  ∀ (m i : Nat), i + m = q.1.length → r = (ok2 (q.1.drop i) && ((q.2.drop (i - 1)).all jnB && R)) → pmyl29 N (fun x => x = r) q j C (m + 1) (i : Int) := by
 intro m
 have h3 := w2_len q.1
 induction m with
 | zero =>
  intro i hi he
  rw [List.drop_of_length_le (by omega), ok2, Bool.true_and, List.drop_of_length_le (by omega), List.all_nil, Bool.true_and] at he
  exact ⟨fun hc => absurd (of_decide_eq_true hc) (by omega), fun _ => hC he⟩
 | succ m ih =>
  intro i hi he
  have hi' : i < q.1.length := by omega
  have hin := get_in default hi'
  have ht := hs _ hin
  have h1 := w1_len (q.1.getD i default)
  have h2 := w2_in hin
  rw [drop_get (l := q.1) default hi', ok2, Bool.and_assoc, Bool.and_assoc] at he
  refine ⟨fun _ => ⟨by omega, by rw [Int.toNat_natCast]; omega, ?_⟩, fun hc => absurd (of_decide_eq_false hc) (by omega)⟩
  have go : ∀ s, q.1.getD i default = s → (((s.length : Int) == 0) = false) → r = (ok1 s 0 && (ok2 (q.1.drop (i + 1)) && ((q.2.drop i).all jnB && R))) → ∃ k, pmyl49 N (fun x => x = r) q (i : Int) (pmyl29 N (fun x => x = r) q j C (m + 1)) k 0 := by
   intro s hse hne hr
   subst hse
   refine ⟨_, pmy49 q i hi' (by omega) ht (by omega) _ _ (fun h => ?_) (q.1.getD i default).length 0 (by omega) (by rw [List.drop_zero]; exact hr)⟩
   rw [w64 (by omega), show (i : Int) + 1 = ((i + 1 : Nat) : Int) by omega]
   exact ih (i + 1) (by omega) h
  have j39 : pmyj39 N (fun x => x = r) q (i : Int) (pmyl29 N (fun x => x = r) q j C (m + 1)) := by
   unfold pmyj39 pmyV3
   rw [Int.toNat_natCast]
   by_cases h0 : i = 0
   ·subst h0
    have e0 : (decide (((0 : Nat) : Int) > 0)) = false := rfl
    rw [e0, Bool.false_and, Bool.or_false]
    refine ⟨fun hb => ?_, fun hb => ?_⟩
    ·rw [he, hb]; simp
    ·rw [hb, Bool.not_false, Bool.true_and] at he
     exact go _ rfl hb he
   ·have e0 : (decide ((i : Int) > 0)) = true := decide_eq_true (by omega)
    have e1 : Int.toNat (w6 ((i : Int) - 1)) = i - 1 := by rw [w64 (by omega)]; omega
    rw [e0, Bool.true_and, e1]
    rw [drop_get (l := q.2) (k := i - 1) default (by omega), List.all_cons, show i - 1 + 1 = i by omega] at he
    refine ⟨fun hb => ?_, fun hb => ?_⟩
    ·rw [Bool.or_eq_true] at hb
     rcases hb with hb | hb
     ·rw [he, hb]; simp
     ·have hb : jnB (q.2.getD (i - 1) default) = false := by simpa [jnB] using hb
      rw [he, hb]; simp
    ·rw [Bool.or_eq_false_iff] at hb
     have hb2 : jnB (q.2.getD (i - 1) default) = true := by simpa [jnB] using hb.2
     rw [hb.1, hb2, Bool.not_false, Bool.true_and, Bool.true_and] at he
     exact go _ rfl hb.1 he
  refine ⟨fun _ => j39, fun _ => ⟨fun hc => ?_, fun _ => j39⟩⟩
  have hc := of_decide_eq_true hc
  rw [w64 (by omega)]
  exact ⟨by omega, by omega, by show 4 ≤ 140737488351232; omega, j39⟩
theorem pmy_F (N : Nat) (l : List Ph) (h : pmyP (N + 1) l) : pmyF N l (fun r => r = ptsS l) := by
 have h5 := b3_eq l
 have hlen := w3_len l
 have hin := fun q hq s hs t ht i => ptsP_in h (q := q) hq (s := s) hs (t := t) ht i
 obtain ⟨_, hb, ho⟩ := h
 have loop : ∀ (m i : Nat), i + m = l.length → ptsS l = (ok3 (l.drop i) && decide ((l.length : Int) > 0)) → pmyl7 N l (fun r => r = ptsS l) (m + 1) (i : Int) := by
  intro m
  induction m with
  | zero =>
   intro i hi he
   rw [List.drop_of_length_le (by omega), ok3, Bool.true_and] at he
   exact ⟨fun hc => absurd (of_decide_eq_true hc) (by omega), fun _ => he.symm⟩
  | succ m ih =>
   intro i hi he
   have hi' : i < l.length := by omega
   have hq := get_in default hi'
   have hwq := w3_in hq
   have hq1 := w2_len (l.getD i default).1
   rw [drop_get (l := l) default hi', ok3_cons, Bool.and_assoc, Bool.and_assoc, Bool.and_assoc] at he
   refine ⟨fun _ => ⟨by omega, by rw [Int.toNat_natCast]; omega, ?_⟩, fun hc => absurd (of_decide_eq_false hc) (by omega)⟩
   rw [Int.toNat_natCast]
   have j19 : pmyj19 N (fun r => r = ptsS l) (l.getD i default) (i : Int) (pmyl7 N l (fun r => r = ptsS l) (m + 1)) := by
    have hV : pmyV0 (l.getD i default) = (((((l.getD i default).1.length : Int) == 0)) || (((l.getD i default).2.length : Int) != ((l.getD i default).1.length : Int) - 1)) := by
     unfold pmyV0
     rw [w64 (by omega)]
    refine ⟨fun h0 => ?_, fun h0 => ?_⟩
    ·rw [hV] at h0
     rw [he, h0]; rfl
    ·rw [hV] at h0
     have h1 := h0
     rw [Bool.or_eq_false_iff] at h1
     have h2 : (l.getD i default).2.length + 1 = (l.getD i default).1.length := by
      have := bne_eq_false_iff_eq.1 h1.2
      omega
     rw [h0, Bool.not_false, Bool.true_and] at he
     refine ⟨_, pmy29 (l.getD i default) (hin _ hq) (by omega) h2 (i : Int) _ _ (fun h => ?_) (l.getD i default).1.length 0 (by omega) (by rw [List.drop_zero]; exact he)⟩
     rw [w64 (by omega), show (i : Int) + 1 = ((i + 1 : Nat) : Int) by omega]
     exact ih (i + 1) (by omega) h
   exact ⟨fun _ => j19, fun _ => j19⟩
 exact ⟨_, loop l.length 0 (by omega) (by rw [List.drop_zero]; rfl)⟩
theorem tmy_rec : ∀ N, tmy_C N ∧ pmy_C N
 | 0 => ⟨(by intro g axt_0 cxt_0 xt xat hRxt_0 hG0 hp; exact (tmy_0 xt xat hp).elim), (by intro g axl_0 cxl_0 xl hRxl_0 hG0 hp; exact (pmy_0 xl hp).elim)⟩
 | N + 1 =>
  have ih := tmy_rec N
  ⟨(by intro g axt_0 cxt_0 xt xat hRxt_0 hG0 hp; exact (tmy_ok N ih.1 ih.2 xt xat hRxt_0 hG0 _ (tmy_F N xt xat hp)).gives (by rintro g' H' v _ ⟨r0, rfl, rfl, hK⟩; subst hK; rfl)), (by intro g axl_0 cxl_0 xl hRxl_0 hG0 hp; exact (pmy_ok N ih.1 ih.2 xl hRxl_0 hG0 _ (pmy_F N xl hp)).gives (by rintro g' H' v _ ⟨r0, rfl, rfl, hK⟩; subst hK; rfl))⟩
def pmyPE (xl : List ((List (List (Tst (Int × Bs × Int × Bs × Int × Int)))) × List (Int))) : Prop := ∃ N, pmyP N xl
theorem pmy_c {g : Ghost} {axl_0 : Option Addr} {cxl_0 : Nat} (xl : List ((List (List (Tst (Int × Bs × Int × Bs × Int × Int)))) × List (Int))) (hRxl_0 : Rep g (.slice (.pair (.slice (.slice (.tst (.pair (.int .i64) (.pair (.str) (.pair (.int .u8) (.pair (.str) (.pair (.int .i64) (.int .i64))))))))) (.slice (.int .u8)))) [.slice axl_0 xl.length cxl_0] xl) (hG0 : SomeInt g 0)  (hp : pmyPE xl) : CallsG Tryz.prog 18 #[.slice axl_0 xl.length cxl_0] g (.bool (ptsS xl)) := by
 obtain ⟨N, hp⟩ := hp
 exact (tmy_rec N).2 _ xl hRxl_0 hG0 hp
end Go.Proofs.YtcnhdkhkadiohaaGreatDoor.Se
