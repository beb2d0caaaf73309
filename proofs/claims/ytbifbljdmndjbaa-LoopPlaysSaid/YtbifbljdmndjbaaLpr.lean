/- Loops: the reference, ask by ask. -/
import Derived.Test.YtbifbljdmndjbaaLpq
namespace Go.Proofs.Ytbifbljdmndjbaa.Lo
open Go Go.Eng Go.RowKit
set_option maxHeartbeats 4000000
set_option maxRecDepth 100000
set_option linter.unusedSimpArgs false
set_option linter.unusedVariables false
def rbtF (xn : Int) (xlow : Int) (xhigh : Int) (K : Bool → Prop) : Prop :=
 K ((decide (xlow ≤ xn)) && (decide (xn ≤ xhigh)))
theorem rbt_ok {g : Ghost} (xn : Int) (xlow : Int) (xhigh : Int) (K : Bool → Prop)
  (hF : rbtF xn xlow xhigh K) : CallsH Try.prog 17 #[.int .i64 xn, .int .i64 xlow, .int .i64 xhigh] g [] (fun g' H' v => ∃ (r0 : Bool), v = .bool r0 ∧ H' = [] ∧ K r0) := by
 refine CallsH.enter 15 [(0, .int .i64 xn), (1, .int .i64 xlow), (2, .int .i64 xhigh)] Try.func17 rfl (by kernel_rfl) (by kernel_rfl) (by kernel_rfl) fun w0 => ?_
 refine Ok.seq (Ok.region (Ok.batch 1 [(0, .int .i64 xn), (1, .int .i64 xlow), (2, .int .i64 xhigh)] (by kernel_rfl) (Ok.nil (Ok.thenN (Ok.seq (Ok.region (Ok.bat 4 [0, 2] [(10, .bool (decide (xlow ≤ xn)))] ?_)))))))
 refine Ok.midway 4 [(14, .bool ((decide (xlow ≤ xn)) && (decide (xn ≤ xhigh))))] (fun hR1 => ?_) ?_
 ·refine Ok.boolAt 10 (decide (xlow ≤ xn)) rfl (fun hc2 => ?_) (fun hc2 => ?_)
  ·skip
   refine Ok.batch 4 [(14, .bool (decide (xn ≤ xhigh)))] (by kernel_rfl) (Ok.reval 14 rfl (show (.bool (decide (xn ≤ xhigh)) : Value) = .bool ((decide (xlow ≤ xn)) && (decide (xn ≤ xhigh))) from congrArg Value.bool (mand_t hc2)) (Ok.batch 0 [(14, .bool ((decide (xlow ≤ xn)) && (decide (xn ≤ xhigh))))] (by kernel_rfl) ?_))
   exact hR1
  ·skip
   refine Ok.batch 4 [(14, .bool false)] (by kernel_rfl) (Ok.reval 14 rfl (show (.bool false : Value) = .bool ((decide (xlow ≤ xn)) && (decide (xn ≤ xhigh))) from congrArg Value.bool (mand_f hc2)) (Ok.batch 0 [(14, .bool ((decide (xlow ≤ xn)) && (decide (xn ≤ xhigh))))] (by kernel_rfl) ?_))
   exact hR1
 refine Ok.batch 1 [(6, .bool ((decide (xlow ≤ xn)) && (decide (xn ≤ xhigh))))] (by kernel_rfl) (Ok.nil (Ok.thenN (Ok.ret ?_)))
 exact Ok.resH (vs := [.bool ((decide (xlow ≤ xn)) && (decide (xn ≤ xhigh)))]) (.inl rfl) rfl (.cons (.tmp rfl) .nil) (Gext.refl w0 g) ⟨((decide (xlow ≤ xn)) && (decide (xn ≤ xhigh))), rfl, rfl, hF⟩
def rbtM (xn : Int) (xlow : Int) (xhigh : Int) : Bool := ((decide (xlow ≤ xn)) && (decide (xn ≤ xhigh)))
theorem rbtF_A (xn : Int) (xlow : Int) (xhigh : Int) (P : Bool → Prop) (h : P (rbtM xn xlow xhigh)) : rbtF xn xlow xhigh (fun k0 => P k0) := by
 unfold rbtM at h
 unfold rbtF
 exact h
theorem rbt_F (xn : Int) (xlow : Int) (xhigh : Int) : rbtF xn xlow xhigh (fun k0 => k0 = rbtM xn xlow xhigh) :=
 rbtF_A xn xlow xhigh (fun z => z = rbtM xn xlow xhigh) rfl
theorem rbt_c {g : Ghost} (xn : Int) (xlow : Int) (xhigh : Int)  : CallsG Try.prog 17 #[.int .i64 xn, .int .i64 xlow, .int .i64 xhigh] g (.bool (rbtM xn xlow xhigh)) :=
 (rbt_ok xn xlow xhigh _ (rbt_F xn xlow xhigh)).gives (by rintro g' H' v _ ⟨r0, rfl, rfl, hK⟩; subst hK; rfl)
def rplV2 (xt : JT) (e5 : JT) (x6l11 : Bool) : Bool :=
 ((!x6l11) && ((decide (e5.2.1 > xt.2.1)) || ((e5.2.1 == xt.2.1) && (decide (e5.1 > xt.1)))))
def rplV3 (xt : JT) (e5 : JT) (x6l11 : Bool) (yown2_0l11 : List (JT)) : List (JT) :=
 (if (rplV2 xt e5 x6l11) = true then (yown2_0l11 ++ ([xt] : List (JT))) else yown2_0l11)
def rplV4 (xt : JT) (x6l11 : Bool) (yown2_0l11 : List (JT)) : List (JT) :=
 (if (!x6l11) = true then (yown2_0l11 ++ ([xt] : List (JT))) else yown2_0l11)
def rplj22 (xl : List (JT)) (xt : JT) (e5 : JT) (x6l11 : Bool) (x11l11 : Int) (yown2_0l11 : List (JT)) (C11 : Bool → Int → (List (JT)) → Prop) : Prop :=
 ((rplV3 xt e5 x6l11 yown2_0l11) ++ ([e5] : List (JT))).length ≤ 2932031007402 ∧ C11 ((rplV2 xt (xl.getD (Int.toNat x11l11) default) x6l11) || x6l11) (w6 (x11l11 + 1)) ((rplV3 xt (xl.getD (Int.toNat x11l11) default) x6l11 yown2_0l11) ++ ([(xl.getD (Int.toNat x11l11) default)] : List (JT)))
def rplj23 (xl : List (JT)) (xt : JT) (e5 : JT) (x6l11 : Bool) (x11l11 : Int) (yown2_0l11 : List (JT)) (C11 : Bool → Int → (List (JT)) → Prop) : Prop :=
 (((rplV2 xt e5 x6l11)) = true → (yown2_0l11 ++ ([xt] : List (JT))).length ≤ 2932031007402 ∧ rplj22 xl xt e5 x6l11 x11l11 yown2_0l11 C11) ∧ (((rplV2 xt e5 x6l11)) = false → rplj22 xl xt e5 x6l11 x11l11 yown2_0l11 C11)
def rplj30 (xt : JT) (K : (List (JT)) → Prop) (x6l11 : Bool) (yown2_0l11 : List (JT)) : Prop :=
 K (rplV4 xt x6l11 yown2_0l11)
def rpll11b (xl : List (JT)) (xt : JT) (K : (List (JT)) → Prop) (x6l11 : Bool) (x11l11 : Int) (yown2_0l11 : List (JT)) (C11 : Bool → Int → (List (JT)) → Prop) : Prop :=
 ((decide (x11l11 < (xl.length : Int))) = true → (0 : Int) ≤ x11l11 ∧ Int.toNat x11l11 < xl.length ∧ ((!x6l11) = true → ((decide ((xl.getD (Int.toNat x11l11) default).2.1 > xt.2.1)) = true → rplj23 xl xt (xl.getD (Int.toNat x11l11) default) x6l11 x11l11 yown2_0l11 C11) ∧ ((decide ((xl.getD (Int.toNat x11l11) default).2.1 > xt.2.1)) = false → ((((xl.getD (Int.toNat x11l11) default).2.1 == xt.2.1)) = true → rplj23 xl xt (xl.getD (Int.toNat x11l11) default) x6l11 x11l11 yown2_0l11 C11) ∧ ((((xl.getD (Int.toNat x11l11) default).2.1 == xt.2.1)) = false → rplj23 xl xt (xl.getD (Int.toNat x11l11) default) x6l11 x11l11 yown2_0l11 C11))) ∧ ((!x6l11) = false → rplj23 xl xt (xl.getD (Int.toNat x11l11) default) x6l11 x11l11 yown2_0l11 C11)) ∧ ((decide (x11l11 < (xl.length : Int))) = false → ((!x6l11) = true → (yown2_0l11 ++ ([xt] : List (JT))).length ≤ 2932031007402 ∧ rplj30 xt K x6l11 yown2_0l11) ∧ ((!x6l11) = false → rplj30 xt K x6l11 yown2_0l11))
def rpll11 (xl : List (JT)) (xt : JT) (K : (List (JT)) → Prop) : Nat → Bool → Int → (List (JT)) → Prop
 | 0, _, _, _ => False
 | k + 1, x6l11, x11l11, yown2_0l11 => rpll11b xl xt K x6l11 x11l11 yown2_0l11 (rpll11 xl xt K k)
def rplF (xl : List (JT)) (xt : JT) (K : (List (JT)) → Prop) : Prop :=
 ∃ k, rpll11 xl xt K k false 0 ([] : List (JT))
theorem rpl_ok {g : Ghost} {axl_0 : Option Addr} {cxl_0 : Nat} (xl : List (JT)) (xt : JT) (hRxl_0 : Rep g (.slice (.pair (.int .i64) (.pair (.int .i64) (.pair (.int .i64) (.pair (.int .i64) (.str)))))) [.slice axl_0 xl.length cxl_0] xl) (K : (List (JT)) → Prop)
  (hF : rplF xl xt K) : CallsH Try.prog 55 #[.slice axl_0 xl.length cxl_0, .agg #[.int .i64 xt.1, .int .i64 xt.2.1, .int .i64 xt.2.2.1, .int .i64 xt.2.2.2.1, sv xt.2.2.2.2]] g [] (fun g' H' v => ∃ (r0 : List (JT)), ∃ (ar0_0 : Option Addr) (cr0_0 : Nat), v = .slice ar0_0 r0.length cr0_0 ∧ Rep g' (.slice (.pair (.int .i64) (.pair (.int .i64) (.pair (.int .i64) (.pair (.int .i64) (.str)))))) [.slice ar0_0 r0.length cr0_0] r0 ∧ H' = [] ∧ K r0) := by
 refine CallsH.enter 54 [(0, .slice axl_0 xl.length cxl_0), (1, .agg #[.int .i64 xt.1, .int .i64 xt.2.1, .int .i64 xt.2.2.1, .int .i64 xt.2.2.2.1, sv xt.2.2.2.2])] Try.func55 rfl (by kernel_rfl) (by kernel_rfl) (by kernel_rfl) fun w0 => ?_
 refine Ok.seq (Ok.region (Ok.op rfl (OpOk.box (v := .agg #[.int .i64 xt.1, .int .i64 xt.2.1, .int .i64 xt.2.2.1, .int .i64 xt.2.2.2.1, sv xt.2.2.2.2]) (cs := #[.int .i64 xt.1, .int .i64 xt.2.1, .int .i64 xt.2.2.1, .int .i64 xt.2.2.2.1, sv xt.2.2.2.2]) rfl (by kernel_rfl) rfl fun bs3 => ?_)))
 refine Ok.batch 1 [(0, .slice axl_0 xl.length cxl_0), (3, pv bs3 0)] (by kernel_rfl) (Ok.nil (Ok.thenN (Ok.seq (Ok.region (Ok.bat 1 [0, 3] [(5, .slice none 0 0)] ?_)))))
 have hL2 : RepL g (.pair (.int .i64) (.pair (.int .i64) (.pair (.int .i64) (.pair (.int .i64) (.str))))) [] [] := rfl
 refine Ok.ownNil 93 5 (Ok.nil (Ok.thenN (Ok.seq (Ok.region (Ok.bat 1 [0, 3] [(5, .slice none ([] : List (JT)).length 0), (6, .bool false)] ?_)))))
 refine Ok.nil (Ok.thenN (Ok.seq (Ok.seq (Ok.region (Ok.bat 3 [3, 5, 6] [(9, .slice axl_0 xl.length cxl_0), (10, .int .i64 (xl.length : Int)), (11, .int .i64 0)] ?_)))))
 refine Ok.nil (Ok.thenN (Ok.block ?_))
 obtain ⟨k, hF⟩ := hF
 refine Ok.loop (fun k a W => ∃ gl11 : Ghost, Gext w0 g gl11 ∧ ∃ (x6l11 : Bool) (x11l11 : Int) (ayown2_0l11 : Option Addr) (cyown2_0l11 : Nat) (yown2_0l11 : List (JT)) (xsyown2_0l11 : List Value), RepL gl11 (.pair (.int .i64) (.pair (.int .i64) (.pair (.int .i64) (.pair (.int .i64) (.str))))) xsyown2_0l11 yown2_0l11 ∧ StA 54 [(3, pv bs3 0), (5, .slice ayown2_0l11 yown2_0l11.length cyown2_0l11), (6, .bool x6l11), (9, .slice axl_0 xl.length cxl_0), (10, .int .i64 (xl.length : Int)), (11, .int .i64 x11l11)] a ∧ StW w0 [.own (.slice ayown2_0l11 yown2_0l11.length cyown2_0l11) 93 5 yown2_0l11.length xsyown2_0l11, .blk bs3 (.cells #[.int .i64 xt.1, .int .i64 xt.2.1, .int .i64 xt.2.2.1, .int .i64 xt.2.2.2.1, sv xt.2.2.2.2] 93)] gl11 W ∧ rpll11 xl xt K k x6l11 x11l11 yown2_0l11) k ?_ ?_
 ·
  exact fun a W hA hW => ⟨g, (Gext.refl w0 g), false, 0, none, 0, ([] : List (JT)), [], hL2, hA.sub (by kernel_rfl), hW, hF⟩
 ·
  clear hF
  rintro k11 a W ⟨gl11, hxl11, x6l11, x11l11, ayown2_0l11, cyown2_0l11, yown2_0l11, xsyown2_0l11, hLyown2_0l11, hA, hW, hF⟩
  cases k11 with
  | zero => exact (hF : False).elim
  | succ k11 =>
   refine (?_ : Ok _ _ _ _ _ _) a W hA hW
   clear hA hW
   replace hRxl_0 := hRxl_0.mono hxl11.1
   refine Ok.seq (Ok.region (Ok.bat 1 [3, 5, 6, 9, 10, 11] [(12, .bool (decide (x11l11 < (xl.length : Int))))] ?_))
   refine Ok.nil (Ok.thenN (Ok.seq (Ok.cond (b := decide (x11l11 < (xl.length : Int))) rfl (fun hc3 => ?_) (fun hc3 => ?_))))
   ·replace hF := hF.1 hc3
    refine Ok.skip (Ok.thenN (Ok.seq (Ok.block (Ok.seq (Ok.region ?_)))))
    obtain ⟨h05, h15, hF⟩ := hF
    have he5 := get_of (l := xl) (default : JT) h15
    generalize hg5 : (xl.getD (Int.toNat x11l11) default) = e5 at he5 hF ⊢
    refine Ok.op rfl (OpOk.indexRo (e := .pair (.int .i64) (.pair (.int .i64) (.pair (.int .i64) (.pair (.int .i64) (.str))))) (i := x11l11) (el := e5) rfl rfl Try.underlying35 (by kernel_rfl) hRxl_0 h05 he5 rfl fun q4 o4 cs4 _ hat4 hr4 => ?_)
    obtain ⟨_, _, rfl, rfl, ⟨_, _, rfl, rfl, ⟨_, _, rfl, rfl, ⟨_, _, rfl, rfl, rfl⟩⟩⟩⟩ := hr4
    replace hat4 : At gl11 q4 o4 [.int .i64 e5.1, .int .i64 e5.2.1, .int .i64 e5.2.2.1, .int .i64 e5.2.2.2.1, sv e5.2.2.2.2] := hat4
    refine Ok.op rfl (OpOk.step (v := .agg #[.int .i64 e5.1, .int .i64 e5.2.1, .int .i64 e5.2.2.1, .int .i64 e5.2.2.2.1, sv e5.2.2.2.2]) (Yields.loadAggRo 0 5 #[.int .i64 e5.1, .int .i64 e5.2.1, .int .i64 e5.2.2.1, .int .i64 e5.2.2.2.1, sv e5.2.2.2.2] hat4 (by kernel_rfl) Try.underlying93 rfl (by kernel_rfl) (by kernel_rfl) (by kernel_rfl)) rfl rfl (Ok.op rfl (OpOk.alloc (z := .agg #[.int .i64 0, .int .i64 0, .int .i64 0, .int .i64 0, sv ([] : Bs)]) (cs := #[.int .i64 0, .int .i64 0, .int .i64 0, .int .i64 0, sv ([] : Bs)]) (by kernel_rfl) (by kernel_rfl) rfl fun bs8 => ?_)))
    refine Ok.op rfl (OpOk.sto (k := 5) (v := .agg #[.int .i64 e5.1, .int .i64 e5.2.1, .int .i64 e5.2.2.1, .int .i64 e5.2.2.2.1, sv e5.2.2.2.2]) 0 #[.int .i64 e5.1, .int .i64 e5.2.1, .int .i64 e5.2.2.1, .int .i64 e5.2.2.2.1, sv e5.2.2.2.2] rfl rfl rfl ?_)
    refine Ok.nil (Ok.thenN (Ok.cut (fun a W => ∃ gj22 : Ghost, Gext w0 gl11 gj22 ∧ ∃ (ayown2_0j22 : Option Addr) (cyown2_0j22 : Nat) (xsyown2_0j22 : List Value), RepL gj22 (.pair (.int .i64) (.pair (.int .i64) (.pair (.int .i64) (.pair (.int .i64) (.str))))) xsyown2_0j22 (rplV3 xt e5 x6l11 yown2_0l11) ∧ StA 54 [(3, pv bs3 0), (5, .slice ayown2_0j22 (rplV3 xt e5 x6l11 yown2_0l11).length cyown2_0j22), (6, .bool ((rplV2 xt e5 x6l11) || x6l11)), (8, pv bs8 0), (9, .slice axl_0 xl.length cxl_0), (10, .int .i64 (xl.length : Int)), (11, .int .i64 x11l11)] a ∧ StW w0 [.blk bs8 (.cells #[.int .i64 e5.1, .int .i64 e5.2.1, .int .i64 e5.2.2.1, .int .i64 e5.2.2.2.1, sv e5.2.2.2.2] 93), .own (.slice ayown2_0j22 (rplV3 xt e5 x6l11 yown2_0l11).length cyown2_0j22) 93 5 (rplV3 xt e5 x6l11 yown2_0l11).length xsyown2_0j22, .blk bs3 (.cells #[.int .i64 xt.1, .int .i64 xt.2.1, .int .i64 xt.2.2.1, .int .i64 xt.2.2.2.1, sv xt.2.2.2.2] 93)] gj22 W ∧ rplj22 xl xt e5 x6l11 x11l11 yown2_0l11 (rpll11 xl xt K k11)) ?_ ?_))
    ·
     refine Ok.cut (fun a W => ∃ gj23 : Ghost, Gext w0 gl11 gj23 ∧ StA 54 [(3, pv bs3 0), (5, .slice ayown2_0l11 yown2_0l11.length cyown2_0l11), (6, .bool x6l11), (8, pv bs8 0), (9, .slice axl_0 xl.length cxl_0), (10, .int .i64 (xl.length : Int)), (11, .int .i64 x11l11), (37, .bool (rplV2 xt e5 x6l11))] a ∧ StW w0 [.blk bs8 (.cells #[.int .i64 e5.1, .int .i64 e5.2.1, .int .i64 e5.2.2.1, .int .i64 e5.2.2.2.1, sv e5.2.2.2.2] 93), .own (.slice ayown2_0l11 yown2_0l11.length cyown2_0l11) 93 5 yown2_0l11.length xsyown2_0l11, .blk bs3 (.cells #[.int .i64 xt.1, .int .i64 xt.2.1, .int .i64 xt.2.2.1, .int .i64 xt.2.2.2.1, sv xt.2.2.2.2] 93)] gj23 W ∧ rplj23 xl xt e5 x6l11 x11l11 yown2_0l11 (rpll11 xl xt K k11)) ?_ ?_
     ·
      refine Ok.region (Ok.bat 3 [3, 5, 6, 9, 10, 11] [(8, pv bs8 0), (17, .bool (!x6l11))] ?_)
      refine Ok.boolAt 17 (!x6l11) rfl (fun hc12 => ?_) (fun hc12 => ?_)
      ·replace hF := hF.1 hc12
       refine Ok.bat 1 [3, 5, 6, 8, 9, 10, 11] [(17, .bool true), (18, pv bs8 1)] ?_
       refine Ok.opYes (j := 2) (d := 17) (want := true) (b := true) rfl (by kernel_rfl) (by kernel_rfl) rfl (OpOk.step (v := .int .i64 e5.2.1) (Yields.load 0 rfl rfl Try.underlying3 rfl (by kernel_rfl)) rfl rfl (Ok.bat 1 [3, 5, 6, 8, 9, 10, 11, 17] [(19, .int .i64 e5.2.1), (20, pv bs3 1)] ?_))
       refine Ok.opYes (j := 2) (d := 17) (want := true) (b := true) rfl (by kernel_rfl) (by kernel_rfl) rfl (OpOk.step (v := .int .i64 xt.2.1) (Yields.load 2 rfl rfl Try.underlying3 rfl (by kernel_rfl)) rfl rfl (Ok.bat 2 [3, 5, 6, 8, 9, 10, 11, 17] [(23, .bool (decide (e5.2.1 > xt.2.1)))] ?_))
       refine Ok.boolAt 23 (decide (e5.2.1 > xt.2.1)) rfl (fun hc13 => ?_) (fun hc13 => ?_)
       ·replace hF := hF.1 hc13
        refine Ok.bat 14 [3, 5, 6, 8, 9, 10, 11] [(37, .bool true)] ?_
        refine Ok.nil (Ok.thenN (Ok.reval 37 rfl (show (.bool true : Value) = .bool (rplV2 xt e5 x6l11) from congrArg (Value.bool) ((Eq.trans (mor_t hc13) (mand_t hc12)))) ?_))
        exact fun a W hA hW => ⟨gl11, (Gext.refl w0 gl11), hA.sub (by kernel_rfl), hW, hF⟩
       ·replace hF := hF.2 hc13
        refine Ok.bat 1 [3, 5, 6, 8, 9, 10, 11, 17] [(23, .bool false), (24, pv bs8 1)] ?_
        refine Ok.opYes (j := 8) (d := 23) (want := false) (b := false) rfl (by kernel_rfl) (by kernel_rfl) rfl (OpOk.step (v := .int .i64 e5.2.1) (Yields.load 0 rfl rfl Try.underlying3 rfl (by kernel_rfl)) rfl rfl (Ok.bat 1 [3, 5, 6, 8, 9, 10, 11, 17, 23] [(25, .int .i64 e5.2.1), (26, pv bs3 1)] ?_))
        refine Ok.opYes (j := 8) (d := 23) (want := false) (b := false) rfl (by kernel_rfl) (by kernel_rfl) rfl (OpOk.step (v := .int .i64 xt.2.1) (Yields.load 2 rfl rfl Try.underlying3 rfl (by kernel_rfl)) rfl rfl (Ok.bat 2 [3, 5, 6, 8, 9, 10, 11, 17, 23] [(29, .bool (e5.2.1 == xt.2.1))] ?_))
        refine Ok.boolAt 29 ((e5.2.1 == xt.2.1)) rfl (fun hc14 => ?_) (fun hc14 => ?_)
        ·replace hF := hF.1 hc14
         refine Ok.bat 1 [3, 5, 6, 8, 9, 10, 11, 17, 23] [(29, .bool true), (30, pv bs8 0)] ?_
         refine Ok.opYes (j := 14) (d := 29) (want := true) (b := true) rfl (by kernel_rfl) (by kernel_rfl) rfl (OpOk.step (v := .int .i64 e5.1) (Yields.load 0 rfl rfl Try.underlying3 rfl (by kernel_rfl)) rfl rfl (Ok.bat 1 [3, 5, 6, 8, 9, 10, 11, 17, 23, 29] [(31, .int .i64 e5.1), (32, pv bs3 0)] ?_))
         refine Ok.opYes (j := 14) (d := 29) (want := true) (b := true) rfl (by kernel_rfl) (by kernel_rfl) rfl (OpOk.step (v := .int .i64 xt.1) (Yields.load 2 rfl rfl Try.underlying3 rfl (by kernel_rfl)) rfl rfl (Ok.bat 4 [3, 5, 6, 8, 9, 10, 11] [(37, .bool (decide (e5.1 > xt.1)))] ?_))
         refine Ok.nil (Ok.thenN (Ok.reval 37 rfl (show (.bool (decide (e5.1 > xt.1)) : Value) = .bool (rplV2 xt e5 x6l11) from congrArg (Value.bool) ((Eq.trans ((Eq.trans (mand_t hc14) (mor_f hc13))) (mand_t hc12)))) ?_))
         exact fun a W hA hW => ⟨gl11, (Gext.refl w0 gl11), hA.sub (by kernel_rfl), hW, hF⟩
        ·replace hF := hF.2 hc14
         refine Ok.bat 8 [3, 5, 6, 8, 9, 10, 11] [(37, .bool false)] ?_
         refine Ok.nil (Ok.thenN (Ok.reval 37 rfl (show (.bool false : Value) = .bool (rplV2 xt e5 x6l11) from congrArg (Value.bool) ((Eq.trans ((Eq.trans (mand_f hc14) (mor_f hc13))) (mand_t hc12)))) ?_))
         exact fun a W hA hW => ⟨gl11, (Gext.refl w0 gl11), hA.sub (by kernel_rfl), hW, hF⟩
      ·replace hF := hF.2 hc12
       refine Ok.bat 20 [3, 5, 6, 8, 9, 10, 11] [(37, .bool false)] ?_
       refine Ok.nil (Ok.thenN (Ok.reval 37 rfl (show (.bool false : Value) = .bool (rplV2 xt e5 x6l11) from congrArg (Value.bool) (mand_f hc12)) ?_))
       exact fun a W hA hW => ⟨gl11, (Gext.refl w0 gl11), hA.sub (by kernel_rfl), hW, hF⟩
     ·
      clear hF
      rintro a W ⟨gj23, hxj23, hA, hW, hF⟩
      refine (?_ : Ok _ _ _ _ _ _) a W hA hW
      clear hA hW
      replace hLyown2_0l11 := hLyown2_0l11.mono hxj23.1
      replace hRxl_0 := hRxl_0.mono hxj23.1
      refine Ok.cond (b := (rplV2 xt e5 x6l11)) rfl (fun hc9 => ?_) (fun hc9 => ?_)
      ·replace hF := hF.1 hc9
       refine Ok.region (Ok.bat 1 [3, 8, 9, 10, 11] [(38, .slice ayown2_0l11 yown2_0l11.length cyown2_0l11)] ?_)
       refine Ok.op rfl (OpOk.step (v := .agg #[.int .i64 xt.1, .int .i64 xt.2.1, .int .i64 xt.2.2.1, .int .i64 xt.2.2.2.1, sv xt.2.2.2.2]) (Yields.loadAgg 2 5 #[.int .i64 xt.1, .int .i64 xt.2.1, .int .i64 xt.2.2.1, .int .i64 xt.2.2.2.1, sv xt.2.2.2.2] rfl rfl Try.underlying93 rfl (by kernel_rfl) (by kernel_rfl) (by kernel_rfl)) rfl rfl ?_)
       have hL10 : RepL gj23 (.pair (.int .i64) (.pair (.int .i64) (.pair (.int .i64) (.pair (.int .i64) (.str))))) ([.int .i64 xt.1, .int .i64 xt.2.1, .int .i64 xt.2.2.1, .int .i64 xt.2.2.2.1, sv xt.2.2.2.2] : List Value) ([xt] : List (JT)) := (RepL.consN (c := [.int .i64 xt.1, .int .i64 xt.2.1, .int .i64 xt.2.2.1, .int .i64 xt.2.2.2.1, sv xt.2.2.2.2]) ⟨[.int .i64 xt.1], [.int .i64 xt.2.1, .int .i64 xt.2.2.1, .int .i64 xt.2.2.2.1, sv xt.2.2.2.2], rfl, rfl, ⟨[.int .i64 xt.2.1], [.int .i64 xt.2.2.1, .int .i64 xt.2.2.2.1, sv xt.2.2.2.2], rfl, rfl, ⟨[.int .i64 xt.2.2.1], [.int .i64 xt.2.2.2.1, sv xt.2.2.2.2], rfl, rfl, ⟨[.int .i64 xt.2.2.2.1], [sv xt.2.2.2.2], rfl, rfl, rfl⟩⟩⟩⟩ rfl)
       refine Ok.op rfl (OpOk.lit (E := 93) (.pair (.int .i64) (.pair (.int .i64) (.pair (.int .i64) (.pair (.int .i64) (.str))))) ([xt] : List (JT)) ([.int .i64 xt.1, .int .i64 xt.2.1, .int .i64 xt.2.2.1, .int .i64 xt.2.2.2.1, sv xt.2.2.2.2] : List Value) (by kernel_rfl) (by kernel_rfl) rfl (by kernel_rfl) hL10 rfl fun b10 => ?_)
       obtain ⟨hb11, hF⟩ := hF
       refine Ok.op rfl (OpOk.append' (e := .pair (.int .i64) (.pair (.int .i64) (.pair (.int .i64) (.pair (.int .i64) (.str))))) 48 2932031007402 2 0 rfl rfl rfl rfl hLyown2_0l11 hL10 Try.underlying35 (by kernel_rfl) (by kernel_rfl) (by kernel_rfl) hb11 rfl fun a11 c11 xs11 hL11 => ?_)
       refine Ok.bat 2 [3, 8, 9, 10, 11] [(5, .slice a11 (yown2_0l11 ++ ([xt] : List (JT))).length c11), (6, .bool true)] ?_
       refine Ok.nil (Ok.thenN (Ok.reval 5 rfl (show (.slice a11 (yown2_0l11 ++ ([xt] : List (JT))).length c11 : Value) = .slice a11 (rplV3 xt e5 x6l11 yown2_0l11).length c11 from congrArg (fun l : List (JT) => Value.slice a11 l.length c11) ((if_t hc9).symm)) ?_))
       refine Ok.reval 6 rfl (show (.bool true : Value) = .bool ((rplV2 xt e5 x6l11) || x6l11) from congrArg (Value.bool) (mor_t hc9)) (Ok.entEq 2 (e' := .own (.slice a11 (rplV3 xt e5 x6l11 yown2_0l11).length c11) 93 5 (rplV3 xt e5 x6l11 yown2_0l11).length xs11) rfl (congrArg (fun l : List (JT) => Ent.own (.slice a11 l.length c11) 93 5 l.length xs11) ((if_t hc9).symm)) ?_)
       exact fun a W hA hW => ⟨gj23, hxj23, a11, c11, xs11, (Eq.mp (congrArg (fun l : List (JT) => RepL gj23 (.pair (.int .i64) (.pair (.int .i64) (.pair (.int .i64) (.pair (.int .i64) (.str))))) xs11 l) ((if_t hc9).symm)) hL11), hA.sub (by kernel_rfl), hW.sub (.cons _ (.cons_cons _ (.cons_cons _ (.cons_cons _ .slnil)))), hF⟩
      ·replace hF := hF.2 hc9
       refine Ok.skip (Ok.thenN (Ok.reval 5 rfl (show (.slice ayown2_0l11 yown2_0l11.length cyown2_0l11 : Value) = .slice ayown2_0l11 (rplV3 xt e5 x6l11 yown2_0l11).length cyown2_0l11 from congrArg (fun l : List (JT) => Value.slice ayown2_0l11 l.length cyown2_0l11) ((if_f hc9).symm)) ?_))
       refine Ok.reval 6 rfl (show (.bool x6l11 : Value) = .bool ((rplV2 xt e5 x6l11) || x6l11) from congrArg (Value.bool) (mor_f hc9)) (Ok.entEq 1 (e' := .own (.slice ayown2_0l11 (rplV3 xt e5 x6l11 yown2_0l11).length cyown2_0l11) 93 5 (rplV3 xt e5 x6l11 yown2_0l11).length xsyown2_0l11) rfl (congrArg (fun l : List (JT) => Ent.own (.slice ayown2_0l11 l.length cyown2_0l11) 93 5 l.length xsyown2_0l11) ((if_f hc9).symm)) ?_)
       exact fun a W hA hW => ⟨gj23, hxj23, ayown2_0l11, cyown2_0l11, xsyown2_0l11, (Eq.mp (congrArg (fun l : List (JT) => RepL gj23 (.pair (.int .i64) (.pair (.int .i64) (.pair (.int .i64) (.pair (.int .i64) (.str))))) xsyown2_0l11 l) ((if_f hc9).symm)) hLyown2_0l11), hA.sub (by kernel_rfl), hW, hF⟩
    ·
     clear hF
     rintro a W ⟨gj22, hxj22, ayown2_0j22, cyown2_0j22, xsyown2_0j22, hLyown2_0j22, hA, hW, hF⟩
     refine (?_ : Ok _ _ _ _ _ _) a W hA hW
     clear hA hW
     replace hRxl_0 := hRxl_0.mono hxj22.1
     refine Ok.region (Ok.bat 1 [3, 6, 8, 9, 10, 11] [(42, .slice ayown2_0j22 (rplV3 xt e5 x6l11 yown2_0l11).length cyown2_0j22)] ?_)
     refine Ok.op rfl (OpOk.step (v := .agg #[.int .i64 e5.1, .int .i64 e5.2.1, .int .i64 e5.2.2.1, .int .i64 e5.2.2.2.1, sv e5.2.2.2.2]) (Yields.loadAgg 0 5 #[.int .i64 e5.1, .int .i64 e5.2.1, .int .i64 e5.2.2.1, .int .i64 e5.2.2.2.1, sv e5.2.2.2.2] rfl rfl Try.underlying93 rfl (by kernel_rfl) (by kernel_rfl) (by kernel_rfl)) rfl rfl ?_)
     have hL7 : RepL gj22 (.pair (.int .i64) (.pair (.int .i64) (.pair (.int .i64) (.pair (.int .i64) (.str))))) ([.int .i64 e5.1, .int .i64 e5.2.1, .int .i64 e5.2.2.1, .int .i64 e5.2.2.2.1, sv e5.2.2.2.2] : List Value) ([e5] : List (JT)) := (RepL.consN (c := [.int .i64 e5.1, .int .i64 e5.2.1, .int .i64 e5.2.2.1, .int .i64 e5.2.2.2.1, sv e5.2.2.2.2]) ⟨[.int .i64 e5.1], [.int .i64 e5.2.1, .int .i64 e5.2.2.1, .int .i64 e5.2.2.2.1, sv e5.2.2.2.2], rfl, rfl, ⟨[.int .i64 e5.2.1], [.int .i64 e5.2.2.1, .int .i64 e5.2.2.2.1, sv e5.2.2.2.2], rfl, rfl, ⟨[.int .i64 e5.2.2.1], [.int .i64 e5.2.2.2.1, sv e5.2.2.2.2], rfl, rfl, ⟨[.int .i64 e5.2.2.2.1], [sv e5.2.2.2.2], rfl, rfl, rfl⟩⟩⟩⟩ rfl)
     refine Ok.op rfl (OpOk.lit (E := 93) (.pair (.int .i64) (.pair (.int .i64) (.pair (.int .i64) (.pair (.int .i64) (.str))))) ([e5] : List (JT)) ([.int .i64 e5.1, .int .i64 e5.2.1, .int .i64 e5.2.2.1, .int .i64 e5.2.2.2.1, sv e5.2.2.2.2] : List Value) (by kernel_rfl) (by kernel_rfl) rfl (by kernel_rfl) hL7 rfl fun b7 => ?_)
     obtain ⟨hb8, hF⟩ := hF
     refine Ok.op rfl (OpOk.append' (e := .pair (.int .i64) (.pair (.int .i64) (.pair (.int .i64) (.pair (.int .i64) (.str))))) 48 2932031007402 2 0 rfl rfl rfl rfl hLyown2_0j22 hL7 Try.underlying35 (by kernel_rfl) (by kernel_rfl) (by kernel_rfl) hb8 rfl fun a8 c8 xs8 hL8 => ?_)
     refine Ok.bat 1 [3, 6, 9, 10, 11] [(5, .slice a8 ((rplV3 xt e5 x6l11 yown2_0l11) ++ ([e5] : List (JT))).length c8)] ?_
     refine Ok.nil (Ok.blockN (Ok.thenN (Ok.region (Ok.bat 2 [3, 5, 6, 9, 10] [(11, .int .i64 (w6 (x11l11 + 1)))] ?_))))
     refine Ok.nil (Ok.thenN ?_)
     subst hg5
     exact fun a W hA hW => ⟨k11, Nat.lt_succ_self _, gj22, (hxl11.trans hxj22), ((rplV2 xt (xl.getD (Int.toNat x11l11) default) x6l11) || x6l11), w6 (x11l11 + 1), a8, c8, ((rplV3 xt (xl.getD (Int.toNat x11l11) default) x6l11 yown2_0l11) ++ ([(xl.getD (Int.toNat x11l11) default)] : List (JT))), xs8, hL8, hA.sub (by kernel_rfl), hW.sub (.cons _ (.cons _ (.cons_cons _ (.cons_cons _ .slnil)))), hF⟩
   ·replace hF := hF.2 hc3
    refine Ok.exit (Ok.thenE (Ok.thenE (Ok.blockHit (Ok.thenN (Ok.cut (fun a W => ∃ gj30 : Ghost, Gext w0 gl11 gj30 ∧ ∃ (ayown2_0j30 : Option Addr) (cyown2_0j30 : Nat) (xsyown2_0j30 : List Value), RepL gj30 (.pair (.int .i64) (.pair (.int .i64) (.pair (.int .i64) (.pair (.int .i64) (.str))))) xsyown2_0j30 (rplV4 xt x6l11 yown2_0l11) ∧ StA 54 [(5, .slice ayown2_0j30 (rplV4 xt x6l11 yown2_0l11).length cyown2_0j30)] a ∧ StW w0 [.own (.slice ayown2_0j30 (rplV4 xt x6l11 yown2_0l11).length cyown2_0j30) 93 5 (rplV4 xt x6l11 yown2_0l11).length xsyown2_0j30] gj30 W ∧ rplj30 xt K x6l11 yown2_0l11) ?_ ?_)))))
    ·
     refine Ok.seq (Ok.region (Ok.bat 2 [3, 5] [(48, .bool (!x6l11))] ?_))
     refine Ok.nil (Ok.thenN (Ok.cond (b := !x6l11) rfl (fun hc16 => ?_) (fun hc16 => ?_)))
     ·replace hF := hF.1 hc16
      refine Ok.region (Ok.bat 1 [3] [(49, .slice ayown2_0l11 yown2_0l11.length cyown2_0l11)] ?_)
      refine Ok.op rfl (OpOk.step (v := .agg #[.int .i64 xt.1, .int .i64 xt.2.1, .int .i64 xt.2.2.1, .int .i64 xt.2.2.2.1, sv xt.2.2.2.2]) (Yields.loadAgg 1 5 #[.int .i64 xt.1, .int .i64 xt.2.1, .int .i64 xt.2.2.1, .int .i64 xt.2.2.2.1, sv xt.2.2.2.2] rfl rfl Try.underlying93 rfl (by kernel_rfl) (by kernel_rfl) (by kernel_rfl)) rfl rfl ?_)
      have hL17 : RepL gl11 (.pair (.int .i64) (.pair (.int .i64) (.pair (.int .i64) (.pair (.int .i64) (.str))))) ([.int .i64 xt.1, .int .i64 xt.2.1, .int .i64 xt.2.2.1, .int .i64 xt.2.2.2.1, sv xt.2.2.2.2] : List Value) ([xt] : List (JT)) := (RepL.consN (c := [.int .i64 xt.1, .int .i64 xt.2.1, .int .i64 xt.2.2.1, .int .i64 xt.2.2.2.1, sv xt.2.2.2.2]) ⟨[.int .i64 xt.1], [.int .i64 xt.2.1, .int .i64 xt.2.2.1, .int .i64 xt.2.2.2.1, sv xt.2.2.2.2], rfl, rfl, ⟨[.int .i64 xt.2.1], [.int .i64 xt.2.2.1, .int .i64 xt.2.2.2.1, sv xt.2.2.2.2], rfl, rfl, ⟨[.int .i64 xt.2.2.1], [.int .i64 xt.2.2.2.1, sv xt.2.2.2.2], rfl, rfl, ⟨[.int .i64 xt.2.2.2.1], [sv xt.2.2.2.2], rfl, rfl, rfl⟩⟩⟩⟩ rfl)
      refine Ok.op rfl (OpOk.lit (E := 93) (.pair (.int .i64) (.pair (.int .i64) (.pair (.int .i64) (.pair (.int .i64) (.str))))) ([xt] : List (JT)) ([.int .i64 xt.1, .int .i64 xt.2.1, .int .i64 xt.2.2.1, .int .i64 xt.2.2.2.1, sv xt.2.2.2.2] : List Value) (by kernel_rfl) (by kernel_rfl) rfl (by kernel_rfl) hL17 rfl fun b17 => ?_)
      obtain ⟨hb18, hF⟩ := hF
      refine Ok.op rfl (OpOk.append' (e := .pair (.int .i64) (.pair (.int .i64) (.pair (.int .i64) (.pair (.int .i64) (.str))))) 48 2932031007402 1 0 rfl rfl rfl rfl hLyown2_0l11 hL17 Try.underlying35 (by kernel_rfl) (by kernel_rfl) (by kernel_rfl) hb18 rfl fun a18 c18 xs18 hL18 => ?_)
      refine Ok.batch 1 [(5, .slice a18 (yown2_0l11 ++ ([xt] : List (JT))).length c18)] (by kernel_rfl) (Ok.nil (Ok.thenN (Ok.reval 5 rfl (show (.slice a18 (yown2_0l11 ++ ([xt] : List (JT))).length c18 : Value) = .slice a18 (rplV4 xt x6l11 yown2_0l11).length c18 from congrArg (fun l : List (JT) => Value.slice a18 l.length c18) ((if_t hc16).symm)) ?_)))
      refine Ok.entEq 1 (e' := .own (.slice a18 (rplV4 xt x6l11 yown2_0l11).length c18) 93 5 (rplV4 xt x6l11 yown2_0l11).length xs18) rfl (congrArg (fun l : List (JT) => Ent.own (.slice a18 l.length c18) 93 5 l.length xs18) ((if_t hc16).symm)) ?_
      exact fun a W hA hW => ⟨gl11, (Gext.refl w0 gl11), a18, c18, xs18, (Eq.mp (congrArg (fun l : List (JT) => RepL gl11 (.pair (.int .i64) (.pair (.int .i64) (.pair (.int .i64) (.pair (.int .i64) (.str))))) xs18 l) ((if_t hc16).symm)) hL18), hA.sub (by kernel_rfl), hW.sub (.cons _ (.cons_cons _ (.cons _ .slnil))), hF⟩
     ·replace hF := hF.2 hc16
      refine Ok.skip (Ok.thenN (Ok.reval 5 rfl (show (.slice ayown2_0l11 yown2_0l11.length cyown2_0l11 : Value) = .slice ayown2_0l11 (rplV4 xt x6l11 yown2_0l11).length cyown2_0l11 from congrArg (fun l : List (JT) => Value.slice ayown2_0l11 l.length cyown2_0l11) ((if_f hc16).symm)) ?_))
      refine Ok.entEq 0 (e' := .own (.slice ayown2_0l11 (rplV4 xt x6l11 yown2_0l11).length cyown2_0l11) 93 5 (rplV4 xt x6l11 yown2_0l11).length xsyown2_0l11) rfl (congrArg (fun l : List (JT) => Ent.own (.slice ayown2_0l11 l.length cyown2_0l11) 93 5 l.length xsyown2_0l11) ((if_f hc16).symm)) ?_
      exact fun a W hA hW => ⟨gl11, (Gext.refl w0 gl11), ayown2_0l11, cyown2_0l11, xsyown2_0l11, (Eq.mp (congrArg (fun l : List (JT) => RepL gl11 (.pair (.int .i64) (.pair (.int .i64) (.pair (.int .i64) (.pair (.int .i64) (.str))))) xsyown2_0l11 l) ((if_f hc16).symm)) hLyown2_0l11), hA.sub (by kernel_rfl), hW.sub (.cons_cons _ (.cons _ .slnil)), hF⟩
    ·
     clear hF
     rintro a W ⟨gj30, hxj30, ayown2_0j30, cyown2_0j30, xsyown2_0j30, hLyown2_0j30, hA, hW, hF⟩
     refine (?_ : Ok _ _ _ _ _ _) a W hA hW
     clear hA hW
     refine Ok.seq (Ok.region (Ok.batch 2 [(4, .slice ayown2_0j30 (rplV4 xt x6l11 yown2_0l11).length cyown2_0j30)] (by kernel_rfl) (Ok.nil (Ok.thenN (Ok.ret (Ok.frz 0 rfl hLyown2_0j30 fun g15 hx15 hRf15 => ?_))))))
     exact Ok.resH (vs := [.slice ayown2_0j30 (rplV4 xt x6l11 yown2_0l11).length cyown2_0j30]) (.inl rfl) rfl (.cons (.tmp rfl) .nil) ((hxl11.trans hxj30).trans hx15) ⟨(rplV4 xt x6l11 yown2_0l11), ayown2_0j30, cyown2_0j30, rfl, hRf15, rfl, hF⟩
theorem rpl_F (l : List JT) (t : JT) (hp : l.length ≤ 1000) : rplF l t (fun r => r = llaS l t) := by
 have loop : ∀ (k i : Nat) (d : Bool) (acc : List JT), i + k = l.length → (acc.length ≤ i + 1 ∧ (d = false → acc.length ≤ i)) → acc ++ (if d = true then l.drop i else llaS (l.drop i) t) = llaS l t → rpll11 l t (fun r => r = llaS l t) (k + 1) d (i : Int) acc := by
  intro k
  induction k with
  | zero =>
   intro i d acc hi ⟨ha, hb⟩ h
   rw [List.drop_of_length_le (by omega)] at h
   refine ⟨fun hh => by have := of_decide_eq_true hh; omega, fun _ => ?_⟩
   cases d with
   | false => exact ⟨fun _ => ⟨by rw [List.length_append, List.length_singleton]; omega, h⟩, fun hh => by simp at hh⟩
   | true =>
    refine ⟨fun hh => by simp at hh, fun _ => ?_⟩
    rw [if_pos rfl, List.append_nil] at h
    exact h
  | succ k ih =>
   intro i d acc hi ⟨ha, hb⟩ h
   have hil : i < l.length := by omega
   rw [drop_get default hil] at h
   have j22 : rplj22 l t (l.getD (Int.toNat (i : Int)) default) d (i : Int) acc (rpll11 l t (fun r => r = llaS l t) (k + 1)) := by
    unfold rplj22
    rw [w64 (by omega), Int.toNat_natCast]
    generalize l.getD i default = e at h
    have hV : rplV2 t e d = (!d && aft e t) := rfl
    cases d with
    | true =>
     have h3 : rplV3 t e true acc = acc := rfl
     rw [h3]
     refine ⟨by rw [List.length_append, List.length_singleton]; omega, ih (i + 1) _ _ (by omega) ⟨by rw [List.length_append, List.length_singleton]; omega, fun hh => by rw [hV, Bool.or_true] at hh; cases hh⟩ ?_⟩
     rw [if_pos rfl] at h
     rw [hV, Bool.or_true, if_pos rfl, List.append_assoc]
     exact h
    | false =>
     have hb := hb rfl
     unfold rplV3
     rw [hV, Bool.or_false, Bool.not_false, Bool.true_and]
     rw [if_neg (by simp), llaS] at h
     cases ha2 : aft e t with
     | true =>
      rw [ha2, if_pos rfl] at h
      rw [if_pos rfl]
      refine ⟨by rw [List.length_append, List.length_append, List.length_singleton, List.length_singleton]; omega, ih (i + 1) _ _ (by omega) ⟨by rw [List.length_append, List.length_append, List.length_singleton, List.length_singleton]; omega, fun hh => by cases hh⟩ ?_⟩
      rw [if_pos rfl, List.append_assoc, List.append_assoc]
      exact h
     | false =>
      rw [ha2, if_neg (by simp)] at h
      rw [if_neg (by simp)]
      refine ⟨by rw [List.length_append, List.length_singleton]; omega, ih (i + 1) _ _ (by omega) ⟨by rw [List.length_append, List.length_singleton]; omega, fun _ => by rw [List.length_append, List.length_singleton]; omega⟩ ?_⟩
      rw [if_neg (by simp), List.append_assoc]
      exact h
   have j23 : rplj23 l t (l.getD (Int.toNat (i : Int)) default) d (i : Int) acc (rpll11 l t (fun r => r = llaS l t) (k + 1)) := ⟨fun _ => ⟨by rw [List.length_append, List.length_singleton]; omega, j22⟩, fun _ => j22⟩
   exact ⟨fun _ => ⟨by omega, by rw [Int.toNat_natCast]; exact hil, fun _ => ⟨fun _ => j23, fun _ => ⟨fun _ => j23, fun _ => j23⟩⟩, fun _ => j23⟩, fun hh => by have := of_decide_eq_false hh; omega⟩
 exact ⟨l.length + 1, loop l.length 0 false [] (by omega) ⟨by simp, fun _ => by simp⟩ (by rw [if_neg (by simp), List.nil_append, List.drop_zero])⟩
def rplP (l : List JT) (_ : JT) : Prop := l.length ≤ 1000
theorem rpl_c {g : Ghost} {axl_0 : Option Addr} {cxl_0 : Nat} (xl : List (Int × Int × Int × Int × Bs)) (xt : Int × Int × Int × Int × Bs) (hRxl_0 : Rep g (.slice (.pair (.int .i64) (.pair (.int .i64) (.pair (.int .i64) (.pair (.int .i64) (.str)))))) [.slice axl_0 xl.length cxl_0] xl)  (hp : rplP xl xt) : CallsH Try.prog 55 #[.slice axl_0 xl.length cxl_0, .agg #[.int .i64 xt.1, .int .i64 xt.2.1, .int .i64 xt.2.2.1, .int .i64 xt.2.2.2.1, sv xt.2.2.2.2]] g [] (fun g' H' v => ∃ (ar0_0 : Option Addr) (cr0_0 : Nat), v = .slice ar0_0 (llaS xl xt).length cr0_0 ∧ Rep g' (.slice (.pair (.int .i64) (.pair (.int .i64) (.pair (.int .i64) (.pair (.int .i64) (.str)))))) [.slice ar0_0 (llaS xl xt).length cr0_0] (llaS xl xt) ∧ H' = []) :=
 (rpl_ok xl xt hRxl_0 _ (rpl_F xl xt hp)).mono (by rintro g' H' v _ ⟨r0, ar0_0, cr0_0, rfl, hRr0_0, rfl, hK⟩; subst hK; exact ⟨ar0_0, cr0_0, rfl, hRr0_0, rfl⟩)
def rlaV0 (xq : JL) : Bool :=
 ((decide ((xq.2.2.1.length : Int) < 100)) && (decide (xq.2.1 < 1000000000)))
def rlaV1 (xq : JL) : Bool :=
 ((decide ((xq.2.2.2.1.length : Int) < 100)) && (decide (xq.2.1 < 1000000000)))
def rlaV2 (xq : JL) (xa : Int × Int × Int × Bs × Int × Int × Bs) : Bool :=
 ((!(rbtM xa.2.2.1 (w6 (xa.1 - 3)) 1000000)) || (decide ((w6 (xq.1 + xa.2.2.1)) > 1000000000)))
def rlaV3 (xq : JL) : Bool :=
 ((decide ((xq.2.2.2.2.length : Int) < 100)) && (decide (xq.2.1 < 1000000000)))
def rlaV8 (xq : JL) (xa : Int × Int × Int × Bs × Int × Int × Bs) (x144l86 : Int) (yown94_0l86 : List (JT)) : List (JT) :=
 (if ((xq.2.2.2.2.getD (Int.toNat x144l86) default).1 != xa.2.2.1) = true then (yown94_0l86 ++ ([(xq.2.2.2.2.getD (Int.toNat x144l86) default)] : List (JT))) else yown94_0l86)
def rlaj3i39 (xq : JL) (xa : Int × Int × Int × Bs × Int × Int × Bs) (K : (JL) → Int → Int → Prop) : Prop :=
 ((!(rlaV0 xq)) = true → K (0, 0, ([] : List (JJ)), ([] : List (JJ)), ([] : List (JT))) 0 2) ∧ ((!(rlaV0 xq)) = false → (jclP xq.2.2.1 ∧ ((jclS xq.2.2.1) ++ ([(xq.2.1, xa.2.1, false, xa.2.2.2.1, xa.2.2.2.2)] : List (JJ))).length ≤ 1954687338268 ∧ K (xq.1, w6 (xq.2.1 + 1), ((jclS xq.2.2.1) ++ ([(xq.2.1, xa.2.1, false, xa.2.2.2.1, xa.2.2.2.2)] : List (JJ))), xq.2.2.2.1, xq.2.2.2.2) xq.2.1 0) ∧ (jclP xq.2.2.1 ∧ ((jclS xq.2.2.1) ++ ([(xq.2.1, xa.2.1, false, xa.2.2.2.1, xa.2.2.2.2)] : List (JJ))).length ≤ 1954687338268 ∧ K (xq.1, w6 (xq.2.1 + 1), ((jclS xq.2.2.1) ++ ([(xq.2.1, xa.2.1, false, xa.2.2.2.1, xa.2.2.2.2)] : List (JJ))), xq.2.2.2.1, xq.2.2.2.2) xq.2.1 0))
def rlaj3i66 (xq : JL) (xa : Int × Int × Int × Bs × Int × Int × Bs) (K : (JL) → Int → Int → Prop) : Prop :=
 ((!(rlaV1 xq)) = true → K (0, 0, ([] : List (JJ)), ([] : List (JJ)), ([] : List (JT))) 0 2) ∧ ((!(rlaV1 xq)) = false → (jclP xq.2.2.2.1 ∧ ((jclS xq.2.2.2.1) ++ ([(xq.2.1, 0, true, xa.2.2.2.1, xa.2.2.2.2)] : List (JJ))).length ≤ 1954687338268 ∧ K (xq.1, w6 (xq.2.1 + 1), xq.2.2.1, ((jclS xq.2.2.2.1) ++ ([(xq.2.1, 0, true, xa.2.2.2.1, xa.2.2.2.2)] : List (JJ))), xq.2.2.2.2) xq.2.1 0) ∧ (jclP xq.2.2.2.1 ∧ ((jclS xq.2.2.2.1) ++ ([(xq.2.1, 0, true, xa.2.2.2.1, xa.2.2.2.2)] : List (JJ))).length ≤ 1954687338268 ∧ K (xq.1, w6 (xq.2.1 + 1), xq.2.2.1, ((jclS xq.2.2.2.1) ++ ([(xq.2.1, 0, true, xa.2.2.2.1, xa.2.2.2.2)] : List (JJ))), xq.2.2.2.2) xq.2.1 0))
def rlaj3i127 (xq : JL) (xa : Int × Int × Int × Bs × Int × Int × Bs) (K : (JL) → Int → Int → Prop) : Prop :=
 ((!(rlaV3 xq)) = true → K (0, 0, ([] : List (JJ)), ([] : List (JJ)), ([] : List (JT))) 0 2) ∧ ((!(rlaV3 xq)) = false → rplP xq.2.2.2.2 (xq.2.1, w6 (xq.1 + xa.2.2.1), (if (xa.1 == 4) = true then xa.2.2.1 else 0), 0, xa.2.2.2.1) ∧ K (xq.1, w6 (xq.2.1 + 1), xq.2.2.1, xq.2.2.2.1, (llaS xq.2.2.2.2 (xq.2.1, w6 (xq.1 + xa.2.2.1), (if (xa.1 == 4) = true then xa.2.2.1 else 0), 0, xa.2.2.2.1))) xq.2.1 0)
def rlaj61 (xq : JL) (xa : Int × Int × Int × Bs × Int × Int × Bs) (K : (JL) → Int → Int → Prop) : Prop :=
 (((rlaV2 xq xa)) = true → K (0, 0, ([] : List (JJ)), ([] : List (JJ)), ([] : List (JT))) 0 1) ∧ (((rlaV2 xq xa)) = false → ((decide ((xq.2.2.2.2.length : Int) < 100)) = true → rlaj3i127 xq xa K) ∧ ((decide ((xq.2.2.2.2.length : Int) < 100)) = false → rlaj3i127 xq xa K))
def rlaj54 (xq : JL) (xa : Int × Int × Int × Bs × Int × Int × Bs) (K : (JL) → Int → Int → Prop) : Prop :=
 ((!(rbtM xa.2.2.1 (w6 (xa.1 - 3)) 1000000)) = true → rlaj61 xq xa K) ∧ ((!(rbtM xa.2.2.1 (w6 (xa.1 - 3)) 1000000)) = false → rlaj61 xq xa K)
def rlaj93 (xq : JL) (xa : Int × Int × Int × Bs × Int × Int × Bs) (x144l86 : Int) (yown94_0l86 : List (JT)) (C86 : Int → (List (JT)) → Prop) : Prop :=
 C86 (w6 (x144l86 + 1)) (rlaV8 xq xa x144l86 yown94_0l86)
def rlal86b (xq : JL) (xa : Int × Int × Int × Bs × Int × Int × Bs) (K : (JL) → Int → Int → Prop) (x144l86 : Int) (yown94_0l86 : List (JT)) (C86 : Int → (List (JT)) → Prop) : Prop :=
 ((decide (x144l86 < (xq.2.2.2.2.length : Int))) = true → (0 : Int) ≤ x144l86 ∧ Int.toNat x144l86 < xq.2.2.2.2.length ∧ ((((xq.2.2.2.2.getD (Int.toNat x144l86) default).1 != xa.2.2.1)) = true → (yown94_0l86 ++ ([(xq.2.2.2.2.getD (Int.toNat x144l86) default)] : List (JT))).length ≤ 2932031007402 ∧ rlaj93 xq xa x144l86 yown94_0l86 C86) ∧ ((((xq.2.2.2.2.getD (Int.toNat x144l86) default).1 != xa.2.2.1)) = false → rlaj93 xq xa x144l86 yown94_0l86 C86)) ∧ ((decide (x144l86 < (xq.2.2.2.2.length : Int))) = false → ((((yown94_0l86.length : Int) == (xq.2.2.2.2.length : Int))) = true → K (0, 0, ([] : List (JJ)), ([] : List (JJ)), ([] : List (JT))) 0 5) ∧ ((((yown94_0l86.length : Int) == (xq.2.2.2.2.length : Int))) = false → K (xq.1, xq.2.1, xq.2.2.1, xq.2.2.2.1, yown94_0l86) 0 0))
def rlal86 (xq : JL) (xa : Int × Int × Int × Bs × Int × Int × Bs) (K : (JL) → Int → Int → Prop) : Nat → Int → (List (JT)) → Prop
 | 0, _, _ => False
 | k + 1, x144l86, yown94_0l86 => rlal86b xq xa K x144l86 yown94_0l86 (rlal86 xq xa K k)
def rlaj45 (xq : JL) (xa : Int × Int × Int × Bs × Int × Int × Bs) (K : (JL) → Int → Int → Prop) : Prop :=
 ((((xa.1 == 3) || (xa.1 == 4))) = true → (((xa.1 == 4)) = true → rlaj54 xq xa K) ∧ (((xa.1 == 4)) = false → rlaj54 xq xa K)) ∧ ((((xa.1 == 3) || (xa.1 == 4))) = false → (((xa.1 == 5)) = true → ∃ k, rlal86 xq xa K k 0 ([] : List (JT))) ∧ (((xa.1 == 5)) = false → K (0, 0, ([] : List (JJ)), ([] : List (JJ)), ([] : List (JT))) 0 3))
def rlaF (xq : JL) (xa : Int × Int × Int × Bs × Int × Int × Bs) (K : (JL) → Int → Int → Prop) : Prop :=
 (((xa.1 == 1)) = true → ((!(rbtM xa.2.1 1 4)) = true → K (0, 0, ([] : List (JJ)), ([] : List (JJ)), ([] : List (JT))) 0 1) ∧ ((!(rbtM xa.2.1 1 4)) = false → ((decide ((xq.2.2.1.length : Int) < 100)) = true → rlaj3i39 xq xa K) ∧ ((decide ((xq.2.2.1.length : Int) < 100)) = false → rlaj3i39 xq xa K))) ∧ (((xa.1 == 1)) = false → (((xa.1 == 2)) = true → ((decide ((xq.2.2.2.1.length : Int) < 100)) = true → rlaj3i66 xq xa K) ∧ ((decide ((xq.2.2.2.1.length : Int) < 100)) = false → rlaj3i66 xq xa K)) ∧ (((xa.1 == 2)) = false → (((xa.1 == 3)) = true → rlaj45 xq xa K) ∧ (((xa.1 == 3)) = false → rlaj45 xq xa K)))
theorem rla_ok {g : Ghost} {axq_0 : Option Addr} {cxq_0 : Nat} {axq_1 : Option Addr} {cxq_1 : Nat} {axq_2 : Option Addr} {cxq_2 : Nat} (xq : JL) (xa : Int × Int × Int × Bs × Int × Int × Bs) (hRxq_0 : Rep g (.slice (.pair (.int .i64) (.pair (.int .i64) (.pair (.bool) (.pair (.str) (.pair (.int .i64) (.pair (.int .i64) (.str)))))))) [.slice axq_0 xq.2.2.1.length cxq_0] xq.2.2.1) (hRxq_1 : Rep g (.slice (.pair (.int .i64) (.pair (.int .i64) (.pair (.bool) (.pair (.str) (.pair (.int .i64) (.pair (.int .i64) (.str)))))))) [.slice axq_1 xq.2.2.2.1.length cxq_1] xq.2.2.2.1) (hRxq_2 : Rep g (.slice (.pair (.int .i64) (.pair (.int .i64) (.pair (.int .i64) (.pair (.int .i64) (.str)))))) [.slice axq_2 xq.2.2.2.2.length cxq_2] xq.2.2.2.2) (K : (JL) → Int → Int → Prop)
  (hF : rlaF xq xa K) : CallsH Try.prog 16 #[.agg #[.int .i64 xq.1, .int .i64 xq.2.1, .slice axq_0 xq.2.2.1.length cxq_0, .slice axq_1 xq.2.2.2.1.length cxq_1, .slice axq_2 xq.2.2.2.2.length cxq_2], .agg #[.int .i64 xa.1, .int .i64 xa.2.1, .int .i64 xa.2.2.1, sv xa.2.2.2.1, .int .i64 xa.2.2.2.2.1, .int .i64 xa.2.2.2.2.2.1, sv xa.2.2.2.2.2.2]] g [] (fun g' H' v => ∃ (r0 : JL), ∃ (r1 : Int), ∃ (r2 : Int), ∃ (ar0_0 : Option Addr) (cr0_0 : Nat), ∃ (ar0_1 : Option Addr) (cr0_1 : Nat), ∃ (ar0_2 : Option Addr) (cr0_2 : Nat), v = .tuple #[.agg #[.int .i64 r0.1, .int .i64 r0.2.1, .slice ar0_0 r0.2.2.1.length cr0_0, .slice ar0_1 r0.2.2.2.1.length cr0_1, .slice ar0_2 r0.2.2.2.2.length cr0_2], .int .i64 r1, .int .i64 r2] ∧ Rep g' (.slice (.pair (.int .i64) (.pair (.int .i64) (.pair (.bool) (.pair (.str) (.pair (.int .i64) (.pair (.int .i64) (.str)))))))) [.slice ar0_0 r0.2.2.1.length cr0_0] r0.2.2.1 ∧ Rep g' (.slice (.pair (.int .i64) (.pair (.int .i64) (.pair (.bool) (.pair (.str) (.pair (.int .i64) (.pair (.int .i64) (.str)))))))) [.slice ar0_1 r0.2.2.2.1.length cr0_1] r0.2.2.2.1 ∧ Rep g' (.slice (.pair (.int .i64) (.pair (.int .i64) (.pair (.int .i64) (.pair (.int .i64) (.str)))))) [.slice ar0_2 r0.2.2.2.2.length cr0_2] r0.2.2.2.2 ∧ H' = [] ∧ K r0 r1 r2) := by
 refine CallsH.enter 178 [(0, .agg #[.int .i64 xq.1, .int .i64 xq.2.1, .slice axq_0 xq.2.2.1.length cxq_0, .slice axq_1 xq.2.2.2.1.length cxq_1, .slice axq_2 xq.2.2.2.2.length cxq_2]), (1, .agg #[.int .i64 xa.1, .int .i64 xa.2.1, .int .i64 xa.2.2.1, sv xa.2.2.2.1, .int .i64 xa.2.2.2.2.1, .int .i64 xa.2.2.2.2.2.1, sv xa.2.2.2.2.2.2])] Try.func16 rfl (by kernel_rfl) (by kernel_rfl) (by kernel_rfl) fun w0 => ?_
 refine Ok.seq (Ok.region (Ok.op rfl (OpOk.box (v := .agg #[.int .i64 xq.1, .int .i64 xq.2.1, .slice axq_0 xq.2.2.1.length cxq_0, .slice axq_1 xq.2.2.2.1.length cxq_1, .slice axq_2 xq.2.2.2.2.length cxq_2]) (cs := #[.int .i64 xq.1, .int .i64 xq.2.1, .slice axq_0 xq.2.2.1.length cxq_0, .slice axq_1 xq.2.2.2.1.length cxq_1, .slice axq_2 xq.2.2.2.2.length cxq_2]) rfl (by kernel_rfl) rfl fun bs2 => ?_)))
 refine Ok.op rfl (OpOk.box (v := .agg #[.int .i64 xa.1, .int .i64 xa.2.1, .int .i64 xa.2.2.1, sv xa.2.2.2.1, .int .i64 xa.2.2.2.2.1, .int .i64 xa.2.2.2.2.2.1, sv xa.2.2.2.2.2.2]) (cs := #[.int .i64 xa.1, .int .i64 xa.2.1, .int .i64 xa.2.2.1, sv xa.2.2.2.1, .int .i64 xa.2.2.2.2.1, .int .i64 xa.2.2.2.2.2.1, sv xa.2.2.2.2.2.2]) rfl (by kernel_rfl) rfl fun bs3 => ?_)
 have hL3 : RepL g (.pair (.int .i64) (.pair (.int .i64) (.pair (.bool) (.pair (.str) (.pair (.int .i64) (.pair (.int .i64) (.str))))))) [] [] := rfl
 refine Ok.ownNil 43 7 ?_
 have hL4 : RepL g (.pair (.int .i64) (.pair (.int .i64) (.pair (.bool) (.pair (.str) (.pair (.int .i64) (.pair (.int .i64) (.str))))))) [] [] := rfl
 refine Ok.ownNil 43 7 ?_
 have hL5 : RepL g (.pair (.int .i64) (.pair (.int .i64) (.pair (.int .i64) (.pair (.int .i64) (.str))))) [] [] := rfl
 refine Ok.ownNil 93 5 (Ok.op rfl (OpOk.alloc (z := .agg #[.int .i64 0, .int .i64 0, .slice none ([] : List (JJ)).length 0, .slice none ([] : List (JJ)).length 0, .slice none ([] : List (JT)).length 0]) (cs := #[.int .i64 0, .int .i64 0, .slice none ([] : List (JJ)).length 0, .slice none ([] : List (JJ)).length 0, .slice none ([] : List (JT)).length 0]) (by kernel_rfl) (by kernel_rfl) rfl fun bs4 => ?_))
 refine Ok.batch 2 [(2, pv bs2 0), (3, pv bs3 0), (4, pv bs4 0)] (by kernel_rfl) (Ok.nil (Ok.thenN (Ok.seq (Ok.region (Ok.bat 1 [2, 3, 4] [(7, .func (.func 52) #[] #[])] ?_)))))
 refine Ok.nil (Ok.thenN (Ok.seq (Ok.region (Ok.bat 2 [2, 3, 4, 7] [(8, .func (.func 53) #[] #[pv bs2 0])] ?_))))
 refine Ok.nil (Ok.thenN (Ok.seq (Ok.region (Ok.bat 1 [2, 3, 4, 7, 8] [(15, pv bs2 1)] ?_))))
 refine Ok.op rfl (OpOk.step (v := .int .i64 xq.2.1) (Yields.load 5 rfl rfl Try.underlying3 rfl (by kernel_rfl)) rfl rfl (Ok.bat 1 [2, 3, 4, 7, 8] [(9, .int .i64 xq.2.1)] ?_))
 refine Ok.nil (Ok.thenN (Ok.seq (Ok.seq (Ok.region (Ok.bat 1 [2, 3, 4, 7, 8, 9] [(17, pv bs3 0)] ?_)))))
 refine Ok.op rfl (OpOk.step (v := .int .i64 xa.1) (Yields.load 4 rfl rfl Try.underlying3 rfl (by kernel_rfl)) rfl rfl (Ok.nil (Ok.thenN (Ok.block (Ok.seq (Ok.region (Ok.bat 2 [2, 3, 4, 7, 8, 9] [(18, .int .i64 xa.1), (24, .bool (xa.1 == 1))] ?_)))))))
 refine Ok.nil (Ok.thenN (Ok.cond (b := (xa.1 == 1)) rfl (fun hc7 => ?_) (fun hc7 => ?_)))
 ·replace hF := hF.1 hc7
  refine Ok.seq (Ok.seq (Ok.region (Ok.bat 1 [2, 3, 4, 7, 8, 9] [(26, pv bs3 1)] ?_)))
  refine Ok.op rfl (OpOk.step (v := .int .i64 xa.2.1) (Yields.load 4 rfl rfl Try.underlying3 rfl (by kernel_rfl)) rfl rfl (Ok.op rfl (OpOk.callG (v := .bool (rbtM xa.2.1 1 4)) enr (fun W hW => rbt_c xa.2.1 1 4) rfl ?_)))
  refine Ok.bat 1 [2, 3, 4, 7, 8, 9] [(29, .bool (!(rbtM xa.2.1 1 4)))] ?_
  refine Ok.nil (Ok.thenN (Ok.cond (b := !(rbtM xa.2.1 1 4)) rfl (fun hc8 => ?_) (fun hc8 => ?_)))
  ·replace hF := hF.1 hc8
   refine Ok.seq (Ok.region (Ok.bat 1 [4] [(30, .func (.func 52) #[] #[])] ?_))
   refine Ok.op rfl (OpOk.inline (args := #[.int .i64 1]) 7 [(0, .int .i64 1)] enr Try.func52 rfl rfl rfl rfl (Ok.seq (Ok.region ?_)))
   have hL9 : RepL g (.pair (.int .i64) (.pair (.int .i64) (.pair (.bool) (.pair (.str) (.pair (.int .i64) (.pair (.int .i64) (.str))))))) [] [] := rfl
   refine Ok.ownNil 43 7 ?_
   have hL10 : RepL g (.pair (.int .i64) (.pair (.int .i64) (.pair (.bool) (.pair (.str) (.pair (.int .i64) (.pair (.int .i64) (.str))))))) [] [] := rfl
   refine Ok.ownNil 43 7 ?_
   have hL11 : RepL g (.pair (.int .i64) (.pair (.int .i64) (.pair (.int .i64) (.pair (.int .i64) (.str))))) [] [] := rfl
   refine Ok.ownNil 93 5 (Ok.op rfl (OpOk.alloc (z := .agg #[.int .i64 0, .int .i64 0, .slice none ([] : List (JJ)).length 0, .slice none ([] : List (JJ)).length 0, .slice none ([] : List (JT)).length 0]) (cs := #[.int .i64 0, .int .i64 0, .slice none ([] : List (JJ)).length 0, .slice none ([] : List (JJ)).length 0, .slice none ([] : List (JT)).length 0]) (by kernel_rfl) (by kernel_rfl) rfl fun bs2i31 => ?_))
   refine Ok.batch 2 [(0, .int .i64 1), (2, pv bs2i31 0)] (by kernel_rfl) (Ok.nil (Ok.thenN (Ok.seq (Ok.region (Ok.bat 2 [2] [(5, .agg #[.int .i64 0, .int .i64 0, .slice none 0 0, .slice none 0 0, .slice none 0 0]), (6, .int .i64 1)] ?_)))))
   have hL13 : RepL g (.pair (.int .i64) (.pair (.int .i64) (.pair (.bool) (.pair (.str) (.pair (.int .i64) (.pair (.int .i64) (.str))))))) [] [] := rfl
   refine Ok.ownNil 43 7 ?_
   have hL14 : RepL g (.pair (.int .i64) (.pair (.int .i64) (.pair (.bool) (.pair (.str) (.pair (.int .i64) (.pair (.int .i64) (.str))))))) [] [] := rfl
   refine Ok.ownNil 43 7 ?_
   have hL15 : RepL g (.pair (.int .i64) (.pair (.int .i64) (.pair (.int .i64) (.pair (.int .i64) (.str))))) [] [] := rfl
   refine Ok.ownNil 93 5 (Ok.op rfl (OpOk.sto (k := 5) (v := .agg #[.int .i64 0, .int .i64 0, .slice none ([] : List (JJ)).length 0, .slice none ([] : List (JJ)).length 0, .slice none ([] : List (JT)).length 0]) 3 #[.int .i64 0, .int .i64 0, .slice none ([] : List (JJ)).length 0, .slice none ([] : List (JJ)).length 0, .slice none ([] : List (JT)).length 0] rfl rfl rfl ?_))
   refine Ok.bat 2 [2] [(3, .int .i64 0), (4, .int .i64 1)] ?_
   refine Ok.nil (Ok.thenN (Ok.ret (Ok.back (vs := [.agg #[.int .i64 0, .int .i64 0, .slice none ([] : List (JJ)).length 0, .slice none ([] : List (JJ)).length 0, .slice none ([] : List (JT)).length 0], .int .i64 0, .int .i64 1]) (.inl rfl) rfl (.cons (.cellAgg 3 5 #[.int .i64 0, .int .i64 0, .slice none ([] : List (JJ)).length 0, .slice none ([] : List (JJ)).length 0, .slice none ([] : List (JT)).length 0] rfl rfl Try.underlying37 rfl (by kernel_rfl) (by kernel_rfl) (by kernel_rfl)) (.cons (.tmp rfl) (.cons (.tmp rfl) .nil))) rfl (Ok.batch 3 [(4, pv bs4 0), (32, .agg #[.int .i64 0, .int .i64 0, .slice none ([] : List (JJ)).length 0, .slice none ([] : List (JJ)).length 0, .slice none ([] : List (JT)).length 0]), (33, .int .i64 0), (34, .int .i64 1)] (by kernel_rfl) (Ok.op rfl (OpOk.sto (k := 5) (v := .agg #[.int .i64 0, .int .i64 0, .slice none ([] : List (JJ)).length 0, .slice none ([] : List (JJ)).length 0, .slice none ([] : List (JT)).length 0]) 7 #[.int .i64 0, .int .i64 0, .slice none ([] : List (JJ)).length 0, .slice none ([] : List (JJ)).length 0, .slice none ([] : List (JT)).length 0] rfl rfl rfl ?_))))))
   refine Ok.bat 2 [4] [(5, .int .i64 0), (6, .int .i64 1)] ?_
   refine Ok.nil (Ok.thenN (Ok.ret (Ok.thenR (Ok.blockR (Ok.thenR (Ok.frz 2 rfl hL13 fun g16 hx16 hRf16 => ?_))))))
   replace hL15 := hL15.mono hx16.1
   replace hL14 := hL14.mono hx16.1
   replace hL11 := hL11.mono hx16.1
   replace hL10 := hL10.mono hx16.1
   replace hL9 := hL9.mono hx16.1
   replace hL5 := hL5.mono hx16.1
   replace hL4 := hL4.mono hx16.1
   replace hL3 := hL3.mono hx16.1
   replace hRxq_0 := hRxq_0.mono hx16.1
   replace hRxq_1 := hRxq_1.mono hx16.1
   replace hRxq_2 := hRxq_2.mono hx16.1
   refine Ok.frz 1 rfl hL14 fun g17 hx17 hRf17 => ?_
   replace hL15 := hL15.mono hx17.1
   replace hRf16 := hRf16.mono hx17.1
   replace hL11 := hL11.mono hx17.1
   replace hL10 := hL10.mono hx17.1
   replace hL9 := hL9.mono hx17.1
   replace hL5 := hL5.mono hx17.1
   replace hL4 := hL4.mono hx17.1
   replace hL3 := hL3.mono hx17.1
   replace hRxq_0 := hRxq_0.mono hx17.1
   replace hRxq_1 := hRxq_1.mono hx17.1
   replace hRxq_2 := hRxq_2.mono hx17.1
   refine Ok.frz 0 rfl hL15 fun g18 hx18 hRf18 => ?_
   replace hRf16 := hRf16.mono hx18.1
   replace hRf17 := hRf17.mono hx18.1
   replace hL11 := hL11.mono hx18.1
   replace hL10 := hL10.mono hx18.1
   replace hL9 := hL9.mono hx18.1
   replace hL5 := hL5.mono hx18.1
   replace hL4 := hL4.mono hx18.1
   replace hL3 := hL3.mono hx18.1
   replace hRxq_0 := hRxq_0.mono hx18.1
   replace hRxq_1 := hRxq_1.mono hx18.1
   replace hRxq_2 := hRxq_2.mono hx18.1
   exact Ok.resP (vs := [.agg #[.int .i64 0, .int .i64 0, .slice none ([] : List (JJ)).length 0, .slice none ([] : List (JJ)).length 0, .slice none ([] : List (JT)).length 0], .int .i64 0, .int .i64 1]) [] [] (by decide) rfl (.inl rfl) rfl (.cons (.cellAgg 4 5 #[.int .i64 0, .int .i64 0, .slice none ([] : List (JJ)).length 0, .slice none ([] : List (JJ)).length 0, .slice none ([] : List (JT)).length 0] rfl rfl Try.underlying37 rfl (by kernel_rfl) (by kernel_rfl) (by kernel_rfl)) (.cons (.tmp rfl) (.cons (.tmp rfl) .nil))) ((hx16.trans hx17).trans hx18) ⟨(0, 0, ([] : List (JJ)), ([] : List (JJ)), ([] : List (JT))), 0, 1, none, 0, none, 0, none, 0, rfl, hRf16, hRf17, hRf18, rfl, hF⟩
  ·replace hF := hF.2 hc8
   refine Ok.skip (Ok.thenN (Ok.seq (Ok.seq (Ok.region (Ok.bat 2 [2, 3, 4, 7, 9] [(35, .func (.func 53) #[] #[pv bs2 0]), (36, pv bs2 2)] ?_)))))
   refine Ok.op rfl (OpOk.step (v := .slice axq_0 xq.2.2.1.length cxq_0) (Yields.load 5 rfl rfl Try.underlying34 rfl (by kernel_rfl)) rfl rfl (Ok.bat 1 [2, 3, 4, 7, 9, 35] [(38, .int .i64 (xq.2.2.1.length : Int))] ?_))
   refine Ok.op rfl (OpOk.inline (args := #[.int .i64 (xq.2.2.1.length : Int), pv bs2 0]) 11 [(0, .int .i64 (xq.2.2.1.length : Int)), (1, pv bs2 0)] enr Try.func53 rfl rfl rfl rfl (Ok.seq (Ok.region (Ok.batch 1 [(0, .int .i64 (xq.2.2.1.length : Int)), (1, pv bs2 0)] (by kernel_rfl) (Ok.nil (Ok.thenN (Ok.cut (fun a W => ∃ gj3i39 : Ghost, Gext w0 g gj3i39 ∧ StA 11 [(3, .bool (rlaV0 xq))] a ∧ StW w0 [.blk bs4 (.cells #[.int .i64 0, .int .i64 0, .slice none ([] : List (JJ)).length 0, .slice none ([] : List (JJ)).length 0, .slice none ([] : List (JT)).length 0] 37), .own (.slice none ([] : List (JT)).length 0) 93 5 ([] : List (JT)).length ([]), .own (.slice none ([] : List (JJ)).length 0) 43 7 ([] : List (JJ)).length ([]), .own (.slice none ([] : List (JJ)).length 0) 43 7 ([] : List (JJ)).length ([]), .blk bs3 (.cells #[.int .i64 xa.1, .int .i64 xa.2.1, .int .i64 xa.2.2.1, sv xa.2.2.2.1, .int .i64 xa.2.2.2.2.1, .int .i64 xa.2.2.2.2.2.1, sv xa.2.2.2.2.2.2] 39), .blk bs2 (.cells #[.int .i64 xq.1, .int .i64 xq.2.1, .slice axq_0 xq.2.2.1.length cxq_0, .slice axq_1 xq.2.2.2.1.length cxq_1, .slice axq_2 xq.2.2.2.2.length cxq_2] 37)] gj3i39 W ∧ rlaj3i39 xq xa K) ?_ ?_)))))))
   ·
    refine Ok.region (Ok.bat 3 [1] [(6, .bool (decide ((xq.2.2.1.length : Int) < 100)))] ?_)
    refine Ok.boolAt 6 (decide ((xq.2.2.1.length : Int) < 100)) rfl (fun hc40 => ?_) (fun hc40 => ?_)
    ·replace hF := hF.1 hc40
     refine Ok.batch 1 [(6, .bool true), (7, pv bs2 1)] (by kernel_rfl) (Ok.opYes (j := 2) (d := 6) (want := true) (b := true) rfl (by kernel_rfl) (by kernel_rfl) rfl (OpOk.step (v := .int .i64 xq.2.1) (Yields.load 5 rfl rfl Try.underlying3 rfl (by kernel_rfl)) rfl rfl (Ok.batch 3 [(3, .bool (decide (xq.2.1 < 1000000000)))] (by kernel_rfl) (Ok.nil (Ok.thenN (Ok.reval 3 rfl (show (.bool (decide (xq.2.1 < 1000000000)) : Value) = .bool (rlaV0 xq) from congrArg (Value.bool) (mand_t hc40)) ?_))))))
     exact fun a W hA hW => ⟨g, (Gext.refl w0 g), hA.sub (by kernel_rfl), hW, hF⟩
    ·replace hF := hF.2 hc40
     refine Ok.batch 5 [(3, .bool false)] (by kernel_rfl) (Ok.nil (Ok.thenN (Ok.reval 3 rfl (show (.bool false : Value) = .bool (rlaV0 xq) from congrArg (Value.bool) (mand_f hc40)) ?_)))
     exact fun a W hA hW => ⟨g, (Gext.refl w0 g), hA.sub (by kernel_rfl), hW, hF⟩
   ·
    clear hF
    rintro a W ⟨gj3i39, hxj3i39, hA, hW, hF⟩
    refine (?_ : Ok _ _ _ _ _ _) a W hA hW
    clear hA hW
    replace hL3 := hL3.mono hxj3i39.1
    replace hL4 := hL4.mono hxj3i39.1
    replace hL5 := hL5.mono hxj3i39.1
    replace hRxq_0 := hRxq_0.mono hxj3i39.1
    replace hRxq_1 := hRxq_1.mono hxj3i39.1
    replace hRxq_2 := hRxq_2.mono hxj3i39.1
    refine Ok.ret (Ok.back (vs := [.bool (rlaV0 xq)]) (.inl rfl) rfl (.cons (.tmp rfl) .nil) rfl (Ok.batch 1 [(2, pv bs2 0), (3, pv bs3 0), (4, pv bs4 0), (7, .func (.func 52) #[] #[]), (9, .int .i64 xq.2.1), (40, .bool (!(rlaV0 xq)))] (by kernel_rfl) (Ok.nil (Ok.thenN (Ok.cond (b := !(rlaV0 xq)) rfl (fun hc19 => ?_) (fun hc19 => ?_))))))
    ·replace hF := hF.1 hc19
     refine Ok.seq (Ok.region (Ok.bat 1 [4] [(41, .func (.func 52) #[] #[])] ?_))
     refine Ok.op rfl (OpOk.inline (args := #[.int .i64 2]) 7 [(0, .int .i64 2)] enr Try.func52 rfl rfl rfl rfl (Ok.seq (Ok.region ?_)))
     have hL20 : RepL gj3i39 (.pair (.int .i64) (.pair (.int .i64) (.pair (.bool) (.pair (.str) (.pair (.int .i64) (.pair (.int .i64) (.str))))))) [] [] := rfl
     refine Ok.ownNil 43 7 ?_
     have hL21 : RepL gj3i39 (.pair (.int .i64) (.pair (.int .i64) (.pair (.bool) (.pair (.str) (.pair (.int .i64) (.pair (.int .i64) (.str))))))) [] [] := rfl
     refine Ok.ownNil 43 7 ?_
     have hL22 : RepL gj3i39 (.pair (.int .i64) (.pair (.int .i64) (.pair (.int .i64) (.pair (.int .i64) (.str))))) [] [] := rfl
     refine Ok.ownNil 93 5 (Ok.op rfl (OpOk.alloc (z := .agg #[.int .i64 0, .int .i64 0, .slice none ([] : List (JJ)).length 0, .slice none ([] : List (JJ)).length 0, .slice none ([] : List (JT)).length 0]) (cs := #[.int .i64 0, .int .i64 0, .slice none ([] : List (JJ)).length 0, .slice none ([] : List (JJ)).length 0, .slice none ([] : List (JT)).length 0]) (by kernel_rfl) (by kernel_rfl) rfl fun bs2i42 => ?_))
     refine Ok.batch 2 [(0, .int .i64 2), (2, pv bs2i42 0)] (by kernel_rfl) (Ok.nil (Ok.thenN (Ok.seq (Ok.region (Ok.bat 2 [2] [(5, .agg #[.int .i64 0, .int .i64 0, .slice none 0 0, .slice none 0 0, .slice none 0 0]), (6, .int .i64 2)] ?_)))))
     have hL24 : RepL gj3i39 (.pair (.int .i64) (.pair (.int .i64) (.pair (.bool) (.pair (.str) (.pair (.int .i64) (.pair (.int .i64) (.str))))))) [] [] := rfl
     refine Ok.ownNil 43 7 ?_
     have hL25 : RepL gj3i39 (.pair (.int .i64) (.pair (.int .i64) (.pair (.bool) (.pair (.str) (.pair (.int .i64) (.pair (.int .i64) (.str))))))) [] [] := rfl
     refine Ok.ownNil 43 7 ?_
     have hL26 : RepL gj3i39 (.pair (.int .i64) (.pair (.int .i64) (.pair (.int .i64) (.pair (.int .i64) (.str))))) [] [] := rfl
     refine Ok.ownNil 93 5 (Ok.op rfl (OpOk.sto (k := 5) (v := .agg #[.int .i64 0, .int .i64 0, .slice none ([] : List (JJ)).length 0, .slice none ([] : List (JJ)).length 0, .slice none ([] : List (JT)).length 0]) 3 #[.int .i64 0, .int .i64 0, .slice none ([] : List (JJ)).length 0, .slice none ([] : List (JJ)).length 0, .slice none ([] : List (JT)).length 0] rfl rfl rfl ?_))
     refine Ok.bat 2 [2] [(3, .int .i64 0), (4, .int .i64 2)] ?_
     refine Ok.nil (Ok.thenN (Ok.ret (Ok.back (vs := [.agg #[.int .i64 0, .int .i64 0, .slice none ([] : List (JJ)).length 0, .slice none ([] : List (JJ)).length 0, .slice none ([] : List (JT)).length 0], .int .i64 0, .int .i64 2]) (.inl rfl) rfl (.cons (.cellAgg 3 5 #[.int .i64 0, .int .i64 0, .slice none ([] : List (JJ)).length 0, .slice none ([] : List (JJ)).length 0, .slice none ([] : List (JT)).length 0] rfl rfl Try.underlying37 rfl (by kernel_rfl) (by kernel_rfl) (by kernel_rfl)) (.cons (.tmp rfl) (.cons (.tmp rfl) .nil))) rfl (Ok.batch 3 [(4, pv bs4 0), (43, .agg #[.int .i64 0, .int .i64 0, .slice none ([] : List (JJ)).length 0, .slice none ([] : List (JJ)).length 0, .slice none ([] : List (JT)).length 0]), (44, .int .i64 0), (45, .int .i64 2)] (by kernel_rfl) (Ok.op rfl (OpOk.sto (k := 5) (v := .agg #[.int .i64 0, .int .i64 0, .slice none ([] : List (JJ)).length 0, .slice none ([] : List (JJ)).length 0, .slice none ([] : List (JT)).length 0]) 7 #[.int .i64 0, .int .i64 0, .slice none ([] : List (JJ)).length 0, .slice none ([] : List (JJ)).length 0, .slice none ([] : List (JT)).length 0] rfl rfl rfl ?_))))))
     refine Ok.bat 2 [4] [(5, .int .i64 0), (6, .int .i64 2)] ?_
     refine Ok.nil (Ok.thenN (Ok.ret (Ok.thenR (Ok.blockR (Ok.thenR (Ok.frz 2 rfl hL24 fun g27 hx27 hRf27 => ?_))))))
     replace hL26 := hL26.mono hx27.1
     replace hL25 := hL25.mono hx27.1
     replace hL22 := hL22.mono hx27.1
     replace hL21 := hL21.mono hx27.1
     replace hL20 := hL20.mono hx27.1
     replace hL5 := hL5.mono hx27.1
     replace hL4 := hL4.mono hx27.1
     replace hL3 := hL3.mono hx27.1
     replace hRxq_0 := hRxq_0.mono hx27.1
     replace hRxq_1 := hRxq_1.mono hx27.1
     replace hRxq_2 := hRxq_2.mono hx27.1
     refine Ok.frz 1 rfl hL25 fun g28 hx28 hRf28 => ?_
     replace hL26 := hL26.mono hx28.1
     replace hRf27 := hRf27.mono hx28.1
     replace hL22 := hL22.mono hx28.1
     replace hL21 := hL21.mono hx28.1
     replace hL20 := hL20.mono hx28.1
     replace hL5 := hL5.mono hx28.1
     replace hL4 := hL4.mono hx28.1
     replace hL3 := hL3.mono hx28.1
     replace hRxq_0 := hRxq_0.mono hx28.1
     replace hRxq_1 := hRxq_1.mono hx28.1
     replace hRxq_2 := hRxq_2.mono hx28.1
     refine Ok.frz 0 rfl hL26 fun g29 hx29 hRf29 => ?_
     replace hRf27 := hRf27.mono hx29.1
     replace hRf28 := hRf28.mono hx29.1
     replace hL22 := hL22.mono hx29.1
     replace hL21 := hL21.mono hx29.1
     replace hL20 := hL20.mono hx29.1
     replace hL5 := hL5.mono hx29.1
     replace hL4 := hL4.mono hx29.1
     replace hL3 := hL3.mono hx29.1
     replace hRxq_0 := hRxq_0.mono hx29.1
     replace hRxq_1 := hRxq_1.mono hx29.1
     replace hRxq_2 := hRxq_2.mono hx29.1
     exact Ok.resP (vs := [.agg #[.int .i64 0, .int .i64 0, .slice none ([] : List (JJ)).length 0, .slice none ([] : List (JJ)).length 0, .slice none ([] : List (JT)).length 0], .int .i64 0, .int .i64 2]) [] [] (by decide) rfl (.inl rfl) rfl (.cons (.cellAgg 4 5 #[.int .i64 0, .int .i64 0, .slice none ([] : List (JJ)).length 0, .slice none ([] : List (JJ)).length 0, .slice none ([] : List (JT)).length 0] rfl rfl Try.underlying37 rfl (by kernel_rfl) (by kernel_rfl) (by kernel_rfl)) (.cons (.tmp rfl) (.cons (.tmp rfl) .nil))) (((hxj3i39.trans hx27).trans hx28).trans hx29) ⟨(0, 0, ([] : List (JJ)), ([] : List (JJ)), ([] : List (JT))), 0, 2, none, 0, none, 0, none, 0, rfl, hRf27, hRf28, hRf29, rfl, hF⟩
    ·replace hF := hF.2 hc19
     refine Ok.skip (Ok.thenN (Ok.fork [0, 1, 3, 5, 7, 9, 10] [2, 11] [.blk bs4 (.cells #[.int .i64 0, .int .i64 0, .slice none ([] : List (JJ)).length 0, .slice none ([] : List (JJ)).length 0, .slice none ([] : List (JT)).length 0] 37), .own (.slice none ([] : List (JT)).length 0) 93 5 ([] : List (JT)).length ([]), .own (.slice none ([] : List (JJ)).length 0) 43 7 ([] : List (JJ)).length ([]), .own (.slice none ([] : List (JJ)).length 0) 43 7 ([] : List (JJ)).length ([]), .blk bs3 (.cells #[.int .i64 xa.1, .int .i64 xa.2.1, .int .i64 xa.2.2.1, sv xa.2.2.2.1, .int .i64 xa.2.2.2.2.1, .int .i64 xa.2.2.2.2.2.1, sv xa.2.2.2.2.2.2] 39)] [(0, true), (1, true), (3, true), (4, true), (5, true), (6, true), (7, true), (8, true), (9, true), (10, true)] 2 [(11, false), (12, false), (13, true), (14, false)] 11 [(2, false), (12, false), (13, true), (14, false)] (by kernel_rfl) (by kernel_rfl) (.cons_cons _ (.cons_cons _ (.cons_cons _ (.cons_cons _ (.cons_cons _ (.cons _ .slnil)))))) (OkM.bat 1 [2, 3, 4, 9] [(46, pv bs2 2)] ?_)))
     refine OkM.head rfl rfl rfl (OpQ.step (v := .slice axq_0 xq.2.2.1.length cxq_0) (Yields.load 5 rfl rfl Try.underlying34 rfl (by kernel_rfl)) rfl rfl (OkM.bat 2 [2, 3, 4, 9] [(47, .slice axq_0 xq.2.2.1.length cxq_0), (49, .int .i64 xq.2.1), (50, pv bs3 1)] ?_))
     refine OkM.head rfl rfl rfl (OpQ.step (v := .int .i64 xa.2.1) (Yields.load 4 rfl rfl Try.underlying3 rfl (by kernel_rfl)) rfl rfl (OkM.bat 1 [2, 3, 4, 9, 47, 49] [(51, .int .i64 xa.2.1), (52, pv bs3 3)] ?_))
     refine OkM.head rfl rfl rfl (OpQ.step (v := sv xa.2.2.2.1) (Yields.load 4 rfl rfl Try.underlying9 rfl (by kernel_rfl)) rfl rfl (OkM.bat 1 [2, 4, 9, 47, 49, 51] [(53, sv xa.2.2.2.1), (54, pv bs3 4)] ?_))
     refine OkM.head rfl rfl rfl (OpQ.step (v := .agg #[.int .i64 xa.2.2.2.2.1, .int .i64 xa.2.2.2.2.2.1, sv xa.2.2.2.2.2.2]) (Yields.loadAgg 4 3 #[.int .i64 xa.2.2.2.2.1, .int .i64 xa.2.2.2.2.2.1, sv xa.2.2.2.2.2.2] rfl rfl Try.underlying24 rfl (by kernel_rfl) (by kernel_rfl) (by kernel_rfl)) rfl rfl (OkM.bat 1 [2, 4, 9, 47] [(56, .agg #[.int .i64 xq.2.1, .int .i64 xa.2.1, .bool false, sv xa.2.2.2.1, .int .i64 xa.2.2.2.2.1, .int .i64 xa.2.2.2.2.2.1, sv xa.2.2.2.2.2.2])] ?_))
     refine OkM.nil (Ok.both ?_ ?_)
     ·replace hF := hF.1
      obtain ⟨hp30, hF⟩ := hF
      refine OkM.tail rfl rfl (OpOk.callH [] _ enr rfl (jcl_c xq.2.2.1 hRxq_0 hp30) rfl fun g31 _ _ hx31 hV31 => ?_)
      obtain ⟨a31_0, c31_0, xs31_0, rfl, hL31_0, rfl⟩ := hV31
      replace hRxq_0 := hRxq_0.mono hx31.1
      replace hL3 := hL3.mono hx31.1
      replace hL4 := hL4.mono hx31.1
      replace hL5 := hL5.mono hx31.1
      replace hRxq_1 := hRxq_1.mono hx31.1
      replace hRxq_2 := hRxq_2.mono hx31.1
      refine OkM.leaf (i := 2) rfl hx31.1 (.cons _ (.cons_cons _ (.cons_cons _ (.cons_cons _ (.cons_cons _ (.cons_cons _ (.cons_cons _ .slnil))))))) ?_
      have hL32 : RepL g31 (.pair (.int .i64) (.pair (.int .i64) (.pair (.bool) (.pair (.str) (.pair (.int .i64) (.pair (.int .i64) (.str))))))) ([.int .i64 xq.2.1, .int .i64 xa.2.1, .bool false, sv xa.2.2.2.1, .int .i64 xa.2.2.2.2.1, .int .i64 xa.2.2.2.2.2.1, sv xa.2.2.2.2.2.2] : List Value) ([(xq.2.1, xa.2.1, false, xa.2.2.2.1, xa.2.2.2.2)] : List (JJ)) := (RepL.consN (c := [.int .i64 xq.2.1, .int .i64 xa.2.1, .bool false, sv xa.2.2.2.1, .int .i64 xa.2.2.2.2.1, .int .i64 xa.2.2.2.2.2.1, sv xa.2.2.2.2.2.2]) ⟨[.int .i64 xq.2.1], [.int .i64 xa.2.1, .bool false, sv xa.2.2.2.1, .int .i64 xa.2.2.2.2.1, .int .i64 xa.2.2.2.2.2.1, sv xa.2.2.2.2.2.2], rfl, rfl, ⟨[.int .i64 xa.2.1], [.bool false, sv xa.2.2.2.1, .int .i64 xa.2.2.2.2.1, .int .i64 xa.2.2.2.2.2.1, sv xa.2.2.2.2.2.2], rfl, rfl, ⟨[.bool false], [sv xa.2.2.2.1, .int .i64 xa.2.2.2.2.1, .int .i64 xa.2.2.2.2.2.1, sv xa.2.2.2.2.2.2], rfl, rfl, ⟨[sv xa.2.2.2.1], [.int .i64 xa.2.2.2.2.1, .int .i64 xa.2.2.2.2.2.1, sv xa.2.2.2.2.2.2], rfl, rfl, ⟨[.int .i64 xa.2.2.2.2.1], [.int .i64 xa.2.2.2.2.2.1, sv xa.2.2.2.2.2.2], rfl, rfl, ⟨[.int .i64 xa.2.2.2.2.2.1], [sv xa.2.2.2.2.2.2], rfl, rfl, rfl⟩⟩⟩⟩⟩⟩ rfl)
      refine OkM.tail rfl rfl (OpOk.lit (E := 43) (.pair (.int .i64) (.pair (.int .i64) (.pair (.bool) (.pair (.str) (.pair (.int .i64) (.pair (.int .i64) (.str))))))) ([(xq.2.1, xa.2.1, false, xa.2.2.2.1, xa.2.2.2.2)] : List (JJ)) ([.int .i64 xq.2.1, .int .i64 xa.2.1, .bool false, sv xa.2.2.2.1, .int .i64 xa.2.2.2.2.1, .int .i64 xa.2.2.2.2.2.1, sv xa.2.2.2.2.2.2] : List Value) (by kernel_rfl) (by kernel_rfl) rfl (by kernel_rfl) hL32 rfl fun b32 => ?_)
      refine OkM.leaf (i := 11) rfl hx31.1 (.cons _ (.cons _ (.cons_cons _ (.cons_cons _ (.cons_cons _ (.cons_cons _ (.cons_cons _ (.cons_cons _ .slnil)))))))) ?_
      obtain ⟨hb33, hF⟩ := hF
      refine OkM.tail rfl rfl (OpOk.append' (e := .pair (.int .i64) (.pair (.int .i64) (.pair (.bool) (.pair (.str) (.pair (.int .i64) (.pair (.int .i64) (.str))))))) 72 1954687338268 1 0 rfl rfl rfl rfl hL31_0 hL32 Try.underlying34 (by kernel_rfl) (by kernel_rfl) (by kernel_rfl) hb33 rfl fun a33 c33 xs33 hL33 => ?_)
      refine OkM.leaf (i := 12) rfl hx31.1 (.cons _ (.cons _ (.cons_cons _ (.cons_cons _ (.cons_cons _ (.cons_cons _ (.cons_cons _ (.cons _ .slnil)))))))) (OkM.bat 1 [2, 4, 9] [(58, .slice a33 ((jclS xq.2.2.1) ++ ([(xq.2.1, xa.2.1, false, xa.2.2.2.1, xa.2.2.2.2)] : List (JJ))).length c33), (59, pv bs2 2)] ?_)
      refine OkM.tail rfl rfl (OpOk.sto (k := 1) (v := .slice a33 ((jclS xq.2.2.1) ++ ([(xq.2.1, xa.2.1, false, xa.2.2.2.1, xa.2.2.2.2)] : List (JJ))).length c33) 7 #[.int .i64 xq.1, .int .i64 xq.2.1, .slice a33 ((jclS xq.2.2.1) ++ ([(xq.2.1, xa.2.1, false, xa.2.2.2.1, xa.2.2.2.2)] : List (JJ))).length c33, .slice axq_1 xq.2.2.2.1.length cxq_1, .slice axq_2 xq.2.2.2.2.length cxq_2] rfl rfl rfl ?_)
      refine OkM.leaf (i := 14) rfl hx31.1 (.cons _ (.cons _ (.cons_cons _ (.cons_cons _ (.cons_cons _ (.cons_cons _ (.cons_cons _ (.cons _ .slnil)))))))) (OkM.nil (Ok.blockN (Ok.thenN (Ok.seq (Ok.region (Ok.bat 1 [2, 4, 9] [(172, pv bs2 1)] ?_))))))
      refine Ok.op rfl (OpOk.step (v := .int .i64 xq.2.1) (Yields.load 7 rfl rfl Try.underlying3 rfl (by kernel_rfl)) rfl rfl (Ok.bat 2 [2, 4, 9] [(174, .int .i64 (w6 (xq.2.1 + 1))), (175, pv bs2 1)] ?_))
      refine Ok.op rfl (OpOk.sto (k := 1) (v := .int .i64 (w6 (xq.2.1 + 1))) 7 #[.int .i64 xq.1, .int .i64 (w6 (xq.2.1 + 1)), .slice a33 ((jclS xq.2.2.1) ++ ([(xq.2.1, xa.2.1, false, xa.2.2.2.1, xa.2.2.2.2)] : List (JJ))).length c33, .slice axq_1 xq.2.2.2.1.length cxq_1, .slice axq_2 xq.2.2.2.2.length cxq_2] rfl rfl rfl ?_)
      refine Ok.nil (Ok.thenN (Ok.seq (Ok.region (Ok.op rfl (OpOk.step (v := .agg #[.int .i64 xq.1, .int .i64 (w6 (xq.2.1 + 1)), .slice a33 ((jclS xq.2.2.1) ++ ([(xq.2.1, xa.2.1, false, xa.2.2.2.1, xa.2.2.2.2)] : List (JJ))).length c33, .slice axq_1 xq.2.2.2.1.length cxq_1, .slice axq_2 xq.2.2.2.2.length cxq_2]) (Yields.loadAgg 7 5 #[.int .i64 xq.1, .int .i64 (w6 (xq.2.1 + 1)), .slice a33 ((jclS xq.2.2.1) ++ ([(xq.2.1, xa.2.1, false, xa.2.2.2.1, xa.2.2.2.2)] : List (JJ))).length c33, .slice axq_1 xq.2.2.2.1.length cxq_1, .slice axq_2 xq.2.2.2.2.length cxq_2] rfl rfl Try.underlying37 rfl (by kernel_rfl) (by kernel_rfl) (by kernel_rfl)) rfl rfl (Ok.bat 1 [4] [(176, .agg #[.int .i64 xq.1, .int .i64 (w6 (xq.2.1 + 1)), .slice a33 ((jclS xq.2.2.1) ++ ([(xq.2.1, xa.2.1, false, xa.2.2.2.1, xa.2.2.2.2)] : List (JJ))).length c33, .slice axq_1 xq.2.2.2.1.length cxq_1, .slice axq_2 xq.2.2.2.2.length cxq_2]), (177, .int .i64 xq.2.1)] ?_))))))
      refine Ok.op rfl (OpOk.sto (k := 5) (v := .agg #[.int .i64 xq.1, .int .i64 (w6 (xq.2.1 + 1)), .slice a33 ((jclS xq.2.2.1) ++ ([(xq.2.1, xa.2.1, false, xa.2.2.2.1, xa.2.2.2.2)] : List (JJ))).length c33, .slice axq_1 xq.2.2.2.1.length cxq_1, .slice axq_2 xq.2.2.2.2.length cxq_2]) 2 #[.int .i64 xq.1, .int .i64 (w6 (xq.2.1 + 1)), .slice a33 ((jclS xq.2.2.1) ++ ([(xq.2.1, xa.2.1, false, xa.2.2.2.1, xa.2.2.2.2)] : List (JJ))).length c33, .slice axq_1 xq.2.2.2.1.length cxq_1, .slice axq_2 xq.2.2.2.2.length cxq_2] rfl rfl rfl ?_)
      refine Ok.bat 2 [4] [(5, .int .i64 xq.2.1), (6, .int .i64 0)] ?_
      refine Ok.nil (Ok.thenN (Ok.ret (Ok.frz 1 rfl hL33 fun g34 hx34 hRf34 => ?_)))
      replace hL32 := hL32.mono hx34.1
      replace hRxq_1 := hRxq_1.mono hx34.1
      replace hRxq_2 := hRxq_2.mono hx34.1
      replace hL5 := hL5.mono hx34.1
      replace hL4 := hL4.mono hx34.1
      replace hL3 := hL3.mono hx34.1
      exact Ok.resP (vs := [.agg #[.int .i64 xq.1, .int .i64 (w6 (xq.2.1 + 1)), .slice a33 ((jclS xq.2.2.1) ++ ([(xq.2.1, xa.2.1, false, xa.2.2.2.1, xa.2.2.2.2)] : List (JJ))).length c33, .slice axq_1 xq.2.2.2.1.length cxq_1, .slice axq_2 xq.2.2.2.2.length cxq_2], .int .i64 xq.2.1, .int .i64 0]) [] [] (by decide) rfl (.inl rfl) rfl (.cons (.cellAgg 1 5 #[.int .i64 xq.1, .int .i64 (w6 (xq.2.1 + 1)), .slice a33 ((jclS xq.2.2.1) ++ ([(xq.2.1, xa.2.1, false, xa.2.2.2.1, xa.2.2.2.2)] : List (JJ))).length c33, .slice axq_1 xq.2.2.2.1.length cxq_1, .slice axq_2 xq.2.2.2.2.length cxq_2] rfl rfl Try.underlying37 rfl (by kernel_rfl) (by kernel_rfl) (by kernel_rfl)) (.cons (.tmp rfl) (.cons (.tmp rfl) .nil))) ((hxj3i39.trans hx31).trans hx34) ⟨(xq.1, w6 (xq.2.1 + 1), ((jclS xq.2.2.1) ++ ([(xq.2.1, xa.2.1, false, xa.2.2.2.1, xa.2.2.2.2)] : List (JJ))), xq.2.2.2.1, xq.2.2.2.2), xq.2.1, 0, a33, c33, axq_1, cxq_1, axq_2, cxq_2, rfl, hRf34, hRxq_1, hRxq_2, rfl, hF⟩
     ·replace hF := hF.2
      have hL35 : RepL gj3i39 (.pair (.int .i64) (.pair (.int .i64) (.pair (.bool) (.pair (.str) (.pair (.int .i64) (.pair (.int .i64) (.str))))))) ([.int .i64 xq.2.1, .int .i64 xa.2.1, .bool false, sv xa.2.2.2.1, .int .i64 xa.2.2.2.2.1, .int .i64 xa.2.2.2.2.2.1, sv xa.2.2.2.2.2.2] : List Value) ([(xq.2.1, xa.2.1, false, xa.2.2.2.1, xa.2.2.2.2)] : List (JJ)) := (RepL.consN (c := [.int .i64 xq.2.1, .int .i64 xa.2.1, .bool false, sv xa.2.2.2.1, .int .i64 xa.2.2.2.2.1, .int .i64 xa.2.2.2.2.2.1, sv xa.2.2.2.2.2.2]) ⟨[.int .i64 xq.2.1], [.int .i64 xa.2.1, .bool false, sv xa.2.2.2.1, .int .i64 xa.2.2.2.2.1, .int .i64 xa.2.2.2.2.2.1, sv xa.2.2.2.2.2.2], rfl, rfl, ⟨[.int .i64 xa.2.1], [.bool false, sv xa.2.2.2.1, .int .i64 xa.2.2.2.2.1, .int .i64 xa.2.2.2.2.2.1, sv xa.2.2.2.2.2.2], rfl, rfl, ⟨[.bool false], [sv xa.2.2.2.1, .int .i64 xa.2.2.2.2.1, .int .i64 xa.2.2.2.2.2.1, sv xa.2.2.2.2.2.2], rfl, rfl, ⟨[sv xa.2.2.2.1], [.int .i64 xa.2.2.2.2.1, .int .i64 xa.2.2.2.2.2.1, sv xa.2.2.2.2.2.2], rfl, rfl, ⟨[.int .i64 xa.2.2.2.2.1], [.int .i64 xa.2.2.2.2.2.1, sv xa.2.2.2.2.2.2], rfl, rfl, ⟨[.int .i64 xa.2.2.2.2.2.1], [sv xa.2.2.2.2.2.2], rfl, rfl, rfl⟩⟩⟩⟩⟩⟩ rfl)
      refine OkM.tail rfl rfl (OpOk.lit (E := 43) (.pair (.int .i64) (.pair (.int .i64) (.pair (.bool) (.pair (.str) (.pair (.int .i64) (.pair (.int .i64) (.str))))))) ([(xq.2.1, xa.2.1, false, xa.2.2.2.1, xa.2.2.2.2)] : List (JJ)) ([.int .i64 xq.2.1, .int .i64 xa.2.1, .bool false, sv xa.2.2.2.1, .int .i64 xa.2.2.2.2.1, .int .i64 xa.2.2.2.2.2.1, sv xa.2.2.2.2.2.2] : List Value) (by kernel_rfl) (by kernel_rfl) rfl (by kernel_rfl) hL35 rfl fun b35 => ?_)
      refine OkM.leaf (i := 11) rfl (Gle.refl _) (.cons _ (.cons_cons _ (.cons_cons _ (.cons_cons _ (.cons_cons _ (.cons_cons _ (.cons_cons _ .slnil))))))) ?_
      obtain ⟨hp36, hF⟩ := hF
      refine OkM.tail rfl rfl (OpOk.callH [] _ enr rfl (jcl_c xq.2.2.1 hRxq_0 hp36) rfl fun g37 _ _ hx37 hV37 => ?_)
      obtain ⟨a37_0, c37_0, xs37_0, rfl, hL37_0, rfl⟩ := hV37
      replace hRxq_0 := hRxq_0.mono hx37.1
      replace hL35 := hL35.mono hx37.1
      replace hL3 := hL3.mono hx37.1
      replace hL4 := hL4.mono hx37.1
      replace hL5 := hL5.mono hx37.1
      replace hRxq_1 := hRxq_1.mono hx37.1
      replace hRxq_2 := hRxq_2.mono hx37.1
      refine OkM.leaf (i := 2) rfl hx37.1 (.cons _ (.cons _ (.cons_cons _ (.cons_cons _ (.cons_cons _ (.cons_cons _ (.cons_cons _ (.cons_cons _ .slnil)))))))) ?_
      obtain ⟨hb38, hF⟩ := hF
      refine OkM.tail rfl rfl (OpOk.append' (e := .pair (.int .i64) (.pair (.int .i64) (.pair (.bool) (.pair (.str) (.pair (.int .i64) (.pair (.int .i64) (.str))))))) 72 1954687338268 0 1 rfl rfl rfl rfl hL37_0 hL35 Try.underlying34 (by kernel_rfl) (by kernel_rfl) (by kernel_rfl) hb38 rfl fun a38 c38 xs38 hL38 => ?_)
      refine OkM.leaf (i := 12) rfl hx37.1 (.cons _ (.cons _ (.cons_cons _ (.cons_cons _ (.cons_cons _ (.cons_cons _ (.cons_cons _ (.cons _ .slnil)))))))) (OkM.bat 1 [2, 4, 9] [(58, .slice a38 ((jclS xq.2.2.1) ++ ([(xq.2.1, xa.2.1, false, xa.2.2.2.1, xa.2.2.2.2)] : List (JJ))).length c38), (59, pv bs2 2)] ?_)
      refine OkM.tail rfl rfl (OpOk.sto (k := 1) (v := .slice a38 ((jclS xq.2.2.1) ++ ([(xq.2.1, xa.2.1, false, xa.2.2.2.1, xa.2.2.2.2)] : List (JJ))).length c38) 7 #[.int .i64 xq.1, .int .i64 xq.2.1, .slice a38 ((jclS xq.2.2.1) ++ ([(xq.2.1, xa.2.1, false, xa.2.2.2.1, xa.2.2.2.2)] : List (JJ))).length c38, .slice axq_1 xq.2.2.2.1.length cxq_1, .slice axq_2 xq.2.2.2.2.length cxq_2] rfl rfl rfl ?_)
      refine OkM.leaf (i := 14) rfl hx37.1 (.cons _ (.cons _ (.cons_cons _ (.cons_cons _ (.cons_cons _ (.cons_cons _ (.cons_cons _ (.cons _ .slnil)))))))) (OkM.nil (Ok.blockN (Ok.thenN (Ok.seq (Ok.region (Ok.bat 1 [2, 4, 9] [(172, pv bs2 1)] ?_))))))
      refine Ok.op rfl (OpOk.step (v := .int .i64 xq.2.1) (Yields.load 7 rfl rfl Try.underlying3 rfl (by kernel_rfl)) rfl rfl (Ok.bat 2 [2, 4, 9] [(174, .int .i64 (w6 (xq.2.1 + 1))), (175, pv bs2 1)] ?_))
      refine Ok.op rfl (OpOk.sto (k := 1) (v := .int .i64 (w6 (xq.2.1 + 1))) 7 #[.int .i64 xq.1, .int .i64 (w6 (xq.2.1 + 1)), .slice a38 ((jclS xq.2.2.1) ++ ([(xq.2.1, xa.2.1, false, xa.2.2.2.1, xa.2.2.2.2)] : List (JJ))).length c38, .slice axq_1 xq.2.2.2.1.length cxq_1, .slice axq_2 xq.2.2.2.2.length cxq_2] rfl rfl rfl ?_)
      refine Ok.nil (Ok.thenN (Ok.seq (Ok.region (Ok.op rfl (OpOk.step (v := .agg #[.int .i64 xq.1, .int .i64 (w6 (xq.2.1 + 1)), .slice a38 ((jclS xq.2.2.1) ++ ([(xq.2.1, xa.2.1, false, xa.2.2.2.1, xa.2.2.2.2)] : List (JJ))).length c38, .slice axq_1 xq.2.2.2.1.length cxq_1, .slice axq_2 xq.2.2.2.2.length cxq_2]) (Yields.loadAgg 7 5 #[.int .i64 xq.1, .int .i64 (w6 (xq.2.1 + 1)), .slice a38 ((jclS xq.2.2.1) ++ ([(xq.2.1, xa.2.1, false, xa.2.2.2.1, xa.2.2.2.2)] : List (JJ))).length c38, .slice axq_1 xq.2.2.2.1.length cxq_1, .slice axq_2 xq.2.2.2.2.length cxq_2] rfl rfl Try.underlying37 rfl (by kernel_rfl) (by kernel_rfl) (by kernel_rfl)) rfl rfl (Ok.bat 1 [4] [(176, .agg #[.int .i64 xq.1, .int .i64 (w6 (xq.2.1 + 1)), .slice a38 ((jclS xq.2.2.1) ++ ([(xq.2.1, xa.2.1, false, xa.2.2.2.1, xa.2.2.2.2)] : List (JJ))).length c38, .slice axq_1 xq.2.2.2.1.length cxq_1, .slice axq_2 xq.2.2.2.2.length cxq_2]), (177, .int .i64 xq.2.1)] ?_))))))
      refine Ok.op rfl (OpOk.sto (k := 5) (v := .agg #[.int .i64 xq.1, .int .i64 (w6 (xq.2.1 + 1)), .slice a38 ((jclS xq.2.2.1) ++ ([(xq.2.1, xa.2.1, false, xa.2.2.2.1, xa.2.2.2.2)] : List (JJ))).length c38, .slice axq_1 xq.2.2.2.1.length cxq_1, .slice axq_2 xq.2.2.2.2.length cxq_2]) 2 #[.int .i64 xq.1, .int .i64 (w6 (xq.2.1 + 1)), .slice a38 ((jclS xq.2.2.1) ++ ([(xq.2.1, xa.2.1, false, xa.2.2.2.1, xa.2.2.2.2)] : List (JJ))).length c38, .slice axq_1 xq.2.2.2.1.length cxq_1, .slice axq_2 xq.2.2.2.2.length cxq_2] rfl rfl rfl ?_)
      refine Ok.bat 2 [4] [(5, .int .i64 xq.2.1), (6, .int .i64 0)] ?_
      refine Ok.nil (Ok.thenN (Ok.ret (Ok.frz 0 rfl hL38 fun g39 hx39 hRf39 => ?_)))
      replace hL35 := hL35.mono hx39.1
      replace hRxq_1 := hRxq_1.mono hx39.1
      replace hRxq_2 := hRxq_2.mono hx39.1
      replace hL5 := hL5.mono hx39.1
      replace hL4 := hL4.mono hx39.1
      replace hL3 := hL3.mono hx39.1
      exact Ok.resP (vs := [.agg #[.int .i64 xq.1, .int .i64 (w6 (xq.2.1 + 1)), .slice a38 ((jclS xq.2.2.1) ++ ([(xq.2.1, xa.2.1, false, xa.2.2.2.1, xa.2.2.2.2)] : List (JJ))).length c38, .slice axq_1 xq.2.2.2.1.length cxq_1, .slice axq_2 xq.2.2.2.2.length cxq_2], .int .i64 xq.2.1, .int .i64 0]) [] [] (by decide) rfl (.inl rfl) rfl (.cons (.cellAgg 1 5 #[.int .i64 xq.1, .int .i64 (w6 (xq.2.1 + 1)), .slice a38 ((jclS xq.2.2.1) ++ ([(xq.2.1, xa.2.1, false, xa.2.2.2.1, xa.2.2.2.2)] : List (JJ))).length c38, .slice axq_1 xq.2.2.2.1.length cxq_1, .slice axq_2 xq.2.2.2.2.length cxq_2] rfl rfl Try.underlying37 rfl (by kernel_rfl) (by kernel_rfl) (by kernel_rfl)) (.cons (.tmp rfl) (.cons (.tmp rfl) .nil))) ((hxj3i39.trans hx37).trans hx39) ⟨(xq.1, w6 (xq.2.1 + 1), ((jclS xq.2.2.1) ++ ([(xq.2.1, xa.2.1, false, xa.2.2.2.1, xa.2.2.2.2)] : List (JJ))), xq.2.2.2.1, xq.2.2.2.2), xq.2.1, 0, a38, c38, axq_1, cxq_1, axq_2, cxq_2, rfl, hRf39, hRxq_1, hRxq_2, rfl, hF⟩
 ·replace hF := hF.2 hc7
  refine Ok.seq (Ok.region (Ok.bat 2 [2, 3, 4, 7, 8, 9, 18] [(60, .bool (xa.1 == 2))] ?_))
  refine Ok.nil (Ok.thenN (Ok.cond (b := (xa.1 == 2)) rfl (fun hc41 => ?_) (fun hc41 => ?_)))
  ·replace hF := hF.1 hc41
   refine Ok.seq (Ok.seq (Ok.region (Ok.bat 2 [2, 3, 4, 7, 9] [(62, .func (.func 53) #[] #[pv bs2 0]), (63, pv bs2 3)] ?_)))
   refine Ok.op rfl (OpOk.step (v := .slice axq_1 xq.2.2.2.1.length cxq_1) (Yields.load 5 rfl rfl Try.underlying34 rfl (by kernel_rfl)) rfl rfl (Ok.bat 1 [2, 3, 4, 7, 9, 62] [(65, .int .i64 (xq.2.2.2.1.length : Int))] ?_))
   refine Ok.op rfl (OpOk.inline (args := #[.int .i64 (xq.2.2.2.1.length : Int), pv bs2 0]) 11 [(0, .int .i64 (xq.2.2.2.1.length : Int)), (1, pv bs2 0)] enr Try.func53 rfl rfl rfl rfl (Ok.seq (Ok.region (Ok.batch 1 [(0, .int .i64 (xq.2.2.2.1.length : Int)), (1, pv bs2 0)] (by kernel_rfl) (Ok.nil (Ok.thenN (Ok.cut (fun a W => ∃ gj3i66 : Ghost, Gext w0 g gj3i66 ∧ StA 11 [(3, .bool (rlaV1 xq))] a ∧ StW w0 [.blk bs4 (.cells #[.int .i64 0, .int .i64 0, .slice none ([] : List (JJ)).length 0, .slice none ([] : List (JJ)).length 0, .slice none ([] : List (JT)).length 0] 37), .own (.slice none ([] : List (JT)).length 0) 93 5 ([] : List (JT)).length ([]), .own (.slice none ([] : List (JJ)).length 0) 43 7 ([] : List (JJ)).length ([]), .own (.slice none ([] : List (JJ)).length 0) 43 7 ([] : List (JJ)).length ([]), .blk bs3 (.cells #[.int .i64 xa.1, .int .i64 xa.2.1, .int .i64 xa.2.2.1, sv xa.2.2.2.1, .int .i64 xa.2.2.2.2.1, .int .i64 xa.2.2.2.2.2.1, sv xa.2.2.2.2.2.2] 39), .blk bs2 (.cells #[.int .i64 xq.1, .int .i64 xq.2.1, .slice axq_0 xq.2.2.1.length cxq_0, .slice axq_1 xq.2.2.2.1.length cxq_1, .slice axq_2 xq.2.2.2.2.length cxq_2] 37)] gj3i66 W ∧ rlaj3i66 xq xa K) ?_ ?_)))))))
   ·
    refine Ok.region (Ok.bat 3 [1] [(6, .bool (decide ((xq.2.2.2.1.length : Int) < 100)))] ?_)
    refine Ok.boolAt 6 (decide ((xq.2.2.2.1.length : Int) < 100)) rfl (fun hc63 => ?_) (fun hc63 => ?_)
    ·replace hF := hF.1 hc63
     refine Ok.batch 1 [(6, .bool true), (7, pv bs2 1)] (by kernel_rfl) (Ok.opYes (j := 2) (d := 6) (want := true) (b := true) rfl (by kernel_rfl) (by kernel_rfl) rfl (OpOk.step (v := .int .i64 xq.2.1) (Yields.load 5 rfl rfl Try.underlying3 rfl (by kernel_rfl)) rfl rfl (Ok.batch 3 [(3, .bool (decide (xq.2.1 < 1000000000)))] (by kernel_rfl) (Ok.nil (Ok.thenN (Ok.reval 3 rfl (show (.bool (decide (xq.2.1 < 1000000000)) : Value) = .bool (rlaV1 xq) from congrArg (Value.bool) (mand_t hc63)) ?_))))))
     exact fun a W hA hW => ⟨g, (Gext.refl w0 g), hA.sub (by kernel_rfl), hW, hF⟩
    ·replace hF := hF.2 hc63
     refine Ok.batch 5 [(3, .bool false)] (by kernel_rfl) (Ok.nil (Ok.thenN (Ok.reval 3 rfl (show (.bool false : Value) = .bool (rlaV1 xq) from congrArg (Value.bool) (mand_f hc63)) ?_)))
     exact fun a W hA hW => ⟨g, (Gext.refl w0 g), hA.sub (by kernel_rfl), hW, hF⟩
   ·
    clear hF
    rintro a W ⟨gj3i66, hxj3i66, hA, hW, hF⟩
    refine (?_ : Ok _ _ _ _ _ _) a W hA hW
    clear hA hW
    replace hL3 := hL3.mono hxj3i66.1
    replace hL4 := hL4.mono hxj3i66.1
    replace hL5 := hL5.mono hxj3i66.1
    replace hRxq_0 := hRxq_0.mono hxj3i66.1
    replace hRxq_1 := hRxq_1.mono hxj3i66.1
    replace hRxq_2 := hRxq_2.mono hxj3i66.1
    refine Ok.ret (Ok.back (vs := [.bool (rlaV1 xq)]) (.inl rfl) rfl (.cons (.tmp rfl) .nil) rfl (Ok.batch 1 [(2, pv bs2 0), (3, pv bs3 0), (4, pv bs4 0), (7, .func (.func 52) #[] #[]), (9, .int .i64 xq.2.1), (67, .bool (!(rlaV1 xq)))] (by kernel_rfl) (Ok.nil (Ok.thenN (Ok.cond (b := !(rlaV1 xq)) rfl (fun hc42 => ?_) (fun hc42 => ?_))))))
    ·replace hF := hF.1 hc42
     refine Ok.seq (Ok.region (Ok.bat 1 [4] [(68, .func (.func 52) #[] #[])] ?_))
     refine Ok.op rfl (OpOk.inline (args := #[.int .i64 2]) 7 [(0, .int .i64 2)] enr Try.func52 rfl rfl rfl rfl (Ok.seq (Ok.region ?_)))
     have hL43 : RepL gj3i66 (.pair (.int .i64) (.pair (.int .i64) (.pair (.bool) (.pair (.str) (.pair (.int .i64) (.pair (.int .i64) (.str))))))) [] [] := rfl
     refine Ok.ownNil 43 7 ?_
     have hL44 : RepL gj3i66 (.pair (.int .i64) (.pair (.int .i64) (.pair (.bool) (.pair (.str) (.pair (.int .i64) (.pair (.int .i64) (.str))))))) [] [] := rfl
     refine Ok.ownNil 43 7 ?_
     have hL45 : RepL gj3i66 (.pair (.int .i64) (.pair (.int .i64) (.pair (.int .i64) (.pair (.int .i64) (.str))))) [] [] := rfl
     refine Ok.ownNil 93 5 (Ok.op rfl (OpOk.alloc (z := .agg #[.int .i64 0, .int .i64 0, .slice none ([] : List (JJ)).length 0, .slice none ([] : List (JJ)).length 0, .slice none ([] : List (JT)).length 0]) (cs := #[.int .i64 0, .int .i64 0, .slice none ([] : List (JJ)).length 0, .slice none ([] : List (JJ)).length 0, .slice none ([] : List (JT)).length 0]) (by kernel_rfl) (by kernel_rfl) rfl fun bs2i69 => ?_))
     refine Ok.batch 2 [(0, .int .i64 2), (2, pv bs2i69 0)] (by kernel_rfl) (Ok.nil (Ok.thenN (Ok.seq (Ok.region (Ok.bat 2 [2] [(5, .agg #[.int .i64 0, .int .i64 0, .slice none 0 0, .slice none 0 0, .slice none 0 0]), (6, .int .i64 2)] ?_)))))
     have hL47 : RepL gj3i66 (.pair (.int .i64) (.pair (.int .i64) (.pair (.bool) (.pair (.str) (.pair (.int .i64) (.pair (.int .i64) (.str))))))) [] [] := rfl
     refine Ok.ownNil 43 7 ?_
     have hL48 : RepL gj3i66 (.pair (.int .i64) (.pair (.int .i64) (.pair (.bool) (.pair (.str) (.pair (.int .i64) (.pair (.int .i64) (.str))))))) [] [] := rfl
     refine Ok.ownNil 43 7 ?_
     have hL49 : RepL gj3i66 (.pair (.int .i64) (.pair (.int .i64) (.pair (.int .i64) (.pair (.int .i64) (.str))))) [] [] := rfl
     refine Ok.ownNil 93 5 (Ok.op rfl (OpOk.sto (k := 5) (v := .agg #[.int .i64 0, .int .i64 0, .slice none ([] : List (JJ)).length 0, .slice none ([] : List (JJ)).length 0, .slice none ([] : List (JT)).length 0]) 3 #[.int .i64 0, .int .i64 0, .slice none ([] : List (JJ)).length 0, .slice none ([] : List (JJ)).length 0, .slice none ([] : List (JT)).length 0] rfl rfl rfl ?_))
     refine Ok.bat 2 [2] [(3, .int .i64 0), (4, .int .i64 2)] ?_
     refine Ok.nil (Ok.thenN (Ok.ret (Ok.back (vs := [.agg #[.int .i64 0, .int .i64 0, .slice none ([] : List (JJ)).length 0, .slice none ([] : List (JJ)).length 0, .slice none ([] : List (JT)).length 0], .int .i64 0, .int .i64 2]) (.inl rfl) rfl (.cons (.cellAgg 3 5 #[.int .i64 0, .int .i64 0, .slice none ([] : List (JJ)).length 0, .slice none ([] : List (JJ)).length 0, .slice none ([] : List (JT)).length 0] rfl rfl Try.underlying37 rfl (by kernel_rfl) (by kernel_rfl) (by kernel_rfl)) (.cons (.tmp rfl) (.cons (.tmp rfl) .nil))) rfl (Ok.batch 3 [(4, pv bs4 0), (70, .agg #[.int .i64 0, .int .i64 0, .slice none ([] : List (JJ)).length 0, .slice none ([] : List (JJ)).length 0, .slice none ([] : List (JT)).length 0]), (71, .int .i64 0), (72, .int .i64 2)] (by kernel_rfl) (Ok.op rfl (OpOk.sto (k := 5) (v := .agg #[.int .i64 0, .int .i64 0, .slice none ([] : List (JJ)).length 0, .slice none ([] : List (JJ)).length 0, .slice none ([] : List (JT)).length 0]) 7 #[.int .i64 0, .int .i64 0, .slice none ([] : List (JJ)).length 0, .slice none ([] : List (JJ)).length 0, .slice none ([] : List (JT)).length 0] rfl rfl rfl ?_))))))
     refine Ok.bat 2 [4] [(5, .int .i64 0), (6, .int .i64 2)] ?_
     refine Ok.nil (Ok.thenN (Ok.ret (Ok.thenR (Ok.blockR (Ok.thenR (Ok.frz 2 rfl hL47 fun g50 hx50 hRf50 => ?_))))))
     replace hL49 := hL49.mono hx50.1
     replace hL48 := hL48.mono hx50.1
     replace hL45 := hL45.mono hx50.1
     replace hL44 := hL44.mono hx50.1
     replace hL43 := hL43.mono hx50.1
     replace hL5 := hL5.mono hx50.1
     replace hL4 := hL4.mono hx50.1
     replace hL3 := hL3.mono hx50.1
     replace hRxq_0 := hRxq_0.mono hx50.1
     replace hRxq_1 := hRxq_1.mono hx50.1
     replace hRxq_2 := hRxq_2.mono hx50.1
     refine Ok.frz 1 rfl hL48 fun g51 hx51 hRf51 => ?_
     replace hL49 := hL49.mono hx51.1
     replace hRf50 := hRf50.mono hx51.1
     replace hL45 := hL45.mono hx51.1
     replace hL44 := hL44.mono hx51.1
     replace hL43 := hL43.mono hx51.1
     replace hL5 := hL5.mono hx51.1
     replace hL4 := hL4.mono hx51.1
     replace hL3 := hL3.mono hx51.1
     replace hRxq_0 := hRxq_0.mono hx51.1
     replace hRxq_1 := hRxq_1.mono hx51.1
     replace hRxq_2 := hRxq_2.mono hx51.1
     refine Ok.frz 0 rfl hL49 fun g52 hx52 hRf52 => ?_
     replace hRf50 := hRf50.mono hx52.1
     replace hRf51 := hRf51.mono hx52.1
     replace hL45 := hL45.mono hx52.1
     replace hL44 := hL44.mono hx52.1
     replace hL43 := hL43.mono hx52.1
     replace hL5 := hL5.mono hx52.1
     replace hL4 := hL4.mono hx52.1
     replace hL3 := hL3.mono hx52.1
     replace hRxq_0 := hRxq_0.mono hx52.1
     replace hRxq_1 := hRxq_1.mono hx52.1
     replace hRxq_2 := hRxq_2.mono hx52.1
     exact Ok.resP (vs := [.agg #[.int .i64 0, .int .i64 0, .slice none ([] : List (JJ)).length 0, .slice none ([] : List (JJ)).length 0, .slice none ([] : List (JT)).length 0], .int .i64 0, .int .i64 2]) [] [] (by decide) rfl (.inl rfl) rfl (.cons (.cellAgg 4 5 #[.int .i64 0, .int .i64 0, .slice none ([] : List (JJ)).length 0, .slice none ([] : List (JJ)).length 0, .slice none ([] : List (JT)).length 0] rfl rfl Try.underlying37 rfl (by kernel_rfl) (by kernel_rfl) (by kernel_rfl)) (.cons (.tmp rfl) (.cons (.tmp rfl) .nil))) (((hxj3i66.trans hx50).trans hx51).trans hx52) ⟨(0, 0, ([] : List (JJ)), ([] : List (JJ)), ([] : List (JT))), 0, 2, none, 0, none, 0, none, 0, rfl, hRf50, hRf51, hRf52, rfl, hF⟩
    ·replace hF := hF.2 hc42
     refine Ok.skip (Ok.thenN (Ok.fork [0, 1, 3, 5, 7, 8] [2, 9] [.blk bs4 (.cells #[.int .i64 0, .int .i64 0, .slice none ([] : List (JJ)).length 0, .slice none ([] : List (JJ)).length 0, .slice none ([] : List (JT)).length 0] 37), .own (.slice none ([] : List (JT)).length 0) 93 5 ([] : List (JT)).length ([]), .own (.slice none ([] : List (JJ)).length 0) 43 7 ([] : List (JJ)).length ([]), .own (.slice none ([] : List (JJ)).length 0) 43 7 ([] : List (JJ)).length ([]), .blk bs3 (.cells #[.int .i64 xa.1, .int .i64 xa.2.1, .int .i64 xa.2.2.1, sv xa.2.2.2.1, .int .i64 xa.2.2.2.2.1, .int .i64 xa.2.2.2.2.2.1, sv xa.2.2.2.2.2.2] 39)] [(0, true), (1, true), (3, true), (4, true), (5, true), (6, true), (7, true), (8, true)] 2 [(9, false), (10, false), (11, true), (12, false)] 9 [(2, false), (10, false), (11, true), (12, false)] (by kernel_rfl) (by kernel_rfl) (.cons_cons _ (.cons_cons _ (.cons_cons _ (.cons_cons _ (.cons_cons _ (.cons _ .slnil)))))) (OkM.bat 1 [2, 3, 4, 9] [(73, pv bs2 3)] ?_)))
     refine OkM.head rfl rfl rfl (OpQ.step (v := .slice axq_1 xq.2.2.2.1.length cxq_1) (Yields.load 5 rfl rfl Try.underlying34 rfl (by kernel_rfl)) rfl rfl (OkM.bat 2 [2, 3, 4, 9] [(74, .slice axq_1 xq.2.2.2.1.length cxq_1), (76, .int .i64 xq.2.1), (77, pv bs3 3)] ?_))
     refine OkM.head rfl rfl rfl (OpQ.step (v := sv xa.2.2.2.1) (Yields.load 4 rfl rfl Try.underlying9 rfl (by kernel_rfl)) rfl rfl (OkM.bat 1 [2, 4, 9, 74, 76] [(78, sv xa.2.2.2.1), (79, pv bs3 4)] ?_))
     refine OkM.head rfl rfl rfl (OpQ.step (v := .agg #[.int .i64 xa.2.2.2.2.1, .int .i64 xa.2.2.2.2.2.1, sv xa.2.2.2.2.2.2]) (Yields.loadAgg 4 3 #[.int .i64 xa.2.2.2.2.1, .int .i64 xa.2.2.2.2.2.1, sv xa.2.2.2.2.2.2] rfl rfl Try.underlying24 rfl (by kernel_rfl) (by kernel_rfl) (by kernel_rfl)) rfl rfl (OkM.bat 1 [2, 4, 9, 74] [(81, .agg #[.int .i64 xq.2.1, .int .i64 0, .bool true, sv xa.2.2.2.1, .int .i64 xa.2.2.2.2.1, .int .i64 xa.2.2.2.2.2.1, sv xa.2.2.2.2.2.2])] ?_))
     refine OkM.nil (Ok.both ?_ ?_)
     ·replace hF := hF.1
      obtain ⟨hp53, hF⟩ := hF
      refine OkM.tail rfl rfl (OpOk.callH [] _ enr rfl (jcl_c xq.2.2.2.1 hRxq_1 hp53) rfl fun g54 _ _ hx54 hV54 => ?_)
      obtain ⟨a54_0, c54_0, xs54_0, rfl, hL54_0, rfl⟩ := hV54
      replace hRxq_1 := hRxq_1.mono hx54.1
      replace hL3 := hL3.mono hx54.1
      replace hL4 := hL4.mono hx54.1
      replace hL5 := hL5.mono hx54.1
      replace hRxq_0 := hRxq_0.mono hx54.1
      replace hRxq_2 := hRxq_2.mono hx54.1
      refine OkM.leaf (i := 2) rfl hx54.1 (.cons _ (.cons_cons _ (.cons_cons _ (.cons_cons _ (.cons_cons _ (.cons_cons _ (.cons_cons _ .slnil))))))) ?_
      have hL55 : RepL g54 (.pair (.int .i64) (.pair (.int .i64) (.pair (.bool) (.pair (.str) (.pair (.int .i64) (.pair (.int .i64) (.str))))))) ([.int .i64 xq.2.1, .int .i64 0, .bool true, sv xa.2.2.2.1, .int .i64 xa.2.2.2.2.1, .int .i64 xa.2.2.2.2.2.1, sv xa.2.2.2.2.2.2] : List Value) ([(xq.2.1, 0, true, xa.2.2.2.1, xa.2.2.2.2)] : List (JJ)) := (RepL.consN (c := [.int .i64 xq.2.1, .int .i64 0, .bool true, sv xa.2.2.2.1, .int .i64 xa.2.2.2.2.1, .int .i64 xa.2.2.2.2.2.1, sv xa.2.2.2.2.2.2]) ⟨[.int .i64 xq.2.1], [.int .i64 0, .bool true, sv xa.2.2.2.1, .int .i64 xa.2.2.2.2.1, .int .i64 xa.2.2.2.2.2.1, sv xa.2.2.2.2.2.2], rfl, rfl, ⟨[.int .i64 0], [.bool true, sv xa.2.2.2.1, .int .i64 xa.2.2.2.2.1, .int .i64 xa.2.2.2.2.2.1, sv xa.2.2.2.2.2.2], rfl, rfl, ⟨[.bool true], [sv xa.2.2.2.1, .int .i64 xa.2.2.2.2.1, .int .i64 xa.2.2.2.2.2.1, sv xa.2.2.2.2.2.2], rfl, rfl, ⟨[sv xa.2.2.2.1], [.int .i64 xa.2.2.2.2.1, .int .i64 xa.2.2.2.2.2.1, sv xa.2.2.2.2.2.2], rfl, rfl, ⟨[.int .i64 xa.2.2.2.2.1], [.int .i64 xa.2.2.2.2.2.1, sv xa.2.2.2.2.2.2], rfl, rfl, ⟨[.int .i64 xa.2.2.2.2.2.1], [sv xa.2.2.2.2.2.2], rfl, rfl, rfl⟩⟩⟩⟩⟩⟩ rfl)
      refine OkM.tail rfl rfl (OpOk.lit (E := 43) (.pair (.int .i64) (.pair (.int .i64) (.pair (.bool) (.pair (.str) (.pair (.int .i64) (.pair (.int .i64) (.str))))))) ([(xq.2.1, 0, true, xa.2.2.2.1, xa.2.2.2.2)] : List (JJ)) ([.int .i64 xq.2.1, .int .i64 0, .bool true, sv xa.2.2.2.1, .int .i64 xa.2.2.2.2.1, .int .i64 xa.2.2.2.2.2.1, sv xa.2.2.2.2.2.2] : List Value) (by kernel_rfl) (by kernel_rfl) rfl (by kernel_rfl) hL55 rfl fun b55 => ?_)
      refine OkM.leaf (i := 9) rfl hx54.1 (.cons _ (.cons _ (.cons_cons _ (.cons_cons _ (.cons_cons _ (.cons_cons _ (.cons_cons _ (.cons_cons _ .slnil)))))))) ?_
      obtain ⟨hb56, hF⟩ := hF
      refine OkM.tail rfl rfl (OpOk.append' (e := .pair (.int .i64) (.pair (.int .i64) (.pair (.bool) (.pair (.str) (.pair (.int .i64) (.pair (.int .i64) (.str))))))) 72 1954687338268 1 0 rfl rfl rfl rfl hL54_0 hL55 Try.underlying34 (by kernel_rfl) (by kernel_rfl) (by kernel_rfl) hb56 rfl fun a56 c56 xs56 hL56 => ?_)
      refine OkM.leaf (i := 10) rfl hx54.1 (.cons _ (.cons _ (.cons_cons _ (.cons_cons _ (.cons_cons _ (.cons_cons _ (.cons_cons _ (.cons _ .slnil)))))))) (OkM.bat 1 [2, 4, 9] [(83, .slice a56 ((jclS xq.2.2.2.1) ++ ([(xq.2.1, 0, true, xa.2.2.2.1, xa.2.2.2.2)] : List (JJ))).length c56), (84, pv bs2 3)] ?_)
      refine OkM.tail rfl rfl (OpOk.sto (k := 1) (v := .slice a56 ((jclS xq.2.2.2.1) ++ ([(xq.2.1, 0, true, xa.2.2.2.1, xa.2.2.2.2)] : List (JJ))).length c56) 7 #[.int .i64 xq.1, .int .i64 xq.2.1, .slice axq_0 xq.2.2.1.length cxq_0, .slice a56 ((jclS xq.2.2.2.1) ++ ([(xq.2.1, 0, true, xa.2.2.2.1, xa.2.2.2.2)] : List (JJ))).length c56, .slice axq_2 xq.2.2.2.2.length cxq_2] rfl rfl rfl ?_)
      refine OkM.leaf (i := 12) rfl hx54.1 (.cons _ (.cons _ (.cons_cons _ (.cons_cons _ (.cons_cons _ (.cons_cons _ (.cons_cons _ (.cons _ .slnil)))))))) (OkM.nil (Ok.blockN (Ok.thenN (Ok.seq (Ok.region (Ok.bat 1 [2, 4, 9] [(172, pv bs2 1)] ?_))))))
      refine Ok.op rfl (OpOk.step (v := .int .i64 xq.2.1) (Yields.load 7 rfl rfl Try.underlying3 rfl (by kernel_rfl)) rfl rfl (Ok.bat 2 [2, 4, 9] [(174, .int .i64 (w6 (xq.2.1 + 1))), (175, pv bs2 1)] ?_))
      refine Ok.op rfl (OpOk.sto (k := 1) (v := .int .i64 (w6 (xq.2.1 + 1))) 7 #[.int .i64 xq.1, .int .i64 (w6 (xq.2.1 + 1)), .slice axq_0 xq.2.2.1.length cxq_0, .slice a56 ((jclS xq.2.2.2.1) ++ ([(xq.2.1, 0, true, xa.2.2.2.1, xa.2.2.2.2)] : List (JJ))).length c56, .slice axq_2 xq.2.2.2.2.length cxq_2] rfl rfl rfl ?_)
      refine Ok.nil (Ok.thenN (Ok.seq (Ok.region (Ok.op rfl (OpOk.step (v := .agg #[.int .i64 xq.1, .int .i64 (w6 (xq.2.1 + 1)), .slice axq_0 xq.2.2.1.length cxq_0, .slice a56 ((jclS xq.2.2.2.1) ++ ([(xq.2.1, 0, true, xa.2.2.2.1, xa.2.2.2.2)] : List (JJ))).length c56, .slice axq_2 xq.2.2.2.2.length cxq_2]) (Yields.loadAgg 7 5 #[.int .i64 xq.1, .int .i64 (w6 (xq.2.1 + 1)), .slice axq_0 xq.2.2.1.length cxq_0, .slice a56 ((jclS xq.2.2.2.1) ++ ([(xq.2.1, 0, true, xa.2.2.2.1, xa.2.2.2.2)] : List (JJ))).length c56, .slice axq_2 xq.2.2.2.2.length cxq_2] rfl rfl Try.underlying37 rfl (by kernel_rfl) (by kernel_rfl) (by kernel_rfl)) rfl rfl (Ok.bat 1 [4] [(176, .agg #[.int .i64 xq.1, .int .i64 (w6 (xq.2.1 + 1)), .slice axq_0 xq.2.2.1.length cxq_0, .slice a56 ((jclS xq.2.2.2.1) ++ ([(xq.2.1, 0, true, xa.2.2.2.1, xa.2.2.2.2)] : List (JJ))).length c56, .slice axq_2 xq.2.2.2.2.length cxq_2]), (177, .int .i64 xq.2.1)] ?_))))))
      refine Ok.op rfl (OpOk.sto (k := 5) (v := .agg #[.int .i64 xq.1, .int .i64 (w6 (xq.2.1 + 1)), .slice axq_0 xq.2.2.1.length cxq_0, .slice a56 ((jclS xq.2.2.2.1) ++ ([(xq.2.1, 0, true, xa.2.2.2.1, xa.2.2.2.2)] : List (JJ))).length c56, .slice axq_2 xq.2.2.2.2.length cxq_2]) 2 #[.int .i64 xq.1, .int .i64 (w6 (xq.2.1 + 1)), .slice axq_0 xq.2.2.1.length cxq_0, .slice a56 ((jclS xq.2.2.2.1) ++ ([(xq.2.1, 0, true, xa.2.2.2.1, xa.2.2.2.2)] : List (JJ))).length c56, .slice axq_2 xq.2.2.2.2.length cxq_2] rfl rfl rfl ?_)
      refine Ok.bat 2 [4] [(5, .int .i64 xq.2.1), (6, .int .i64 0)] ?_
      refine Ok.nil (Ok.thenN (Ok.ret (Ok.frz 1 rfl hL56 fun g57 hx57 hRf57 => ?_)))
      replace hL55 := hL55.mono hx57.1
      replace hRxq_0 := hRxq_0.mono hx57.1
      replace hRxq_2 := hRxq_2.mono hx57.1
      replace hL5 := hL5.mono hx57.1
      replace hL4 := hL4.mono hx57.1
      replace hL3 := hL3.mono hx57.1
      exact Ok.resP (vs := [.agg #[.int .i64 xq.1, .int .i64 (w6 (xq.2.1 + 1)), .slice axq_0 xq.2.2.1.length cxq_0, .slice a56 ((jclS xq.2.2.2.1) ++ ([(xq.2.1, 0, true, xa.2.2.2.1, xa.2.2.2.2)] : List (JJ))).length c56, .slice axq_2 xq.2.2.2.2.length cxq_2], .int .i64 xq.2.1, .int .i64 0]) [] [] (by decide) rfl (.inl rfl) rfl (.cons (.cellAgg 1 5 #[.int .i64 xq.1, .int .i64 (w6 (xq.2.1 + 1)), .slice axq_0 xq.2.2.1.length cxq_0, .slice a56 ((jclS xq.2.2.2.1) ++ ([(xq.2.1, 0, true, xa.2.2.2.1, xa.2.2.2.2)] : List (JJ))).length c56, .slice axq_2 xq.2.2.2.2.length cxq_2] rfl rfl Try.underlying37 rfl (by kernel_rfl) (by kernel_rfl) (by kernel_rfl)) (.cons (.tmp rfl) (.cons (.tmp rfl) .nil))) ((hxj3i66.trans hx54).trans hx57) ⟨(xq.1, w6 (xq.2.1 + 1), xq.2.2.1, ((jclS xq.2.2.2.1) ++ ([(xq.2.1, 0, true, xa.2.2.2.1, xa.2.2.2.2)] : List (JJ))), xq.2.2.2.2), xq.2.1, 0, axq_0, cxq_0, a56, c56, axq_2, cxq_2, rfl, hRxq_0, hRf57, hRxq_2, rfl, hF⟩
     ·replace hF := hF.2
      have hL58 : RepL gj3i66 (.pair (.int .i64) (.pair (.int .i64) (.pair (.bool) (.pair (.str) (.pair (.int .i64) (.pair (.int .i64) (.str))))))) ([.int .i64 xq.2.1, .int .i64 0, .bool true, sv xa.2.2.2.1, .int .i64 xa.2.2.2.2.1, .int .i64 xa.2.2.2.2.2.1, sv xa.2.2.2.2.2.2] : List Value) ([(xq.2.1, 0, true, xa.2.2.2.1, xa.2.2.2.2)] : List (JJ)) := (RepL.consN (c := [.int .i64 xq.2.1, .int .i64 0, .bool true, sv xa.2.2.2.1, .int .i64 xa.2.2.2.2.1, .int .i64 xa.2.2.2.2.2.1, sv xa.2.2.2.2.2.2]) ⟨[.int .i64 xq.2.1], [.int .i64 0, .bool true, sv xa.2.2.2.1, .int .i64 xa.2.2.2.2.1, .int .i64 xa.2.2.2.2.2.1, sv xa.2.2.2.2.2.2], rfl, rfl, ⟨[.int .i64 0], [.bool true, sv xa.2.2.2.1, .int .i64 xa.2.2.2.2.1, .int .i64 xa.2.2.2.2.2.1, sv xa.2.2.2.2.2.2], rfl, rfl, ⟨[.bool true], [sv xa.2.2.2.1, .int .i64 xa.2.2.2.2.1, .int .i64 xa.2.2.2.2.2.1, sv xa.2.2.2.2.2.2], rfl, rfl, ⟨[sv xa.2.2.2.1], [.int .i64 xa.2.2.2.2.1, .int .i64 xa.2.2.2.2.2.1, sv xa.2.2.2.2.2.2], rfl, rfl, ⟨[.int .i64 xa.2.2.2.2.1], [.int .i64 xa.2.2.2.2.2.1, sv xa.2.2.2.2.2.2], rfl, rfl, ⟨[.int .i64 xa.2.2.2.2.2.1], [sv xa.2.2.2.2.2.2], rfl, rfl, rfl⟩⟩⟩⟩⟩⟩ rfl)
      refine OkM.tail rfl rfl (OpOk.lit (E := 43) (.pair (.int .i64) (.pair (.int .i64) (.pair (.bool) (.pair (.str) (.pair (.int .i64) (.pair (.int .i64) (.str))))))) ([(xq.2.1, 0, true, xa.2.2.2.1, xa.2.2.2.2)] : List (JJ)) ([.int .i64 xq.2.1, .int .i64 0, .bool true, sv xa.2.2.2.1, .int .i64 xa.2.2.2.2.1, .int .i64 xa.2.2.2.2.2.1, sv xa.2.2.2.2.2.2] : List Value) (by kernel_rfl) (by kernel_rfl) rfl (by kernel_rfl) hL58 rfl fun b58 => ?_)
      refine OkM.leaf (i := 9) rfl (Gle.refl _) (.cons _ (.cons_cons _ (.cons_cons _ (.cons_cons _ (.cons_cons _ (.cons_cons _ (.cons_cons _ .slnil))))))) ?_
      obtain ⟨hp59, hF⟩ := hF
      refine OkM.tail rfl rfl (OpOk.callH [] _ enr rfl (jcl_c xq.2.2.2.1 hRxq_1 hp59) rfl fun g60 _ _ hx60 hV60 => ?_)
      obtain ⟨a60_0, c60_0, xs60_0, rfl, hL60_0, rfl⟩ := hV60
      replace hRxq_1 := hRxq_1.mono hx60.1
      replace hL58 := hL58.mono hx60.1
      replace hL3 := hL3.mono hx60.1
      replace hL4 := hL4.mono hx60.1
      replace hL5 := hL5.mono hx60.1
      replace hRxq_0 := hRxq_0.mono hx60.1
      replace hRxq_2 := hRxq_2.mono hx60.1
      refine OkM.leaf (i := 2) rfl hx60.1 (.cons _ (.cons _ (.cons_cons _ (.cons_cons _ (.cons_cons _ (.cons_cons _ (.cons_cons _ (.cons_cons _ .slnil)))))))) ?_
      obtain ⟨hb61, hF⟩ := hF
      refine OkM.tail rfl rfl (OpOk.append' (e := .pair (.int .i64) (.pair (.int .i64) (.pair (.bool) (.pair (.str) (.pair (.int .i64) (.pair (.int .i64) (.str))))))) 72 1954687338268 0 1 rfl rfl rfl rfl hL60_0 hL58 Try.underlying34 (by kernel_rfl) (by kernel_rfl) (by kernel_rfl) hb61 rfl fun a61 c61 xs61 hL61 => ?_)
      refine OkM.leaf (i := 10) rfl hx60.1 (.cons _ (.cons _ (.cons_cons _ (.cons_cons _ (.cons_cons _ (.cons_cons _ (.cons_cons _ (.cons _ .slnil)))))))) (OkM.bat 1 [2, 4, 9] [(83, .slice a61 ((jclS xq.2.2.2.1) ++ ([(xq.2.1, 0, true, xa.2.2.2.1, xa.2.2.2.2)] : List (JJ))).length c61), (84, pv bs2 3)] ?_)
      refine OkM.tail rfl rfl (OpOk.sto (k := 1) (v := .slice a61 ((jclS xq.2.2.2.1) ++ ([(xq.2.1, 0, true, xa.2.2.2.1, xa.2.2.2.2)] : List (JJ))).length c61) 7 #[.int .i64 xq.1, .int .i64 xq.2.1, .slice axq_0 xq.2.2.1.length cxq_0, .slice a61 ((jclS xq.2.2.2.1) ++ ([(xq.2.1, 0, true, xa.2.2.2.1, xa.2.2.2.2)] : List (JJ))).length c61, .slice axq_2 xq.2.2.2.2.length cxq_2] rfl rfl rfl ?_)
      refine OkM.leaf (i := 12) rfl hx60.1 (.cons _ (.cons _ (.cons_cons _ (.cons_cons _ (.cons_cons _ (.cons_cons _ (.cons_cons _ (.cons _ .slnil)))))))) (OkM.nil (Ok.blockN (Ok.thenN (Ok.seq (Ok.region (Ok.bat 1 [2, 4, 9] [(172, pv bs2 1)] ?_))))))
      refine Ok.op rfl (OpOk.step (v := .int .i64 xq.2.1) (Yields.load 7 rfl rfl Try.underlying3 rfl (by kernel_rfl)) rfl rfl (Ok.bat 2 [2, 4, 9] [(174, .int .i64 (w6 (xq.2.1 + 1))), (175, pv bs2 1)] ?_))
      refine Ok.op rfl (OpOk.sto (k := 1) (v := .int .i64 (w6 (xq.2.1 + 1))) 7 #[.int .i64 xq.1, .int .i64 (w6 (xq.2.1 + 1)), .slice axq_0 xq.2.2.1.length cxq_0, .slice a61 ((jclS xq.2.2.2.1) ++ ([(xq.2.1, 0, true, xa.2.2.2.1, xa.2.2.2.2)] : List (JJ))).length c61, .slice axq_2 xq.2.2.2.2.length cxq_2] rfl rfl rfl ?_)
      refine Ok.nil (Ok.thenN (Ok.seq (Ok.region (Ok.op rfl (OpOk.step (v := .agg #[.int .i64 xq.1, .int .i64 (w6 (xq.2.1 + 1)), .slice axq_0 xq.2.2.1.length cxq_0, .slice a61 ((jclS xq.2.2.2.1) ++ ([(xq.2.1, 0, true, xa.2.2.2.1, xa.2.2.2.2)] : List (JJ))).length c61, .slice axq_2 xq.2.2.2.2.length cxq_2]) (Yields.loadAgg 7 5 #[.int .i64 xq.1, .int .i64 (w6 (xq.2.1 + 1)), .slice axq_0 xq.2.2.1.length cxq_0, .slice a61 ((jclS xq.2.2.2.1) ++ ([(xq.2.1, 0, true, xa.2.2.2.1, xa.2.2.2.2)] : List (JJ))).length c61, .slice axq_2 xq.2.2.2.2.length cxq_2] rfl rfl Try.underlying37 rfl (by kernel_rfl) (by kernel_rfl) (by kernel_rfl)) rfl rfl (Ok.bat 1 [4] [(176, .agg #[.int .i64 xq.1, .int .i64 (w6 (xq.2.1 + 1)), .slice axq_0 xq.2.2.1.length cxq_0, .slice a61 ((jclS xq.2.2.2.1) ++ ([(xq.2.1, 0, true, xa.2.2.2.1, xa.2.2.2.2)] : List (JJ))).length c61, .slice axq_2 xq.2.2.2.2.length cxq_2]), (177, .int .i64 xq.2.1)] ?_))))))
      refine Ok.op rfl (OpOk.sto (k := 5) (v := .agg #[.int .i64 xq.1, .int .i64 (w6 (xq.2.1 + 1)), .slice axq_0 xq.2.2.1.length cxq_0, .slice a61 ((jclS xq.2.2.2.1) ++ ([(xq.2.1, 0, true, xa.2.2.2.1, xa.2.2.2.2)] : List (JJ))).length c61, .slice axq_2 xq.2.2.2.2.length cxq_2]) 2 #[.int .i64 xq.1, .int .i64 (w6 (xq.2.1 + 1)), .slice axq_0 xq.2.2.1.length cxq_0, .slice a61 ((jclS xq.2.2.2.1) ++ ([(xq.2.1, 0, true, xa.2.2.2.1, xa.2.2.2.2)] : List (JJ))).length c61, .slice axq_2 xq.2.2.2.2.length cxq_2] rfl rfl rfl ?_)
      refine Ok.bat 2 [4] [(5, .int .i64 xq.2.1), (6, .int .i64 0)] ?_
      refine Ok.nil (Ok.thenN (Ok.ret (Ok.frz 0 rfl hL61 fun g62 hx62 hRf62 => ?_)))
      replace hL58 := hL58.mono hx62.1
      replace hRxq_0 := hRxq_0.mono hx62.1
      replace hRxq_2 := hRxq_2.mono hx62.1
      replace hL5 := hL5.mono hx62.1
      replace hL4 := hL4.mono hx62.1
      replace hL3 := hL3.mono hx62.1
      exact Ok.resP (vs := [.agg #[.int .i64 xq.1, .int .i64 (w6 (xq.2.1 + 1)), .slice axq_0 xq.2.2.1.length cxq_0, .slice a61 ((jclS xq.2.2.2.1) ++ ([(xq.2.1, 0, true, xa.2.2.2.1, xa.2.2.2.2)] : List (JJ))).length c61, .slice axq_2 xq.2.2.2.2.length cxq_2], .int .i64 xq.2.1, .int .i64 0]) [] [] (by decide) rfl (.inl rfl) rfl (.cons (.cellAgg 1 5 #[.int .i64 xq.1, .int .i64 (w6 (xq.2.1 + 1)), .slice axq_0 xq.2.2.1.length cxq_0, .slice a61 ((jclS xq.2.2.2.1) ++ ([(xq.2.1, 0, true, xa.2.2.2.1, xa.2.2.2.2)] : List (JJ))).length c61, .slice axq_2 xq.2.2.2.2.length cxq_2] rfl rfl Try.underlying37 rfl (by kernel_rfl) (by kernel_rfl) (by kernel_rfl)) (.cons (.tmp rfl) (.cons (.tmp rfl) .nil))) ((hxj3i66.trans hx60).trans hx62) ⟨(xq.1, w6 (xq.2.1 + 1), xq.2.2.1, ((jclS xq.2.2.2.1) ++ ([(xq.2.1, 0, true, xa.2.2.2.1, xa.2.2.2.2)] : List (JJ))), xq.2.2.2.2), xq.2.1, 0, axq_0, cxq_0, a61, c61, axq_2, cxq_2, rfl, hRxq_0, hRf62, hRxq_2, rfl, hF⟩
  ·replace hF := hF.2 hc41
   refine Ok.cut (fun a W => ∃ gj45 : Ghost, Gext w0 g gj45 ∧ StA 178 [(2, pv bs2 0), (3, pv bs3 0), (4, pv bs4 0), (7, .func (.func 52) #[] #[]), (8, .func (.func 53) #[] #[pv bs2 0]), (9, .int .i64 xq.2.1), (18, .int .i64 xa.1), (85, .bool ((xa.1 == 3) || (xa.1 == 4)))] a ∧ StW w0 [.blk bs4 (.cells #[.int .i64 0, .int .i64 0, .slice none ([] : List (JJ)).length 0, .slice none ([] : List (JJ)).length 0, .slice none ([] : List (JT)).length 0] 37), .own (.slice none ([] : List (JT)).length 0) 93 5 ([] : List (JT)).length ([]), .own (.slice none ([] : List (JJ)).length 0) 43 7 ([] : List (JJ)).length ([]), .own (.slice none ([] : List (JJ)).length 0) 43 7 ([] : List (JJ)).length ([]), .blk bs3 (.cells #[.int .i64 xa.1, .int .i64 xa.2.1, .int .i64 xa.2.2.1, sv xa.2.2.2.1, .int .i64 xa.2.2.2.2.1, .int .i64 xa.2.2.2.2.2.1, sv xa.2.2.2.2.2.2] 39), .blk bs2 (.cells #[.int .i64 xq.1, .int .i64 xq.2.1, .slice axq_0 xq.2.2.1.length cxq_0, .slice axq_1 xq.2.2.2.1.length cxq_1, .slice axq_2 xq.2.2.2.2.length cxq_2] 37)] gj45 W ∧ rlaj45 xq xa K) ?_ ?_
   ·
    refine Ok.seq (Ok.region (Ok.bat 2 [2, 3, 4, 7, 8, 9, 18] [(85, .bool (xa.1 == 3))] ?_))
    refine Ok.nil (Ok.thenN (Ok.cond (b := (xa.1 == 3)) rfl (fun hc124 => ?_) (fun hc124 => ?_)))
    ·replace hF := hF.1 hc124
     refine Ok.skip (Ok.thenN (Ok.reval 85 rfl (show (.bool (xa.1 == 3) : Value) = .bool ((xa.1 == 3) || (xa.1 == 4)) from congrArg (Value.bool) ((Eq.trans (hc124) (mor_t hc124)))) ?_))
     exact fun a W hA hW => ⟨g, (Gext.refl w0 g), hA.sub (by kernel_rfl), hW, hF⟩
    ·replace hF := hF.2 hc124
     refine Ok.region (Ok.bat 2 [2, 3, 4, 7, 8, 9, 18] [(85, .bool (xa.1 == 4))] ?_)
     refine Ok.nil (Ok.thenN (Ok.reval 85 rfl (show (.bool (xa.1 == 4) : Value) = .bool ((xa.1 == 3) || (xa.1 == 4)) from congrArg (Value.bool) (mor_f hc124)) ?_))
     exact fun a W hA hW => ⟨g, (Gext.refl w0 g), hA.sub (by kernel_rfl), hW, hF⟩
   ·
    clear hF
    rintro a W ⟨gj45, hxj45, hA, hW, hF⟩
    refine (?_ : Ok _ _ _ _ _ _) a W hA hW
    clear hA hW
    replace hL3 := hL3.mono hxj45.1
    replace hL4 := hL4.mono hxj45.1
    replace hL5 := hL5.mono hxj45.1
    replace hRxq_0 := hRxq_0.mono hxj45.1
    replace hRxq_1 := hRxq_1.mono hxj45.1
    replace hRxq_2 := hRxq_2.mono hxj45.1
    refine Ok.cond (b := ((xa.1 == 3) || (xa.1 == 4))) rfl (fun hc64 => ?_) (fun hc64 => ?_)
    ·replace hF := hF.1 hc64
     refine Ok.seq (Ok.region (Ok.bat 2 [2, 3, 4, 7, 8, 9] [(88, .int .i64 xq.2.1), (89, pv bs2 0)] ?_))
     refine Ok.op rfl (OpOk.step (v := .int .i64 xq.1) (Yields.load 5 rfl rfl Try.underlying3 rfl (by kernel_rfl)) rfl rfl (Ok.bat 1 [2, 3, 4, 7, 8, 9, 88] [(90, .int .i64 xq.1), (91, pv bs3 2)] ?_))
     refine Ok.op rfl (OpOk.step (v := .int .i64 xa.2.2.1) (Yields.load 4 rfl rfl Try.underlying3 rfl (by kernel_rfl)) rfl rfl (Ok.bat 2 [2, 3, 4, 7, 8, 9, 88] [(93, .int .i64 (w6 (xq.1 + xa.2.2.1))), (94, pv bs3 3)] ?_))
     refine Ok.op rfl (OpOk.step (v := sv xa.2.2.2.1) (Yields.load 4 rfl rfl Try.underlying9 rfl (by kernel_rfl)) rfl rfl (Ok.bat 1 [2, 3, 4, 7, 8, 9] [(96, .agg #[.int .i64 xq.2.1, .int .i64 (w6 (xq.1 + xa.2.2.1)), .int .i64 0, .int .i64 0, sv xa.2.2.2.1])] ?_))
     refine Ok.op rfl (OpOk.alloc (z := .agg #[.int .i64 0, .int .i64 0, .int .i64 0, .int .i64 0, sv ([] : Bs)]) (cs := #[.int .i64 0, .int .i64 0, .int .i64 0, .int .i64 0, sv ([] : Bs)]) (by kernel_rfl) (by kernel_rfl) rfl fun bs10 => ?_)
     refine Ok.op rfl (OpOk.sto (k := 5) (v := .agg #[.int .i64 xq.2.1, .int .i64 (w6 (xq.1 + xa.2.2.1)), .int .i64 0, .int .i64 0, sv xa.2.2.2.1]) 0 #[.int .i64 xq.2.1, .int .i64 (w6 (xq.1 + xa.2.2.1)), .int .i64 0, .int .i64 0, sv xa.2.2.2.1] rfl rfl rfl ?_)
     refine Ok.nil (Ok.thenN (Ok.cut (fun a W => ∃ gj54 : Ghost, Gext w0 gj45 gj54 ∧ StA 178 [(2, pv bs2 0), (3, pv bs3 0), (4, pv bs4 0), (7, .func (.func 52) #[] #[]), (8, .func (.func 53) #[] #[pv bs2 0]), (9, .int .i64 xq.2.1), (10, pv bs10 0)] a ∧ StW w0 [.blk bs10 (.cells #[.int .i64 xq.2.1, .int .i64 (w6 (xq.1 + xa.2.2.1)), .int .i64 (if (xa.1 == 4) = true then xa.2.2.1 else 0), .int .i64 0, sv xa.2.2.2.1] 93), .blk bs4 (.cells #[.int .i64 0, .int .i64 0, .slice none ([] : List (JJ)).length 0, .slice none ([] : List (JJ)).length 0, .slice none ([] : List (JT)).length 0] 37), .own (.slice none ([] : List (JT)).length 0) 93 5 ([] : List (JT)).length ([]), .own (.slice none ([] : List (JJ)).length 0) 43 7 ([] : List (JJ)).length ([]), .own (.slice none ([] : List (JJ)).length 0) 43 7 ([] : List (JJ)).length ([]), .blk bs3 (.cells #[.int .i64 xa.1, .int .i64 xa.2.1, .int .i64 xa.2.2.1, sv xa.2.2.2.1, .int .i64 xa.2.2.2.2.1, .int .i64 xa.2.2.2.2.2.1, sv xa.2.2.2.2.2.2] 39), .blk bs2 (.cells #[.int .i64 xq.1, .int .i64 xq.2.1, .slice axq_0 xq.2.2.1.length cxq_0, .slice axq_1 xq.2.2.2.1.length cxq_1, .slice axq_2 xq.2.2.2.2.length cxq_2] 37)] gj54 W ∧ rlaj54 xq xa K) ?_ ?_))
     ·
      refine Ok.seq (Ok.region (Ok.bat 1 [2, 3, 4, 7, 8, 9] [(10, pv bs10 0), (97, pv bs3 0)] ?_))
      refine Ok.op rfl (OpOk.step (v := .int .i64 xa.1) (Yields.load 5 rfl rfl Try.underlying3 rfl (by kernel_rfl)) rfl rfl (Ok.bat 1 [2, 3, 4, 7, 8, 9, 10] [(99, .bool (xa.1 == 4))] ?_))
      refine Ok.nil (Ok.thenN (Ok.cond (b := (xa.1 == 4)) rfl (fun hc92 => ?_) (fun hc92 => ?_)))
      ·replace hF := hF.1 hc92
       refine Ok.region (Ok.bat 1 [2, 3, 4, 7, 8, 9, 10] [(100, pv bs3 2)] ?_)
       refine Ok.op rfl (OpOk.step (v := .int .i64 xa.2.2.1) (Yields.load 5 rfl rfl Try.underlying3 rfl (by kernel_rfl)) rfl rfl (Ok.bat 1 [2, 3, 4, 7, 8, 9, 10] [(101, .int .i64 xa.2.2.1), (102, pv bs10 2)] ?_))
       refine Ok.op rfl (OpOk.sto (k := 1) (v := .int .i64 xa.2.2.1) 0 #[.int .i64 xq.2.1, .int .i64 (w6 (xq.1 + xa.2.2.1)), .int .i64 xa.2.2.1, .int .i64 0, sv xa.2.2.2.1] rfl rfl rfl ?_)
       refine Ok.nil (Ok.thenN (Ok.entEq 0 (e' := .blk bs10 (.cells #[.int .i64 xq.2.1, .int .i64 (w6 (xq.1 + xa.2.2.1)), .int .i64 (if (xa.1 == 4) = true then xa.2.2.1 else 0), .int .i64 0, sv xa.2.2.2.1] 93)) rfl (congrArg (fun l : List Value => Ent.blk bs10 (.cells ⟨l⟩ 93)) (lcons (rfl) (lcons (rfl) (lcons (congrArg (Value.int .i64) ((if_t hc92).symm)) (lcons (rfl) (lcons (rfl) rfl)))))) ?_))
       exact fun a W hA hW => ⟨gj45, (Gext.refl w0 gj45), hA.sub (by kernel_rfl), hW, hF⟩
      ·replace hF := hF.2 hc92
       refine Ok.skip (Ok.thenN (Ok.entEq 0 (e' := .blk bs10 (.cells #[.int .i64 xq.2.1, .int .i64 (w6 (xq.1 + xa.2.2.1)), .int .i64 (if (xa.1 == 4) = true then xa.2.2.1 else 0), .int .i64 0, sv xa.2.2.2.1] 93)) rfl (congrArg (fun l : List Value => Ent.blk bs10 (.cells ⟨l⟩ 93)) (lcons (rfl) (lcons (rfl) (lcons (congrArg (Value.int .i64) ((if_f hc92).symm)) (lcons (rfl) (lcons (rfl) rfl)))))) ?_))
       exact fun a W hA hW => ⟨gj45, (Gext.refl w0 gj45), hA.sub (by kernel_rfl), hW, hF⟩
     ·
      clear hF
      rintro a W ⟨gj54, hxj54, hA, hW, hF⟩
      refine (?_ : Ok _ _ _ _ _ _) a W hA hW
      clear hA hW
      replace hL3 := hL3.mono hxj54.1
      replace hL4 := hL4.mono hxj54.1
      replace hL5 := hL5.mono hxj54.1
      replace hRxq_0 := hRxq_0.mono hxj54.1
      replace hRxq_1 := hRxq_1.mono hxj54.1
      replace hRxq_2 := hRxq_2.mono hxj54.1
      refine Ok.seq (Ok.cut (fun a W => ∃ gj61 : Ghost, Gext w0 gj54 gj61 ∧ StA 178 [(2, pv bs2 0), (4, pv bs4 0), (7, .func (.func 52) #[] #[]), (8, .func (.func 53) #[] #[pv bs2 0]), (9, .int .i64 xq.2.1), (10, pv bs10 0), (117, .bool (rlaV2 xq xa))] a ∧ StW w0 [.blk bs10 (.cells #[.int .i64 xq.2.1, .int .i64 (w6 (xq.1 + xa.2.2.1)), .int .i64 (if (xa.1 == 4) = true then xa.2.2.1 else 0), .int .i64 0, sv xa.2.2.2.1] 93), .blk bs4 (.cells #[.int .i64 0, .int .i64 0, .slice none ([] : List (JJ)).length 0, .slice none ([] : List (JJ)).length 0, .slice none ([] : List (JT)).length 0] 37), .own (.slice none ([] : List (JT)).length 0) 93 5 ([] : List (JT)).length ([]), .own (.slice none ([] : List (JJ)).length 0) 43 7 ([] : List (JJ)).length ([]), .own (.slice none ([] : List (JJ)).length 0) 43 7 ([] : List (JJ)).length ([]), .blk bs2 (.cells #[.int .i64 xq.1, .int .i64 xq.2.1, .slice axq_0 xq.2.2.1.length cxq_0, .slice axq_1 xq.2.2.2.1.length cxq_1, .slice axq_2 xq.2.2.2.2.length cxq_2] 37)] gj61 W ∧ rlaj61 xq xa K) ?_ ?_)
      ·
       refine Ok.region (Ok.bat 1 [2, 3, 4, 7, 8, 9, 10] [(103, pv bs3 2)] ?_)
       refine Ok.op rfl (OpOk.step (v := .int .i64 xa.2.2.1) (Yields.load 5 rfl rfl Try.underlying3 rfl (by kernel_rfl)) rfl rfl (Ok.bat 1 [2, 3, 4, 7, 8, 9, 10] [(104, .int .i64 xa.2.2.1), (105, pv bs3 0)] ?_))
       refine Ok.op rfl (OpOk.step (v := .int .i64 xa.1) (Yields.load 5 rfl rfl Try.underlying3 rfl (by kernel_rfl)) rfl rfl (Ok.bat 1 [2, 3, 4, 7, 8, 9, 10, 104] [(107, .int .i64 (w6 (xa.1 - 3)))] ?_))
       refine Ok.op rfl (OpOk.callG (v := .bool (rbtM xa.2.2.1 (w6 (xa.1 - 3)) 1000000)) enr (fun W hW => rbt_c xa.2.2.1 (w6 (xa.1 - 3)) 1000000) rfl ?_)
       refine Ok.bat 2 [2, 3, 4, 7, 8, 9, 10] [(110, .bool (!(rbtM xa.2.2.1 (w6 (xa.1 - 3)) 1000000)))] ?_
       refine Ok.boolAt 110 (!(rbtM xa.2.2.1 (w6 (xa.1 - 3)) 1000000)) rfl (fun hc91 => ?_) (fun hc91 => ?_)
       ·replace hF := hF.1 hc91
        refine Ok.bat 7 [2, 4, 7, 8, 9, 10] [(117, .bool true)] ?_
        refine Ok.nil (Ok.thenN (Ok.reval 117 rfl (show (.bool true : Value) = .bool (rlaV2 xq xa) from congrArg (Value.bool) (mor_t hc91)) ?_))
        exact fun a W hA hW => ⟨gj54, (Gext.refl w0 gj54), hA.sub (by kernel_rfl), hW.sub (.cons_cons _ (.cons_cons _ (.cons_cons _ (.cons_cons _ (.cons_cons _ (.cons _ (.cons_cons _ .slnil))))))), hF⟩
       ·replace hF := hF.2 hc91
        refine Ok.bat 1 [2, 3, 4, 7, 8, 9, 10] [(110, .bool false), (111, pv bs2 0)] ?_
        refine Ok.opYes (j := 7) (d := 110) (want := false) (b := false) rfl (by kernel_rfl) (by kernel_rfl) rfl (OpOk.step (v := .int .i64 xq.1) (Yields.load 6 rfl rfl Try.underlying3 rfl (by kernel_rfl)) rfl rfl (Ok.bat 1 [2, 4, 7, 8, 9, 10, 110] [(112, .int .i64 xq.1), (113, pv bs3 2)] ?_))
        refine Ok.opYes (j := 7) (d := 110) (want := false) (b := false) rfl (by kernel_rfl) (by kernel_rfl) rfl (OpOk.step (v := .int .i64 xa.2.2.1) (Yields.load 5 rfl rfl Try.underlying3 rfl (by kernel_rfl)) rfl rfl (Ok.bat 3 [2, 4, 7, 8, 9, 10] [(117, .bool (decide ((w6 (xq.1 + xa.2.2.1)) > 1000000000)))] ?_))
        refine Ok.nil (Ok.thenN (Ok.reval 117 rfl (show (.bool (decide ((w6 (xq.1 + xa.2.2.1)) > 1000000000)) : Value) = .bool (rlaV2 xq xa) from congrArg (Value.bool) (mor_f hc91)) ?_))
        exact fun a W hA hW => ⟨gj54, (Gext.refl w0 gj54), hA.sub (by kernel_rfl), hW.sub (.cons_cons _ (.cons_cons _ (.cons_cons _ (.cons_cons _ (.cons_cons _ (.cons _ (.cons_cons _ .slnil))))))), hF⟩
      ·
       clear hF
       rintro a W ⟨gj61, hxj61, hA, hW, hF⟩
       refine (?_ : Ok _ _ _ _ _ _) a W hA hW
       clear hA hW
       replace hL3 := hL3.mono hxj61.1
       replace hL4 := hL4.mono hxj61.1
       replace hL5 := hL5.mono hxj61.1
       replace hRxq_0 := hRxq_0.mono hxj61.1
       replace hRxq_1 := hRxq_1.mono hxj61.1
       replace hRxq_2 := hRxq_2.mono hxj61.1
       refine Ok.cond (b := (rlaV2 xq xa)) rfl (fun hc66 => ?_) (fun hc66 => ?_)
       ·replace hF := hF.1 hc66
        refine Ok.seq (Ok.region (Ok.bat 1 [4] [(118, .func (.func 52) #[] #[])] ?_))
        refine Ok.op rfl (OpOk.inline (args := #[.int .i64 1]) 7 [(0, .int .i64 1)] enr Try.func52 rfl rfl rfl rfl (Ok.seq (Ok.region ?_)))
        have hL67 : RepL gj61 (.pair (.int .i64) (.pair (.int .i64) (.pair (.bool) (.pair (.str) (.pair (.int .i64) (.pair (.int .i64) (.str))))))) [] [] := rfl
        refine Ok.ownNil 43 7 ?_
        have hL68 : RepL gj61 (.pair (.int .i64) (.pair (.int .i64) (.pair (.bool) (.pair (.str) (.pair (.int .i64) (.pair (.int .i64) (.str))))))) [] [] := rfl
        refine Ok.ownNil 43 7 ?_
        have hL69 : RepL gj61 (.pair (.int .i64) (.pair (.int .i64) (.pair (.int .i64) (.pair (.int .i64) (.str))))) [] [] := rfl
        refine Ok.ownNil 93 5 (Ok.op rfl (OpOk.alloc (z := .agg #[.int .i64 0, .int .i64 0, .slice none ([] : List (JJ)).length 0, .slice none ([] : List (JJ)).length 0, .slice none ([] : List (JT)).length 0]) (cs := #[.int .i64 0, .int .i64 0, .slice none ([] : List (JJ)).length 0, .slice none ([] : List (JJ)).length 0, .slice none ([] : List (JT)).length 0]) (by kernel_rfl) (by kernel_rfl) rfl fun bs2i119 => ?_))
        refine Ok.batch 2 [(0, .int .i64 1), (2, pv bs2i119 0)] (by kernel_rfl) (Ok.nil (Ok.thenN (Ok.seq (Ok.region (Ok.bat 2 [2] [(5, .agg #[.int .i64 0, .int .i64 0, .slice none 0 0, .slice none 0 0, .slice none 0 0]), (6, .int .i64 1)] ?_)))))
        have hL71 : RepL gj61 (.pair (.int .i64) (.pair (.int .i64) (.pair (.bool) (.pair (.str) (.pair (.int .i64) (.pair (.int .i64) (.str))))))) [] [] := rfl
        refine Ok.ownNil 43 7 ?_
        have hL72 : RepL gj61 (.pair (.int .i64) (.pair (.int .i64) (.pair (.bool) (.pair (.str) (.pair (.int .i64) (.pair (.int .i64) (.str))))))) [] [] := rfl
        refine Ok.ownNil 43 7 ?_
        have hL73 : RepL gj61 (.pair (.int .i64) (.pair (.int .i64) (.pair (.int .i64) (.pair (.int .i64) (.str))))) [] [] := rfl
        refine Ok.ownNil 93 5 (Ok.op rfl (OpOk.sto (k := 5) (v := .agg #[.int .i64 0, .int .i64 0, .slice none ([] : List (JJ)).length 0, .slice none ([] : List (JJ)).length 0, .slice none ([] : List (JT)).length 0]) 3 #[.int .i64 0, .int .i64 0, .slice none ([] : List (JJ)).length 0, .slice none ([] : List (JJ)).length 0, .slice none ([] : List (JT)).length 0] rfl rfl rfl ?_))
        refine Ok.bat 2 [2] [(3, .int .i64 0), (4, .int .i64 1)] ?_
        refine Ok.nil (Ok.thenN (Ok.ret (Ok.back (vs := [.agg #[.int .i64 0, .int .i64 0, .slice none ([] : List (JJ)).length 0, .slice none ([] : List (JJ)).length 0, .slice none ([] : List (JT)).length 0], .int .i64 0, .int .i64 1]) (.inl rfl) rfl (.cons (.cellAgg 3 5 #[.int .i64 0, .int .i64 0, .slice none ([] : List (JJ)).length 0, .slice none ([] : List (JJ)).length 0, .slice none ([] : List (JT)).length 0] rfl rfl Try.underlying37 rfl (by kernel_rfl) (by kernel_rfl) (by kernel_rfl)) (.cons (.tmp rfl) (.cons (.tmp rfl) .nil))) rfl (Ok.batch 3 [(4, pv bs4 0), (120, .agg #[.int .i64 0, .int .i64 0, .slice none ([] : List (JJ)).length 0, .slice none ([] : List (JJ)).length 0, .slice none ([] : List (JT)).length 0]), (121, .int .i64 0), (122, .int .i64 1)] (by kernel_rfl) (Ok.op rfl (OpOk.sto (k := 5) (v := .agg #[.int .i64 0, .int .i64 0, .slice none ([] : List (JJ)).length 0, .slice none ([] : List (JJ)).length 0, .slice none ([] : List (JT)).length 0]) 8 #[.int .i64 0, .int .i64 0, .slice none ([] : List (JJ)).length 0, .slice none ([] : List (JJ)).length 0, .slice none ([] : List (JT)).length 0] rfl rfl rfl ?_))))))
        refine Ok.bat 2 [4] [(5, .int .i64 0), (6, .int .i64 1)] ?_
        refine Ok.nil (Ok.thenN (Ok.ret (Ok.thenR (Ok.blockR (Ok.thenR (Ok.frz 2 rfl hL71 fun g74 hx74 hRf74 => ?_))))))
        replace hL73 := hL73.mono hx74.1
        replace hL72 := hL72.mono hx74.1
        replace hL69 := hL69.mono hx74.1
        replace hL68 := hL68.mono hx74.1
        replace hL67 := hL67.mono hx74.1
        replace hL5 := hL5.mono hx74.1
        replace hL4 := hL4.mono hx74.1
        replace hL3 := hL3.mono hx74.1
        replace hRxq_0 := hRxq_0.mono hx74.1
        replace hRxq_1 := hRxq_1.mono hx74.1
        replace hRxq_2 := hRxq_2.mono hx74.1
        refine Ok.frz 1 rfl hL72 fun g75 hx75 hRf75 => ?_
        replace hL73 := hL73.mono hx75.1
        replace hRf74 := hRf74.mono hx75.1
        replace hL69 := hL69.mono hx75.1
        replace hL68 := hL68.mono hx75.1
        replace hL67 := hL67.mono hx75.1
        replace hL5 := hL5.mono hx75.1
        replace hL4 := hL4.mono hx75.1
        replace hL3 := hL3.mono hx75.1
        replace hRxq_0 := hRxq_0.mono hx75.1
        replace hRxq_1 := hRxq_1.mono hx75.1
        replace hRxq_2 := hRxq_2.mono hx75.1
        refine Ok.frz 0 rfl hL73 fun g76 hx76 hRf76 => ?_
        replace hRf74 := hRf74.mono hx76.1
        replace hRf75 := hRf75.mono hx76.1
        replace hL69 := hL69.mono hx76.1
        replace hL68 := hL68.mono hx76.1
        replace hL67 := hL67.mono hx76.1
        replace hL5 := hL5.mono hx76.1
        replace hL4 := hL4.mono hx76.1
        replace hL3 := hL3.mono hx76.1
        replace hRxq_0 := hRxq_0.mono hx76.1
        replace hRxq_1 := hRxq_1.mono hx76.1
        replace hRxq_2 := hRxq_2.mono hx76.1
        exact Ok.resP (vs := [.agg #[.int .i64 0, .int .i64 0, .slice none ([] : List (JJ)).length 0, .slice none ([] : List (JJ)).length 0, .slice none ([] : List (JT)).length 0], .int .i64 0, .int .i64 1]) [] [] (by decide) rfl (.inl rfl) rfl (.cons (.cellAgg 5 5 #[.int .i64 0, .int .i64 0, .slice none ([] : List (JJ)).length 0, .slice none ([] : List (JJ)).length 0, .slice none ([] : List (JT)).length 0] rfl rfl Try.underlying37 rfl (by kernel_rfl) (by kernel_rfl) (by kernel_rfl)) (.cons (.tmp rfl) (.cons (.tmp rfl) .nil))) (((((hxj45.trans hxj54).trans hxj61).trans hx74).trans hx75).trans hx76) ⟨(0, 0, ([] : List (JJ)), ([] : List (JJ)), ([] : List (JT))), 0, 1, none, 0, none, 0, none, 0, rfl, hRf74, hRf75, hRf76, rfl, hF⟩
       ·replace hF := hF.2 hc66
        refine Ok.skip (Ok.thenN (Ok.seq (Ok.seq (Ok.region (Ok.bat 2 [2, 4, 7, 9, 10] [(123, .func (.func 53) #[] #[pv bs2 0]), (124, pv bs2 4)] ?_)))))
        refine Ok.op rfl (OpOk.step (v := .slice axq_2 xq.2.2.2.2.length cxq_2) (Yields.load 5 rfl rfl Try.underlying35 rfl (by kernel_rfl)) rfl rfl (Ok.bat 1 [2, 4, 7, 9, 10, 123] [(126, .int .i64 (xq.2.2.2.2.length : Int))] ?_))
        refine Ok.op rfl (OpOk.inline (args := #[.int .i64 (xq.2.2.2.2.length : Int), pv bs2 0]) 11 [(0, .int .i64 (xq.2.2.2.2.length : Int)), (1, pv bs2 0)] enr Try.func53 rfl rfl rfl rfl (Ok.seq (Ok.region (Ok.batch 1 [(0, .int .i64 (xq.2.2.2.2.length : Int)), (1, pv bs2 0)] (by kernel_rfl) (Ok.nil (Ok.thenN (Ok.cut (fun a W => ∃ gj3i127 : Ghost, Gext w0 gj61 gj3i127 ∧ StA 11 [(3, .bool (rlaV3 xq))] a ∧ StW w0 [.blk bs10 (.cells #[.int .i64 xq.2.1, .int .i64 (w6 (xq.1 + xa.2.2.1)), .int .i64 (if (xa.1 == 4) = true then xa.2.2.1 else 0), .int .i64 0, sv xa.2.2.2.1] 93), .blk bs4 (.cells #[.int .i64 0, .int .i64 0, .slice none ([] : List (JJ)).length 0, .slice none ([] : List (JJ)).length 0, .slice none ([] : List (JT)).length 0] 37), .own (.slice none ([] : List (JT)).length 0) 93 5 ([] : List (JT)).length ([]), .own (.slice none ([] : List (JJ)).length 0) 43 7 ([] : List (JJ)).length ([]), .own (.slice none ([] : List (JJ)).length 0) 43 7 ([] : List (JJ)).length ([]), .blk bs2 (.cells #[.int .i64 xq.1, .int .i64 xq.2.1, .slice axq_0 xq.2.2.1.length cxq_0, .slice axq_1 xq.2.2.2.1.length cxq_1, .slice axq_2 xq.2.2.2.2.length cxq_2] 37)] gj3i127 W ∧ rlaj3i127 xq xa K) ?_ ?_)))))))
        ·
         refine Ok.region (Ok.bat 3 [1] [(6, .bool (decide ((xq.2.2.2.2.length : Int) < 100)))] ?_)
         refine Ok.boolAt 6 (decide ((xq.2.2.2.2.length : Int) < 100)) rfl (fun hc90 => ?_) (fun hc90 => ?_)
         ·replace hF := hF.1 hc90
          refine Ok.batch 1 [(6, .bool true), (7, pv bs2 1)] (by kernel_rfl) (Ok.opYes (j := 2) (d := 6) (want := true) (b := true) rfl (by kernel_rfl) (by kernel_rfl) rfl (OpOk.step (v := .int .i64 xq.2.1) (Yields.load 5 rfl rfl Try.underlying3 rfl (by kernel_rfl)) rfl rfl (Ok.batch 3 [(3, .bool (decide (xq.2.1 < 1000000000)))] (by kernel_rfl) (Ok.nil (Ok.thenN (Ok.reval 3 rfl (show (.bool (decide (xq.2.1 < 1000000000)) : Value) = .bool (rlaV3 xq) from congrArg (Value.bool) (mand_t hc90)) ?_))))))
          exact fun a W hA hW => ⟨gj61, (Gext.refl w0 gj61), hA.sub (by kernel_rfl), hW, hF⟩
         ·replace hF := hF.2 hc90
          refine Ok.batch 5 [(3, .bool false)] (by kernel_rfl) (Ok.nil (Ok.thenN (Ok.reval 3 rfl (show (.bool false : Value) = .bool (rlaV3 xq) from congrArg (Value.bool) (mand_f hc90)) ?_)))
          exact fun a W hA hW => ⟨gj61, (Gext.refl w0 gj61), hA.sub (by kernel_rfl), hW, hF⟩
        ·
         clear hF
         rintro a W ⟨gj3i127, hxj3i127, hA, hW, hF⟩
         refine (?_ : Ok _ _ _ _ _ _) a W hA hW
         clear hA hW
         replace hL3 := hL3.mono hxj3i127.1
         replace hL4 := hL4.mono hxj3i127.1
         replace hL5 := hL5.mono hxj3i127.1
         replace hRxq_0 := hRxq_0.mono hxj3i127.1
         replace hRxq_1 := hRxq_1.mono hxj3i127.1
         replace hRxq_2 := hRxq_2.mono hxj3i127.1
         refine Ok.ret (Ok.back (vs := [.bool (rlaV3 xq)]) (.inl rfl) rfl (.cons (.tmp rfl) .nil) rfl (Ok.batch 1 [(2, pv bs2 0), (4, pv bs4 0), (7, .func (.func 52) #[] #[]), (9, .int .i64 xq.2.1), (10, pv bs10 0), (128, .bool (!(rlaV3 xq)))] (by kernel_rfl) (Ok.nil (Ok.thenN (Ok.cond (b := !(rlaV3 xq)) rfl (fun hc77 => ?_) (fun hc77 => ?_))))))
         ·replace hF := hF.1 hc77
          refine Ok.seq (Ok.region (Ok.bat 1 [4] [(129, .func (.func 52) #[] #[])] ?_))
          refine Ok.op rfl (OpOk.inline (args := #[.int .i64 2]) 7 [(0, .int .i64 2)] enr Try.func52 rfl rfl rfl rfl (Ok.seq (Ok.region ?_)))
          have hL78 : RepL gj3i127 (.pair (.int .i64) (.pair (.int .i64) (.pair (.bool) (.pair (.str) (.pair (.int .i64) (.pair (.int .i64) (.str))))))) [] [] := rfl
          refine Ok.ownNil 43 7 ?_
          have hL79 : RepL gj3i127 (.pair (.int .i64) (.pair (.int .i64) (.pair (.bool) (.pair (.str) (.pair (.int .i64) (.pair (.int .i64) (.str))))))) [] [] := rfl
          refine Ok.ownNil 43 7 ?_
          have hL80 : RepL gj3i127 (.pair (.int .i64) (.pair (.int .i64) (.pair (.int .i64) (.pair (.int .i64) (.str))))) [] [] := rfl
          refine Ok.ownNil 93 5 (Ok.op rfl (OpOk.alloc (z := .agg #[.int .i64 0, .int .i64 0, .slice none ([] : List (JJ)).length 0, .slice none ([] : List (JJ)).length 0, .slice none ([] : List (JT)).length 0]) (cs := #[.int .i64 0, .int .i64 0, .slice none ([] : List (JJ)).length 0, .slice none ([] : List (JJ)).length 0, .slice none ([] : List (JT)).length 0]) (by kernel_rfl) (by kernel_rfl) rfl fun bs2i130 => ?_))
          refine Ok.batch 2 [(0, .int .i64 2), (2, pv bs2i130 0)] (by kernel_rfl) (Ok.nil (Ok.thenN (Ok.seq (Ok.region (Ok.bat 2 [2] [(5, .agg #[.int .i64 0, .int .i64 0, .slice none 0 0, .slice none 0 0, .slice none 0 0]), (6, .int .i64 2)] ?_)))))
          have hL82 : RepL gj3i127 (.pair (.int .i64) (.pair (.int .i64) (.pair (.bool) (.pair (.str) (.pair (.int .i64) (.pair (.int .i64) (.str))))))) [] [] := rfl
          refine Ok.ownNil 43 7 ?_
          have hL83 : RepL gj3i127 (.pair (.int .i64) (.pair (.int .i64) (.pair (.bool) (.pair (.str) (.pair (.int .i64) (.pair (.int .i64) (.str))))))) [] [] := rfl
          refine Ok.ownNil 43 7 ?_
          have hL84 : RepL gj3i127 (.pair (.int .i64) (.pair (.int .i64) (.pair (.int .i64) (.pair (.int .i64) (.str))))) [] [] := rfl
          refine Ok.ownNil 93 5 (Ok.op rfl (OpOk.sto (k := 5) (v := .agg #[.int .i64 0, .int .i64 0, .slice none ([] : List (JJ)).length 0, .slice none ([] : List (JJ)).length 0, .slice none ([] : List (JT)).length 0]) 3 #[.int .i64 0, .int .i64 0, .slice none ([] : List (JJ)).length 0, .slice none ([] : List (JJ)).length 0, .slice none ([] : List (JT)).length 0] rfl rfl rfl ?_))
          refine Ok.bat 2 [2] [(3, .int .i64 0), (4, .int .i64 2)] ?_
          refine Ok.nil (Ok.thenN (Ok.ret (Ok.back (vs := [.agg #[.int .i64 0, .int .i64 0, .slice none ([] : List (JJ)).length 0, .slice none ([] : List (JJ)).length 0, .slice none ([] : List (JT)).length 0], .int .i64 0, .int .i64 2]) (.inl rfl) rfl (.cons (.cellAgg 3 5 #[.int .i64 0, .int .i64 0, .slice none ([] : List (JJ)).length 0, .slice none ([] : List (JJ)).length 0, .slice none ([] : List (JT)).length 0] rfl rfl Try.underlying37 rfl (by kernel_rfl) (by kernel_rfl) (by kernel_rfl)) (.cons (.tmp rfl) (.cons (.tmp rfl) .nil))) rfl (Ok.batch 3 [(4, pv bs4 0), (131, .agg #[.int .i64 0, .int .i64 0, .slice none ([] : List (JJ)).length 0, .slice none ([] : List (JJ)).length 0, .slice none ([] : List (JT)).length 0]), (132, .int .i64 0), (133, .int .i64 2)] (by kernel_rfl) (Ok.op rfl (OpOk.sto (k := 5) (v := .agg #[.int .i64 0, .int .i64 0, .slice none ([] : List (JJ)).length 0, .slice none ([] : List (JJ)).length 0, .slice none ([] : List (JT)).length 0]) 8 #[.int .i64 0, .int .i64 0, .slice none ([] : List (JJ)).length 0, .slice none ([] : List (JJ)).length 0, .slice none ([] : List (JT)).length 0] rfl rfl rfl ?_))))))
          refine Ok.bat 2 [4] [(5, .int .i64 0), (6, .int .i64 2)] ?_
          refine Ok.nil (Ok.thenN (Ok.ret (Ok.thenR (Ok.blockR (Ok.thenR (Ok.frz 2 rfl hL82 fun g85 hx85 hRf85 => ?_))))))
          replace hL84 := hL84.mono hx85.1
          replace hL83 := hL83.mono hx85.1
          replace hL80 := hL80.mono hx85.1
          replace hL79 := hL79.mono hx85.1
          replace hL78 := hL78.mono hx85.1
          replace hL5 := hL5.mono hx85.1
          replace hL4 := hL4.mono hx85.1
          replace hL3 := hL3.mono hx85.1
          replace hRxq_0 := hRxq_0.mono hx85.1
          replace hRxq_1 := hRxq_1.mono hx85.1
          replace hRxq_2 := hRxq_2.mono hx85.1
          refine Ok.frz 1 rfl hL83 fun g86 hx86 hRf86 => ?_
          replace hL84 := hL84.mono hx86.1
          replace hRf85 := hRf85.mono hx86.1
          replace hL80 := hL80.mono hx86.1
          replace hL79 := hL79.mono hx86.1
          replace hL78 := hL78.mono hx86.1
          replace hL5 := hL5.mono hx86.1
          replace hL4 := hL4.mono hx86.1
          replace hL3 := hL3.mono hx86.1
          replace hRxq_0 := hRxq_0.mono hx86.1
          replace hRxq_1 := hRxq_1.mono hx86.1
          replace hRxq_2 := hRxq_2.mono hx86.1
          refine Ok.frz 0 rfl hL84 fun g87 hx87 hRf87 => ?_
          replace hRf85 := hRf85.mono hx87.1
          replace hRf86 := hRf86.mono hx87.1
          replace hL80 := hL80.mono hx87.1
          replace hL79 := hL79.mono hx87.1
          replace hL78 := hL78.mono hx87.1
          replace hL5 := hL5.mono hx87.1
          replace hL4 := hL4.mono hx87.1
          replace hL3 := hL3.mono hx87.1
          replace hRxq_0 := hRxq_0.mono hx87.1
          replace hRxq_1 := hRxq_1.mono hx87.1
          replace hRxq_2 := hRxq_2.mono hx87.1
          exact Ok.resP (vs := [.agg #[.int .i64 0, .int .i64 0, .slice none ([] : List (JJ)).length 0, .slice none ([] : List (JJ)).length 0, .slice none ([] : List (JT)).length 0], .int .i64 0, .int .i64 2]) [] [] (by decide) rfl (.inl rfl) rfl (.cons (.cellAgg 5 5 #[.int .i64 0, .int .i64 0, .slice none ([] : List (JJ)).length 0, .slice none ([] : List (JJ)).length 0, .slice none ([] : List (JT)).length 0] rfl rfl Try.underlying37 rfl (by kernel_rfl) (by kernel_rfl) (by kernel_rfl)) (.cons (.tmp rfl) (.cons (.tmp rfl) .nil))) ((((((hxj45.trans hxj54).trans hxj61).trans hxj3i127).trans hx85).trans hx86).trans hx87) ⟨(0, 0, ([] : List (JJ)), ([] : List (JJ)), ([] : List (JT))), 0, 2, none, 0, none, 0, none, 0, rfl, hRf85, hRf86, hRf87, rfl, hF⟩
         ·replace hF := hF.2 hc77
          refine Ok.skip (Ok.thenN (Ok.region (Ok.bat 1 [2, 4, 9, 10] [(134, pv bs2 4)] ?_)))
          refine Ok.op rfl (OpOk.step (v := .slice axq_2 xq.2.2.2.2.length cxq_2) (Yields.load 5 rfl rfl Try.underlying35 rfl (by kernel_rfl)) rfl rfl (Ok.op rfl (OpOk.step (v := .agg #[.int .i64 xq.2.1, .int .i64 (w6 (xq.1 + xa.2.2.1)), .int .i64 (if (xa.1 == 4) = true then xa.2.2.1 else 0), .int .i64 0, sv xa.2.2.2.1]) (Yields.loadAgg 0 5 #[.int .i64 xq.2.1, .int .i64 (w6 (xq.1 + xa.2.2.1)), .int .i64 (if (xa.1 == 4) = true then xa.2.2.1 else 0), .int .i64 0, sv xa.2.2.2.1] rfl rfl Try.underlying93 rfl (by kernel_rfl) (by kernel_rfl) (by kernel_rfl)) rfl rfl ?_)))
          obtain ⟨hp88, hF⟩ := hF
          refine Ok.op rfl (OpOk.callH [] _ enr rfl (rpl_c xq.2.2.2.2 (xq.2.1, w6 (xq.1 + xa.2.2.1), (if (xa.1 == 4) = true then xa.2.2.1 else 0), 0, xa.2.2.2.1) hRxq_2 hp88) rfl fun g89 _ _ hx89 hV89 => ?_)
          obtain ⟨a89_0, c89_0, rfl, hR89_0, rfl⟩ := hV89
          replace hRxq_2 := hRxq_2.mono hx89.1
          replace hL3 := hL3.mono hx89.1
          replace hL4 := hL4.mono hx89.1
          replace hL5 := hL5.mono hx89.1
          replace hRxq_0 := hRxq_0.mono hx89.1
          replace hRxq_1 := hRxq_1.mono hx89.1
          refine Ok.bat 1 [2, 4, 9] [(137, .slice a89_0 (llaS xq.2.2.2.2 (xq.2.1, w6 (xq.1 + xa.2.2.1), (if (xa.1 == 4) = true then xa.2.2.1 else 0), 0, xa.2.2.2.1)).length c89_0), (138, pv bs2 4)] ?_
          refine Ok.op rfl (OpOk.sto (k := 1) (v := .slice a89_0 (llaS xq.2.2.2.2 (xq.2.1, w6 (xq.1 + xa.2.2.1), (if (xa.1 == 4) = true then xa.2.2.1 else 0), 0, xa.2.2.2.1)).length c89_0) 5 #[.int .i64 xq.1, .int .i64 xq.2.1, .slice axq_0 xq.2.2.1.length cxq_0, .slice axq_1 xq.2.2.2.1.length cxq_1, .slice a89_0 (llaS xq.2.2.2.2 (xq.2.1, w6 (xq.1 + xa.2.2.1), (if (xa.1 == 4) = true then xa.2.2.1 else 0), 0, xa.2.2.2.1)).length c89_0] rfl rfl rfl ?_)
          refine Ok.nil (Ok.blockN (Ok.thenN (Ok.seq (Ok.region (Ok.bat 1 [2, 4, 9] [(172, pv bs2 1)] ?_)))))
          refine Ok.op rfl (OpOk.step (v := .int .i64 xq.2.1) (Yields.load 5 rfl rfl Try.underlying3 rfl (by kernel_rfl)) rfl rfl (Ok.bat 2 [2, 4, 9] [(174, .int .i64 (w6 (xq.2.1 + 1))), (175, pv bs2 1)] ?_))
          refine Ok.op rfl (OpOk.sto (k := 1) (v := .int .i64 (w6 (xq.2.1 + 1))) 5 #[.int .i64 xq.1, .int .i64 (w6 (xq.2.1 + 1)), .slice axq_0 xq.2.2.1.length cxq_0, .slice axq_1 xq.2.2.2.1.length cxq_1, .slice a89_0 (llaS xq.2.2.2.2 (xq.2.1, w6 (xq.1 + xa.2.2.1), (if (xa.1 == 4) = true then xa.2.2.1 else 0), 0, xa.2.2.2.1)).length c89_0] rfl rfl rfl ?_)
          refine Ok.nil (Ok.thenN (Ok.seq (Ok.region (Ok.op rfl (OpOk.step (v := .agg #[.int .i64 xq.1, .int .i64 (w6 (xq.2.1 + 1)), .slice axq_0 xq.2.2.1.length cxq_0, .slice axq_1 xq.2.2.2.1.length cxq_1, .slice a89_0 (llaS xq.2.2.2.2 (xq.2.1, w6 (xq.1 + xa.2.2.1), (if (xa.1 == 4) = true then xa.2.2.1 else 0), 0, xa.2.2.2.1)).length c89_0]) (Yields.loadAgg 5 5 #[.int .i64 xq.1, .int .i64 (w6 (xq.2.1 + 1)), .slice axq_0 xq.2.2.1.length cxq_0, .slice axq_1 xq.2.2.2.1.length cxq_1, .slice a89_0 (llaS xq.2.2.2.2 (xq.2.1, w6 (xq.1 + xa.2.2.1), (if (xa.1 == 4) = true then xa.2.2.1 else 0), 0, xa.2.2.2.1)).length c89_0] rfl rfl Try.underlying37 rfl (by kernel_rfl) (by kernel_rfl) (by kernel_rfl)) rfl rfl (Ok.bat 1 [4] [(176, .agg #[.int .i64 xq.1, .int .i64 (w6 (xq.2.1 + 1)), .slice axq_0 xq.2.2.1.length cxq_0, .slice axq_1 xq.2.2.2.1.length cxq_1, .slice a89_0 (llaS xq.2.2.2.2 (xq.2.1, w6 (xq.1 + xa.2.2.1), (if (xa.1 == 4) = true then xa.2.2.1 else 0), 0, xa.2.2.2.1)).length c89_0]), (177, .int .i64 xq.2.1)] ?_))))))
          refine Ok.op rfl (OpOk.sto (k := 5) (v := .agg #[.int .i64 xq.1, .int .i64 (w6 (xq.2.1 + 1)), .slice axq_0 xq.2.2.1.length cxq_0, .slice axq_1 xq.2.2.2.1.length cxq_1, .slice a89_0 (llaS xq.2.2.2.2 (xq.2.1, w6 (xq.1 + xa.2.2.1), (if (xa.1 == 4) = true then xa.2.2.1 else 0), 0, xa.2.2.2.1)).length c89_0]) 1 #[.int .i64 xq.1, .int .i64 (w6 (xq.2.1 + 1)), .slice axq_0 xq.2.2.1.length cxq_0, .slice axq_1 xq.2.2.2.1.length cxq_1, .slice a89_0 (llaS xq.2.2.2.2 (xq.2.1, w6 (xq.1 + xa.2.2.1), (if (xa.1 == 4) = true then xa.2.2.1 else 0), 0, xa.2.2.2.1)).length c89_0] rfl rfl rfl ?_)
          refine Ok.bat 2 [4] [(5, .int .i64 xq.2.1), (6, .int .i64 0)] ?_
          refine Ok.nil (Ok.thenN (Ok.ret ?_))
          exact Ok.resP (vs := [.agg #[.int .i64 xq.1, .int .i64 (w6 (xq.2.1 + 1)), .slice axq_0 xq.2.2.1.length cxq_0, .slice axq_1 xq.2.2.2.1.length cxq_1, .slice a89_0 (llaS xq.2.2.2.2 (xq.2.1, w6 (xq.1 + xa.2.2.1), (if (xa.1 == 4) = true then xa.2.2.1 else 0), 0, xa.2.2.2.1)).length c89_0], .int .i64 xq.2.1, .int .i64 0]) [] [] (by decide) rfl (.inl rfl) rfl (.cons (.cellAgg 1 5 #[.int .i64 xq.1, .int .i64 (w6 (xq.2.1 + 1)), .slice axq_0 xq.2.2.1.length cxq_0, .slice axq_1 xq.2.2.2.1.length cxq_1, .slice a89_0 (llaS xq.2.2.2.2 (xq.2.1, w6 (xq.1 + xa.2.2.1), (if (xa.1 == 4) = true then xa.2.2.1 else 0), 0, xa.2.2.2.1)).length c89_0] rfl rfl Try.underlying37 rfl (by kernel_rfl) (by kernel_rfl) (by kernel_rfl)) (.cons (.tmp rfl) (.cons (.tmp rfl) .nil))) ((((hxj45.trans hxj54).trans hxj61).trans hxj3i127).trans hx89) ⟨(xq.1, w6 (xq.2.1 + 1), xq.2.2.1, xq.2.2.2.1, (llaS xq.2.2.2.2 (xq.2.1, w6 (xq.1 + xa.2.2.1), (if (xa.1 == 4) = true then xa.2.2.1 else 0), 0, xa.2.2.2.1))), xq.2.1, 0, axq_0, cxq_0, axq_1, cxq_1, a89_0, c89_0, rfl, hRxq_0, hRxq_1, hR89_0, rfl, hF⟩
    ·replace hF := hF.2 hc64
     refine Ok.seq (Ok.region (Ok.bat 2 [2, 3, 4, 7] [(139, .bool (xa.1 == 5))] ?_))
     refine Ok.nil (Ok.thenN (Ok.cond (b := (xa.1 == 5)) rfl (fun hc93 => ?_) (fun hc93 => ?_)))
     ·replace hF := hF.1 hc93
      refine Ok.seq (Ok.region (Ok.bat 1 [2, 3, 4, 7] [(11, .slice none 0 0)] ?_))
      have hL94 : RepL gj45 (.pair (.int .i64) (.pair (.int .i64) (.pair (.int .i64) (.pair (.int .i64) (.str))))) [] [] := rfl
      refine Ok.ownNil 93 5 (Ok.nil (Ok.thenN (Ok.seq (Ok.seq (Ok.region (Ok.bat 1 [2, 3, 4, 7] [(11, .slice none ([] : List (JT)).length 0), (141, pv bs2 4)] ?_))))))
      refine Ok.op rfl (OpOk.step (v := .slice axq_2 xq.2.2.2.2.length cxq_2) (Yields.load 6 rfl rfl Try.underlying35 rfl (by kernel_rfl)) rfl rfl (Ok.bat 2 [2, 3, 4, 7, 11] [(142, .slice axq_2 xq.2.2.2.2.length cxq_2), (143, .int .i64 (xq.2.2.2.2.length : Int)), (144, .int .i64 0)] ?_))
      refine Ok.nil (Ok.thenN (Ok.block ?_))
      obtain ⟨k, hF⟩ := hF
      refine Ok.loop (fun k a W => ∃ gl86 : Ghost, Gext w0 gj45 gl86 ∧ ∃ (x144l86 : Int) (ayown94_0l86 : Option Addr) (cyown94_0l86 : Nat) (yown94_0l86 : List (JT)) (xsyown94_0l86 : List Value), RepL gl86 (.pair (.int .i64) (.pair (.int .i64) (.pair (.int .i64) (.pair (.int .i64) (.str))))) xsyown94_0l86 yown94_0l86 ∧ StA 178 [(2, pv bs2 0), (3, pv bs3 0), (4, pv bs4 0), (7, .func (.func 52) #[] #[]), (11, .slice ayown94_0l86 yown94_0l86.length cyown94_0l86), (142, .slice axq_2 xq.2.2.2.2.length cxq_2), (143, .int .i64 (xq.2.2.2.2.length : Int)), (144, .int .i64 x144l86)] a ∧ StW w0 [.own (.slice ayown94_0l86 yown94_0l86.length cyown94_0l86) 93 5 yown94_0l86.length xsyown94_0l86, .blk bs4 (.cells #[.int .i64 0, .int .i64 0, .slice none ([] : List (JJ)).length 0, .slice none ([] : List (JJ)).length 0, .slice none ([] : List (JT)).length 0] 37), .own (.slice none ([] : List (JT)).length 0) 93 5 ([] : List (JT)).length ([]), .own (.slice none ([] : List (JJ)).length 0) 43 7 ([] : List (JJ)).length ([]), .own (.slice none ([] : List (JJ)).length 0) 43 7 ([] : List (JJ)).length ([]), .blk bs3 (.cells #[.int .i64 xa.1, .int .i64 xa.2.1, .int .i64 xa.2.2.1, sv xa.2.2.2.1, .int .i64 xa.2.2.2.2.1, .int .i64 xa.2.2.2.2.2.1, sv xa.2.2.2.2.2.2] 39), .blk bs2 (.cells #[.int .i64 xq.1, .int .i64 xq.2.1, .slice axq_0 xq.2.2.1.length cxq_0, .slice axq_1 xq.2.2.2.1.length cxq_1, .slice axq_2 xq.2.2.2.2.length cxq_2] 37)] gl86 W ∧ rlal86 xq xa K k x144l86 yown94_0l86) k ?_ ?_
      ·
       exact fun a W hA hW => ⟨gj45, (Gext.refl w0 gj45), 0, none, 0, ([] : List (JT)), [], hL94, hA.sub (by kernel_rfl), hW, hF⟩
      ·
       clear hF
       rintro k86 a W ⟨gl86, hxl86, x144l86, ayown94_0l86, cyown94_0l86, yown94_0l86, xsyown94_0l86, hLyown94_0l86, hA, hW, hF⟩
       cases k86 with
       | zero => exact (hF : False).elim
       | succ k86 =>
        refine (?_ : Ok _ _ _ _ _ _) a W hA hW
        clear hA hW
        replace hRxq_2 := hRxq_2.mono hxl86.1
        replace hL3 := hL3.mono hxl86.1
        replace hL4 := hL4.mono hxl86.1
        replace hL5 := hL5.mono hxl86.1
        replace hRxq_0 := hRxq_0.mono hxl86.1
        replace hRxq_1 := hRxq_1.mono hxl86.1
        refine Ok.seq (Ok.region (Ok.bat 1 [2, 3, 4, 7, 11, 142, 143, 144] [(145, .bool (decide (x144l86 < (xq.2.2.2.2.length : Int))))] ?_))
        refine Ok.nil (Ok.thenN (Ok.seq (Ok.cond (b := decide (x144l86 < (xq.2.2.2.2.length : Int))) rfl (fun hc95 => ?_) (fun hc95 => ?_))))
        ·replace hF := hF.1 hc95
         refine Ok.skip (Ok.thenN (Ok.cut (fun a W => ∃ gj93 : Ghost, Gext w0 gl86 gj93 ∧ ∃ (ayown94_0j93 : Option Addr) (cyown94_0j93 : Nat) (xsyown94_0j93 : List Value), RepL gj93 (.pair (.int .i64) (.pair (.int .i64) (.pair (.int .i64) (.pair (.int .i64) (.str))))) xsyown94_0j93 (rlaV8 xq xa x144l86 yown94_0l86) ∧ StA 178 [(2, pv bs2 0), (3, pv bs3 0), (4, pv bs4 0), (7, .func (.func 52) #[] #[]), (11, .slice ayown94_0j93 (rlaV8 xq xa x144l86 yown94_0l86).length cyown94_0j93), (142, .slice axq_2 xq.2.2.2.2.length cxq_2), (143, .int .i64 (xq.2.2.2.2.length : Int)), (144, .int .i64 x144l86)] a ∧ StW w0 [.own (.slice ayown94_0j93 (rlaV8 xq xa x144l86 yown94_0l86).length cyown94_0j93) 93 5 (rlaV8 xq xa x144l86 yown94_0l86).length xsyown94_0j93, .blk bs4 (.cells #[.int .i64 0, .int .i64 0, .slice none ([] : List (JJ)).length 0, .slice none ([] : List (JJ)).length 0, .slice none ([] : List (JT)).length 0] 37), .own (.slice none ([] : List (JT)).length 0) 93 5 ([] : List (JT)).length ([]), .own (.slice none ([] : List (JJ)).length 0) 43 7 ([] : List (JJ)).length ([]), .own (.slice none ([] : List (JJ)).length 0) 43 7 ([] : List (JJ)).length ([]), .blk bs3 (.cells #[.int .i64 xa.1, .int .i64 xa.2.1, .int .i64 xa.2.2.1, sv xa.2.2.2.1, .int .i64 xa.2.2.2.2.1, .int .i64 xa.2.2.2.2.2.1, sv xa.2.2.2.2.2.2] 39), .blk bs2 (.cells #[.int .i64 xq.1, .int .i64 xq.2.1, .slice axq_0 xq.2.2.1.length cxq_0, .slice axq_1 xq.2.2.2.1.length cxq_1, .slice axq_2 xq.2.2.2.2.length cxq_2] 37)] gj93 W ∧ rlaj93 xq xa x144l86 yown94_0l86 (rlal86 xq xa K k86)) ?_ ?_))
         ·
          refine Ok.block (Ok.seq (Ok.region ?_))
          obtain ⟨h097, h197, hF⟩ := hF
          have he97 := get_of (l := xq.2.2.2.2) (default : JT) h197
          generalize hg97 : (xq.2.2.2.2.getD (Int.toNat x144l86) default) = e97 at he97 hF ⊢
          refine Ok.op rfl (OpOk.indexRo (e := .pair (.int .i64) (.pair (.int .i64) (.pair (.int .i64) (.pair (.int .i64) (.str))))) (i := x144l86) (el := e97) rfl rfl Try.underlying35 (by kernel_rfl) hRxq_2 h097 he97 rfl fun q96 o96 cs96 _ hat96 hr96 => ?_)
          obtain ⟨_, _, rfl, rfl, ⟨_, _, rfl, rfl, ⟨_, _, rfl, rfl, ⟨_, _, rfl, rfl, rfl⟩⟩⟩⟩ := hr96
          replace hat96 : At gl86 q96 o96 [.int .i64 e97.1, .int .i64 e97.2.1, .int .i64 e97.2.2.1, .int .i64 e97.2.2.2.1, sv e97.2.2.2.2] := hat96
          refine Ok.op rfl (OpOk.step (v := .agg #[.int .i64 e97.1, .int .i64 e97.2.1, .int .i64 e97.2.2.1, .int .i64 e97.2.2.2.1, sv e97.2.2.2.2]) (Yields.loadAggRo 0 5 #[.int .i64 e97.1, .int .i64 e97.2.1, .int .i64 e97.2.2.1, .int .i64 e97.2.2.2.1, sv e97.2.2.2.2] hat96 (by kernel_rfl) Try.underlying93 rfl (by kernel_rfl) (by kernel_rfl) (by kernel_rfl)) rfl rfl (Ok.op rfl (OpOk.alloc (z := .agg #[.int .i64 0, .int .i64 0, .int .i64 0, .int .i64 0, sv ([] : Bs)]) (cs := #[.int .i64 0, .int .i64 0, .int .i64 0, .int .i64 0, sv ([] : Bs)]) (by kernel_rfl) (by kernel_rfl) rfl fun bs13 => ?_)))
          refine Ok.op rfl (OpOk.sto (k := 5) (v := .agg #[.int .i64 e97.1, .int .i64 e97.2.1, .int .i64 e97.2.2.1, .int .i64 e97.2.2.2.1, sv e97.2.2.2.2]) 0 #[.int .i64 e97.1, .int .i64 e97.2.1, .int .i64 e97.2.2.1, .int .i64 e97.2.2.2.1, sv e97.2.2.2.2] rfl rfl rfl ?_)
          refine Ok.nil (Ok.thenN (Ok.seq (Ok.region (Ok.bat 1 [2, 3, 4, 7, 11, 142, 143, 144] [(13, pv bs13 0), (148, pv bs13 0)] ?_))))
          refine Ok.op rfl (OpOk.step (v := .int .i64 e97.1) (Yields.load 0 rfl rfl Try.underlying3 rfl (by kernel_rfl)) rfl rfl (Ok.bat 1 [2, 3, 4, 7, 11, 13, 142, 143, 144] [(149, .int .i64 e97.1), (150, pv bs3 2)] ?_))
          refine Ok.op rfl (OpOk.step (v := .int .i64 xa.2.2.1) (Yields.load 6 rfl rfl Try.underlying3 rfl (by kernel_rfl)) rfl rfl (Ok.bat 1 [2, 3, 4, 7, 11, 13, 142, 143, 144] [(152, .bool (e97.1 != xa.2.2.1))] ?_))
          refine Ok.nil (Ok.thenN (Ok.cond (b := (e97.1 != xa.2.2.1)) rfl (fun hc99 => ?_) (fun hc99 => ?_)))
          ·replace hF := hF.1 hc99
           refine Ok.region (Ok.bat 1 [2, 3, 4, 7, 13, 142, 143, 144] [(153, .slice ayown94_0l86 yown94_0l86.length cyown94_0l86)] ?_)
           refine Ok.op rfl (OpOk.step (v := .agg #[.int .i64 e97.1, .int .i64 e97.2.1, .int .i64 e97.2.2.1, .int .i64 e97.2.2.2.1, sv e97.2.2.2.2]) (Yields.loadAgg 0 5 #[.int .i64 e97.1, .int .i64 e97.2.1, .int .i64 e97.2.2.1, .int .i64 e97.2.2.2.1, sv e97.2.2.2.2] rfl rfl Try.underlying93 rfl (by kernel_rfl) (by kernel_rfl) (by kernel_rfl)) rfl rfl ?_)
           have hL100 : RepL gl86 (.pair (.int .i64) (.pair (.int .i64) (.pair (.int .i64) (.pair (.int .i64) (.str))))) ([.int .i64 e97.1, .int .i64 e97.2.1, .int .i64 e97.2.2.1, .int .i64 e97.2.2.2.1, sv e97.2.2.2.2] : List Value) ([e97] : List (JT)) := (RepL.consN (c := [.int .i64 e97.1, .int .i64 e97.2.1, .int .i64 e97.2.2.1, .int .i64 e97.2.2.2.1, sv e97.2.2.2.2]) ⟨[.int .i64 e97.1], [.int .i64 e97.2.1, .int .i64 e97.2.2.1, .int .i64 e97.2.2.2.1, sv e97.2.2.2.2], rfl, rfl, ⟨[.int .i64 e97.2.1], [.int .i64 e97.2.2.1, .int .i64 e97.2.2.2.1, sv e97.2.2.2.2], rfl, rfl, ⟨[.int .i64 e97.2.2.1], [.int .i64 e97.2.2.2.1, sv e97.2.2.2.2], rfl, rfl, ⟨[.int .i64 e97.2.2.2.1], [sv e97.2.2.2.2], rfl, rfl, rfl⟩⟩⟩⟩ rfl)
           refine Ok.op rfl (OpOk.lit (E := 93) (.pair (.int .i64) (.pair (.int .i64) (.pair (.int .i64) (.pair (.int .i64) (.str))))) ([e97] : List (JT)) ([.int .i64 e97.1, .int .i64 e97.2.1, .int .i64 e97.2.2.1, .int .i64 e97.2.2.2.1, sv e97.2.2.2.2] : List Value) (by kernel_rfl) (by kernel_rfl) rfl (by kernel_rfl) hL100 rfl fun b100 => ?_)
           obtain ⟨hb101, hF⟩ := hF
           refine Ok.op rfl (OpOk.append' (e := .pair (.int .i64) (.pair (.int .i64) (.pair (.int .i64) (.pair (.int .i64) (.str))))) 48 2932031007402 2 0 rfl rfl rfl rfl hLyown94_0l86 hL100 Try.underlying35 (by kernel_rfl) (by kernel_rfl) (by kernel_rfl) hb101 rfl fun a101 c101 xs101 hL101 => ?_)
           refine Ok.bat 1 [2, 3, 4, 7, 142, 143, 144] [(11, .slice a101 (yown94_0l86 ++ ([e97] : List (JT))).length c101)] ?_
           refine Ok.nil (Ok.blockN (Ok.thenN ?_))
           subst hg97
           refine Ok.reval 11 rfl (show (.slice a101 (yown94_0l86 ++ ([(xq.2.2.2.2.getD (Int.toNat x144l86) default)] : List (JT))).length c101 : Value) = .slice a101 (rlaV8 xq xa x144l86 yown94_0l86).length c101 from congrArg (fun l : List (JT) => Value.slice a101 l.length c101) ((if_t hc99).symm)) ?_
           refine Ok.entEq 2 (e' := .own (.slice a101 (rlaV8 xq xa x144l86 yown94_0l86).length c101) 93 5 (rlaV8 xq xa x144l86 yown94_0l86).length xs101) rfl (congrArg (fun l : List (JT) => Ent.own (.slice a101 l.length c101) 93 5 l.length xs101) ((if_t hc99).symm)) ?_
           exact fun a W hA hW => ⟨gl86, (Gext.refl w0 gl86), a101, c101, xs101, (Eq.mp (congrArg (fun l : List (JT) => RepL gl86 (.pair (.int .i64) (.pair (.int .i64) (.pair (.int .i64) (.pair (.int .i64) (.str))))) xs101 l) ((if_t hc99).symm)) hL101), hA.sub (by kernel_rfl), hW.sub (.cons _ (.cons _ (.cons_cons _ (.cons_cons _ (.cons_cons _ (.cons_cons _ (.cons_cons _ (.cons_cons _ (.cons_cons _ .slnil))))))))), hF⟩
          ·replace hF := hF.2 hc99
           refine Ok.skip (Ok.blockN (Ok.thenN ?_))
           subst hg97
           refine Ok.reval 11 rfl (show (.slice ayown94_0l86 yown94_0l86.length cyown94_0l86 : Value) = .slice ayown94_0l86 (rlaV8 xq xa x144l86 yown94_0l86).length cyown94_0l86 from congrArg (fun l : List (JT) => Value.slice ayown94_0l86 l.length cyown94_0l86) ((if_f hc99).symm)) ?_
           refine Ok.entEq 1 (e' := .own (.slice ayown94_0l86 (rlaV8 xq xa x144l86 yown94_0l86).length cyown94_0l86) 93 5 (rlaV8 xq xa x144l86 yown94_0l86).length xsyown94_0l86) rfl (congrArg (fun l : List (JT) => Ent.own (.slice ayown94_0l86 l.length cyown94_0l86) 93 5 l.length xsyown94_0l86) ((if_f hc99).symm)) ?_
           exact fun a W hA hW => ⟨gl86, (Gext.refl w0 gl86), ayown94_0l86, cyown94_0l86, xsyown94_0l86, (Eq.mp (congrArg (fun l : List (JT) => RepL gl86 (.pair (.int .i64) (.pair (.int .i64) (.pair (.int .i64) (.pair (.int .i64) (.str))))) xsyown94_0l86 l) ((if_f hc99).symm)) hLyown94_0l86), hA.sub (by kernel_rfl), hW.sub (.cons _ (.cons_cons _ (.cons_cons _ (.cons_cons _ (.cons_cons _ (.cons_cons _ (.cons_cons _ (.cons_cons _ .slnil)))))))), hF⟩
         ·
          clear hF
          rintro a W ⟨gj93, hxj93, ayown94_0j93, cyown94_0j93, xsyown94_0j93, hLyown94_0j93, hA, hW, hF⟩
          refine (?_ : Ok _ _ _ _ _ _) a W hA hW
          clear hA hW
          replace hRxq_2 := hRxq_2.mono hxj93.1
          replace hL3 := hL3.mono hxj93.1
          replace hL4 := hL4.mono hxj93.1
          replace hL5 := hL5.mono hxj93.1
          replace hRxq_0 := hRxq_0.mono hxj93.1
          replace hRxq_1 := hRxq_1.mono hxj93.1
          refine Ok.region (Ok.bat 2 [2, 3, 4, 7, 11, 142, 143] [(144, .int .i64 (w6 (x144l86 + 1)))] ?_)
          refine Ok.nil (Ok.thenN ?_)
          exact fun a W hA hW => ⟨k86, Nat.lt_succ_self _, gj93, (hxl86.trans hxj93), w6 (x144l86 + 1), ayown94_0j93, cyown94_0j93, (rlaV8 xq xa x144l86 yown94_0l86), xsyown94_0j93, hLyown94_0j93, hA.sub (by kernel_rfl), hW, hF⟩
        ·replace hF := hF.2 hc95
         refine Ok.exit (Ok.thenE (Ok.thenE (Ok.blockHit (Ok.thenN (Ok.seq (Ok.seq (Ok.region (Ok.bat 3 [2, 4, 7, 11] [(159, .int .i64 (yown94_0l86.length : Int)), (160, pv bs2 4)] ?_))))))))
         refine Ok.op rfl (OpOk.step (v := .slice axq_2 xq.2.2.2.2.length cxq_2) (Yields.load 6 rfl rfl Try.underlying35 rfl (by kernel_rfl)) rfl rfl (Ok.bat 2 [2, 4, 7, 11] [(163, .bool ((yown94_0l86.length : Int) == (xq.2.2.2.2.length : Int)))] ?_))
         refine Ok.nil (Ok.thenN (Ok.cond (b := ((yown94_0l86.length : Int) == (xq.2.2.2.2.length : Int))) rfl (fun hc102 => ?_) (fun hc102 => ?_)))
         ·replace hF := hF.1 hc102
          refine Ok.seq (Ok.region (Ok.bat 1 [4] [(164, .func (.func 52) #[] #[])] ?_))
          refine Ok.op rfl (OpOk.inline (args := #[.int .i64 5]) 7 [(0, .int .i64 5)] enr Try.func52 rfl rfl rfl rfl (Ok.seq (Ok.region ?_)))
          have hL103 : RepL gl86 (.pair (.int .i64) (.pair (.int .i64) (.pair (.bool) (.pair (.str) (.pair (.int .i64) (.pair (.int .i64) (.str))))))) [] [] := rfl
          refine Ok.ownNil 43 7 ?_
          have hL104 : RepL gl86 (.pair (.int .i64) (.pair (.int .i64) (.pair (.bool) (.pair (.str) (.pair (.int .i64) (.pair (.int .i64) (.str))))))) [] [] := rfl
          refine Ok.ownNil 43 7 ?_
          have hL105 : RepL gl86 (.pair (.int .i64) (.pair (.int .i64) (.pair (.int .i64) (.pair (.int .i64) (.str))))) [] [] := rfl
          refine Ok.ownNil 93 5 (Ok.op rfl (OpOk.alloc (z := .agg #[.int .i64 0, .int .i64 0, .slice none ([] : List (JJ)).length 0, .slice none ([] : List (JJ)).length 0, .slice none ([] : List (JT)).length 0]) (cs := #[.int .i64 0, .int .i64 0, .slice none ([] : List (JJ)).length 0, .slice none ([] : List (JJ)).length 0, .slice none ([] : List (JT)).length 0]) (by kernel_rfl) (by kernel_rfl) rfl fun bs2i165 => ?_))
          refine Ok.batch 2 [(0, .int .i64 5), (2, pv bs2i165 0)] (by kernel_rfl) (Ok.nil (Ok.thenN (Ok.seq (Ok.region (Ok.bat 2 [2] [(5, .agg #[.int .i64 0, .int .i64 0, .slice none 0 0, .slice none 0 0, .slice none 0 0]), (6, .int .i64 5)] ?_)))))
          have hL107 : RepL gl86 (.pair (.int .i64) (.pair (.int .i64) (.pair (.bool) (.pair (.str) (.pair (.int .i64) (.pair (.int .i64) (.str))))))) [] [] := rfl
          refine Ok.ownNil 43 7 ?_
          have hL108 : RepL gl86 (.pair (.int .i64) (.pair (.int .i64) (.pair (.bool) (.pair (.str) (.pair (.int .i64) (.pair (.int .i64) (.str))))))) [] [] := rfl
          refine Ok.ownNil 43 7 ?_
          have hL109 : RepL gl86 (.pair (.int .i64) (.pair (.int .i64) (.pair (.int .i64) (.pair (.int .i64) (.str))))) [] [] := rfl
          refine Ok.ownNil 93 5 (Ok.op rfl (OpOk.sto (k := 5) (v := .agg #[.int .i64 0, .int .i64 0, .slice none ([] : List (JJ)).length 0, .slice none ([] : List (JJ)).length 0, .slice none ([] : List (JT)).length 0]) 3 #[.int .i64 0, .int .i64 0, .slice none ([] : List (JJ)).length 0, .slice none ([] : List (JJ)).length 0, .slice none ([] : List (JT)).length 0] rfl rfl rfl ?_))
          refine Ok.bat 2 [2] [(3, .int .i64 0), (4, .int .i64 5)] ?_
          refine Ok.nil (Ok.thenN (Ok.ret (Ok.back (vs := [.agg #[.int .i64 0, .int .i64 0, .slice none ([] : List (JJ)).length 0, .slice none ([] : List (JJ)).length 0, .slice none ([] : List (JT)).length 0], .int .i64 0, .int .i64 5]) (.inl rfl) rfl (.cons (.cellAgg 3 5 #[.int .i64 0, .int .i64 0, .slice none ([] : List (JJ)).length 0, .slice none ([] : List (JJ)).length 0, .slice none ([] : List (JT)).length 0] rfl rfl Try.underlying37 rfl (by kernel_rfl) (by kernel_rfl) (by kernel_rfl)) (.cons (.tmp rfl) (.cons (.tmp rfl) .nil))) rfl (Ok.batch 3 [(4, pv bs4 0), (166, .agg #[.int .i64 0, .int .i64 0, .slice none ([] : List (JJ)).length 0, .slice none ([] : List (JJ)).length 0, .slice none ([] : List (JT)).length 0]), (167, .int .i64 0), (168, .int .i64 5)] (by kernel_rfl) (Ok.op rfl (OpOk.sto (k := 5) (v := .agg #[.int .i64 0, .int .i64 0, .slice none ([] : List (JJ)).length 0, .slice none ([] : List (JJ)).length 0, .slice none ([] : List (JT)).length 0]) 8 #[.int .i64 0, .int .i64 0, .slice none ([] : List (JJ)).length 0, .slice none ([] : List (JJ)).length 0, .slice none ([] : List (JT)).length 0] rfl rfl rfl ?_))))))
          refine Ok.bat 2 [4] [(5, .int .i64 0), (6, .int .i64 5)] ?_
          refine Ok.nil (Ok.thenN (Ok.ret (Ok.thenR (Ok.blockR (Ok.thenR (Ok.frz 2 rfl hL107 fun g110 hx110 hRf110 => ?_))))))
          replace hL109 := hL109.mono hx110.1
          replace hL108 := hL108.mono hx110.1
          replace hL105 := hL105.mono hx110.1
          replace hL104 := hL104.mono hx110.1
          replace hL103 := hL103.mono hx110.1
          replace hLyown94_0l86 := hLyown94_0l86.mono hx110.1
          replace hL5 := hL5.mono hx110.1
          replace hL4 := hL4.mono hx110.1
          replace hL3 := hL3.mono hx110.1
          replace hRxq_0 := hRxq_0.mono hx110.1
          replace hRxq_1 := hRxq_1.mono hx110.1
          replace hRxq_2 := hRxq_2.mono hx110.1
          refine Ok.frz 1 rfl hL108 fun g111 hx111 hRf111 => ?_
          replace hL109 := hL109.mono hx111.1
          replace hRf110 := hRf110.mono hx111.1
          replace hL105 := hL105.mono hx111.1
          replace hL104 := hL104.mono hx111.1
          replace hL103 := hL103.mono hx111.1
          replace hLyown94_0l86 := hLyown94_0l86.mono hx111.1
          replace hL5 := hL5.mono hx111.1
          replace hL4 := hL4.mono hx111.1
          replace hL3 := hL3.mono hx111.1
          replace hRxq_0 := hRxq_0.mono hx111.1
          replace hRxq_1 := hRxq_1.mono hx111.1
          replace hRxq_2 := hRxq_2.mono hx111.1
          refine Ok.frz 0 rfl hL109 fun g112 hx112 hRf112 => ?_
          replace hRf110 := hRf110.mono hx112.1
          replace hRf111 := hRf111.mono hx112.1
          replace hL105 := hL105.mono hx112.1
          replace hL104 := hL104.mono hx112.1
          replace hL103 := hL103.mono hx112.1
          replace hLyown94_0l86 := hLyown94_0l86.mono hx112.1
          replace hL5 := hL5.mono hx112.1
          replace hL4 := hL4.mono hx112.1
          replace hL3 := hL3.mono hx112.1
          replace hRxq_0 := hRxq_0.mono hx112.1
          replace hRxq_1 := hRxq_1.mono hx112.1
          replace hRxq_2 := hRxq_2.mono hx112.1
          exact Ok.resP (vs := [.agg #[.int .i64 0, .int .i64 0, .slice none ([] : List (JJ)).length 0, .slice none ([] : List (JJ)).length 0, .slice none ([] : List (JT)).length 0], .int .i64 0, .int .i64 5]) [] [] (by decide) rfl (.inl rfl) rfl (.cons (.cellAgg 5 5 #[.int .i64 0, .int .i64 0, .slice none ([] : List (JJ)).length 0, .slice none ([] : List (JJ)).length 0, .slice none ([] : List (JT)).length 0] rfl rfl Try.underlying37 rfl (by kernel_rfl) (by kernel_rfl) (by kernel_rfl)) (.cons (.tmp rfl) (.cons (.tmp rfl) .nil))) ((((hxj45.trans hxl86).trans hx110).trans hx111).trans hx112) ⟨(0, 0, ([] : List (JJ)), ([] : List (JJ)), ([] : List (JT))), 0, 5, none, 0, none, 0, none, 0, rfl, hRf110, hRf111, hRf112, rfl, hF⟩
         ·replace hF := hF.2 hc102
          refine Ok.skip (Ok.thenN (Ok.seq (Ok.region (Ok.bat 2 [2, 4] [(169, .slice ayown94_0l86 yown94_0l86.length cyown94_0l86), (170, pv bs2 4)] ?_))))
          refine Ok.op rfl (OpOk.sto (k := 1) (v := .slice ayown94_0l86 yown94_0l86.length cyown94_0l86) 6 #[.int .i64 xq.1, .int .i64 xq.2.1, .slice axq_0 xq.2.2.1.length cxq_0, .slice axq_1 xq.2.2.2.1.length cxq_1, .slice ayown94_0l86 yown94_0l86.length cyown94_0l86] rfl rfl rfl ?_)
          refine Ok.nil (Ok.thenN (Ok.seq (Ok.region (Ok.op rfl (OpOk.step (v := .agg #[.int .i64 xq.1, .int .i64 xq.2.1, .slice axq_0 xq.2.2.1.length cxq_0, .slice axq_1 xq.2.2.2.1.length cxq_1, .slice ayown94_0l86 yown94_0l86.length cyown94_0l86]) (Yields.loadAgg 6 5 #[.int .i64 xq.1, .int .i64 xq.2.1, .slice axq_0 xq.2.2.1.length cxq_0, .slice axq_1 xq.2.2.2.1.length cxq_1, .slice ayown94_0l86 yown94_0l86.length cyown94_0l86] rfl rfl Try.underlying37 rfl (by kernel_rfl) (by kernel_rfl) (by kernel_rfl)) rfl rfl (Ok.op rfl (OpOk.sto (k := 5) (v := .agg #[.int .i64 xq.1, .int .i64 xq.2.1, .slice axq_0 xq.2.2.1.length cxq_0, .slice axq_1 xq.2.2.2.1.length cxq_1, .slice ayown94_0l86 yown94_0l86.length cyown94_0l86]) 1 #[.int .i64 xq.1, .int .i64 xq.2.1, .slice axq_0 xq.2.2.1.length cxq_0, .slice axq_1 xq.2.2.2.1.length cxq_1, .slice ayown94_0l86 yown94_0l86.length cyown94_0l86] rfl rfl rfl ?_)))))))
          refine Ok.bat 2 [4] [(5, .int .i64 0), (6, .int .i64 0)] ?_
          refine Ok.nil (Ok.thenN (Ok.ret (Ok.blockR (Ok.thenR (Ok.frz 0 rfl hLyown94_0l86 fun g113 hx113 hRf113 => ?_)))))
          replace hRxq_0 := hRxq_0.mono hx113.1
          replace hRxq_1 := hRxq_1.mono hx113.1
          replace hL5 := hL5.mono hx113.1
          replace hL4 := hL4.mono hx113.1
          replace hL3 := hL3.mono hx113.1
          exact Ok.resP (vs := [.agg #[.int .i64 xq.1, .int .i64 xq.2.1, .slice axq_0 xq.2.2.1.length cxq_0, .slice axq_1 xq.2.2.2.1.length cxq_1, .slice ayown94_0l86 yown94_0l86.length cyown94_0l86], .int .i64 0, .int .i64 0]) [] [] (by decide) rfl (.inl rfl) rfl (.cons (.cellAgg 0 5 #[.int .i64 xq.1, .int .i64 xq.2.1, .slice axq_0 xq.2.2.1.length cxq_0, .slice axq_1 xq.2.2.2.1.length cxq_1, .slice ayown94_0l86 yown94_0l86.length cyown94_0l86] rfl rfl Try.underlying37 rfl (by kernel_rfl) (by kernel_rfl) (by kernel_rfl)) (.cons (.tmp rfl) (.cons (.tmp rfl) .nil))) ((hxj45.trans hxl86).trans hx113) ⟨(xq.1, xq.2.1, xq.2.2.1, xq.2.2.2.1, yown94_0l86), 0, 0, axq_0, cxq_0, axq_1, cxq_1, ayown94_0l86, cyown94_0l86, rfl, hRxq_0, hRxq_1, hRf113, rfl, hF⟩
     ·replace hF := hF.2 hc93
      refine Ok.seq (Ok.region (Ok.bat 1 [4] [(19, .func (.func 52) #[] #[])] ?_))
      refine Ok.op rfl (OpOk.inline (args := #[.int .i64 3]) 7 [(0, .int .i64 3)] enr Try.func52 rfl rfl rfl rfl (Ok.seq (Ok.region ?_)))
      have hL114 : RepL gj45 (.pair (.int .i64) (.pair (.int .i64) (.pair (.bool) (.pair (.str) (.pair (.int .i64) (.pair (.int .i64) (.str))))))) [] [] := rfl
      refine Ok.ownNil 43 7 ?_
      have hL115 : RepL gj45 (.pair (.int .i64) (.pair (.int .i64) (.pair (.bool) (.pair (.str) (.pair (.int .i64) (.pair (.int .i64) (.str))))))) [] [] := rfl
      refine Ok.ownNil 43 7 ?_
      have hL116 : RepL gj45 (.pair (.int .i64) (.pair (.int .i64) (.pair (.int .i64) (.pair (.int .i64) (.str))))) [] [] := rfl
      refine Ok.ownNil 93 5 (Ok.op rfl (OpOk.alloc (z := .agg #[.int .i64 0, .int .i64 0, .slice none ([] : List (JJ)).length 0, .slice none ([] : List (JJ)).length 0, .slice none ([] : List (JT)).length 0]) (cs := #[.int .i64 0, .int .i64 0, .slice none ([] : List (JJ)).length 0, .slice none ([] : List (JJ)).length 0, .slice none ([] : List (JT)).length 0]) (by kernel_rfl) (by kernel_rfl) rfl fun bs2i20 => ?_))
      refine Ok.batch 2 [(0, .int .i64 3), (2, pv bs2i20 0)] (by kernel_rfl) (Ok.nil (Ok.thenN (Ok.seq (Ok.region (Ok.bat 2 [2] [(5, .agg #[.int .i64 0, .int .i64 0, .slice none 0 0, .slice none 0 0, .slice none 0 0]), (6, .int .i64 3)] ?_)))))
      have hL118 : RepL gj45 (.pair (.int .i64) (.pair (.int .i64) (.pair (.bool) (.pair (.str) (.pair (.int .i64) (.pair (.int .i64) (.str))))))) [] [] := rfl
      refine Ok.ownNil 43 7 ?_
      have hL119 : RepL gj45 (.pair (.int .i64) (.pair (.int .i64) (.pair (.bool) (.pair (.str) (.pair (.int .i64) (.pair (.int .i64) (.str))))))) [] [] := rfl
      refine Ok.ownNil 43 7 ?_
      have hL120 : RepL gj45 (.pair (.int .i64) (.pair (.int .i64) (.pair (.int .i64) (.pair (.int .i64) (.str))))) [] [] := rfl
      refine Ok.ownNil 93 5 (Ok.op rfl (OpOk.sto (k := 5) (v := .agg #[.int .i64 0, .int .i64 0, .slice none ([] : List (JJ)).length 0, .slice none ([] : List (JJ)).length 0, .slice none ([] : List (JT)).length 0]) 3 #[.int .i64 0, .int .i64 0, .slice none ([] : List (JJ)).length 0, .slice none ([] : List (JJ)).length 0, .slice none ([] : List (JT)).length 0] rfl rfl rfl ?_))
      refine Ok.bat 2 [2] [(3, .int .i64 0), (4, .int .i64 3)] ?_
      refine Ok.nil (Ok.thenN (Ok.ret (Ok.back (vs := [.agg #[.int .i64 0, .int .i64 0, .slice none ([] : List (JJ)).length 0, .slice none ([] : List (JJ)).length 0, .slice none ([] : List (JT)).length 0], .int .i64 0, .int .i64 3]) (.inl rfl) rfl (.cons (.cellAgg 3 5 #[.int .i64 0, .int .i64 0, .slice none ([] : List (JJ)).length 0, .slice none ([] : List (JJ)).length 0, .slice none ([] : List (JT)).length 0] rfl rfl Try.underlying37 rfl (by kernel_rfl) (by kernel_rfl) (by kernel_rfl)) (.cons (.tmp rfl) (.cons (.tmp rfl) .nil))) rfl (Ok.batch 3 [(4, pv bs4 0), (21, .agg #[.int .i64 0, .int .i64 0, .slice none ([] : List (JJ)).length 0, .slice none ([] : List (JJ)).length 0, .slice none ([] : List (JT)).length 0]), (22, .int .i64 0), (23, .int .i64 3)] (by kernel_rfl) (Ok.op rfl (OpOk.sto (k := 5) (v := .agg #[.int .i64 0, .int .i64 0, .slice none ([] : List (JJ)).length 0, .slice none ([] : List (JJ)).length 0, .slice none ([] : List (JT)).length 0]) 7 #[.int .i64 0, .int .i64 0, .slice none ([] : List (JJ)).length 0, .slice none ([] : List (JJ)).length 0, .slice none ([] : List (JT)).length 0] rfl rfl rfl ?_))))))
      refine Ok.bat 2 [4] [(5, .int .i64 0), (6, .int .i64 3)] ?_
      refine Ok.nil (Ok.thenN (Ok.ret (Ok.blockR (Ok.thenR (Ok.frz 2 rfl hL118 fun g121 hx121 hRf121 => ?_)))))
      replace hL120 := hL120.mono hx121.1
      replace hL119 := hL119.mono hx121.1
      replace hL116 := hL116.mono hx121.1
      replace hL115 := hL115.mono hx121.1
      replace hL114 := hL114.mono hx121.1
      replace hL5 := hL5.mono hx121.1
      replace hL4 := hL4.mono hx121.1
      replace hL3 := hL3.mono hx121.1
      replace hRxq_0 := hRxq_0.mono hx121.1
      replace hRxq_1 := hRxq_1.mono hx121.1
      replace hRxq_2 := hRxq_2.mono hx121.1
      refine Ok.frz 1 rfl hL119 fun g122 hx122 hRf122 => ?_
      replace hL120 := hL120.mono hx122.1
      replace hRf121 := hRf121.mono hx122.1
      replace hL116 := hL116.mono hx122.1
      replace hL115 := hL115.mono hx122.1
      replace hL114 := hL114.mono hx122.1
      replace hL5 := hL5.mono hx122.1
      replace hL4 := hL4.mono hx122.1
      replace hL3 := hL3.mono hx122.1
      replace hRxq_0 := hRxq_0.mono hx122.1
      replace hRxq_1 := hRxq_1.mono hx122.1
      replace hRxq_2 := hRxq_2.mono hx122.1
      refine Ok.frz 0 rfl hL120 fun g123 hx123 hRf123 => ?_
      replace hRf121 := hRf121.mono hx123.1
      replace hRf122 := hRf122.mono hx123.1
      replace hL116 := hL116.mono hx123.1
      replace hL115 := hL115.mono hx123.1
      replace hL114 := hL114.mono hx123.1
      replace hL5 := hL5.mono hx123.1
      replace hL4 := hL4.mono hx123.1
      replace hL3 := hL3.mono hx123.1
      replace hRxq_0 := hRxq_0.mono hx123.1
      replace hRxq_1 := hRxq_1.mono hx123.1
      replace hRxq_2 := hRxq_2.mono hx123.1
      exact Ok.resP (vs := [.agg #[.int .i64 0, .int .i64 0, .slice none ([] : List (JJ)).length 0, .slice none ([] : List (JJ)).length 0, .slice none ([] : List (JT)).length 0], .int .i64 0, .int .i64 3]) [] [] (by decide) rfl (.inl rfl) rfl (.cons (.cellAgg 4 5 #[.int .i64 0, .int .i64 0, .slice none ([] : List (JJ)).length 0, .slice none ([] : List (JJ)).length 0, .slice none ([] : List (JT)).length 0] rfl rfl Try.underlying37 rfl (by kernel_rfl) (by kernel_rfl) (by kernel_rfl)) (.cons (.tmp rfl) (.cons (.tmp rfl) .nil))) (((hxj45.trans hx121).trans hx122).trans hx123) ⟨(0, 0, ([] : List (JJ)), ([] : List (JJ)), ([] : List (JT))), 0, 3, none, 0, none, 0, none, 0, rfl, hRf121, hRf122, hRf123, rfl, hF⟩
theorem room_not (n : Nat) (q : JL) (h : q.2.1 ≤ 1000000000) : (!(decide ((n : Int) < 100) && decide (q.2.1 < 1000000000))) = fullB n q := by
 unfold fullB
 rw [Bool.eq_iff_iff]
 simp only [Bool.not_eq_true', Bool.and_eq_false_iff, decide_eq_false_iff_not, Bool.or_eq_true, decide_eq_true_eq, beq_iff_eq]
 omega
theorem rla_F (q : JL) (a : JK) (hp : lchS q = 0 ∧ (-9223372036854775808 ≤ a.2.2.1 ∧ a.2.2.1 ≤ 9223372036854775807)) : rlaF q a (fun r n e => (r, n, e) = raS q a) := by
 obtain ⟨hz, hpa⟩ := hp
 obtain ⟨hb, g⟩ := lch_zero hz
 have hs : q.2.2.1.length ≤ 100 ∧ q.2.2.2.1.length ≤ 100 ∧ q.2.2.2.2.length ≤ 100 := by unfold big at hb; omega
 have hnow := g.now
 have hnext := g.next
 have hw : ∀ {low : Int}, (!(lwiM a.2.2.1 low 1000000)) = false → 0 ≤ low → w6 (q.1 + a.2.2.1) = q.1 + a.2.2.1 := fun h hl => by
  have := nlwi_no h
  exact w64 (by omega)
 have hn1 : w6 (q.2.1 + 1) = q.2.1 + 1 := w64 (by omega)
 have hrl : ∀ x y z : Int, rbtM x y z = lwiM x y z := fun _ _ _ => rfl
 have e0 : (!(rlaV0 q)) = fullB q.2.2.1.length q := room_not _ q hnext.2
 have e1 : (!(rlaV1 q)) = fullB q.2.2.2.1.length q := room_not _ q hnext.2
 have e3 : (!(rlaV3 q)) = fullB q.2.2.2.2.length q := room_not _ q hnext.2
 refine ⟨fun d1 => ?_, fun d1 => ⟨fun d2 => ?_, fun d2 => ?_⟩⟩
 ·have hA : raS q a = (if (!(lwiM a.2.1 1 4)) = true then noL 1 else if fullB q.2.2.1.length q = true then noL 2 else ((q.1, q.2.1 + 1, q.2.2.1 ++ [(q.2.1, a.2.1, false, a.2.2.2.1, a.2.2.2.2)], q.2.2.2.1, q.2.2.2.2), q.2.1, 0)) := by
   unfold raS; rw [if_t d1]
  rw [hA]
  refine ⟨fun h => by rw [hrl] at h; rw [if_t h]; rfl, fun h => two ?_⟩
  rw [hrl] at h
  rw [if_f h]
  have hK : (!(rlaV0 q)) = false → jclP q.2.2.1 ∧ ((jclS q.2.2.1) ++ ([(q.2.1, a.2.1, false, a.2.2.2.1, a.2.2.2.2)] : List (JJ))).length ≤ 1954687338268 ∧ ((q.1, w6 (q.2.1 + 1), ((jclS q.2.2.1) ++ ([(q.2.1, a.2.1, false, a.2.2.2.1, a.2.2.2.2)] : List (JJ))), q.2.2.2.1, q.2.2.2.2), q.2.1, (0 : Int)) = (if fullB q.2.2.1.length q = true then noL 2 else ((q.1, q.2.1 + 1, q.2.2.1 ++ [(q.2.1, a.2.1, false, a.2.2.2.1, a.2.2.2.2)], q.2.2.2.1, q.2.2.2.2), q.2.1, 0)) := fun hf => by
   rw [e0] at hf
   refine ⟨by unfold jclP; omega, by rw [List.length_append, List.length_singleton]; unfold jclS; omega, ?_⟩
   rw [if_f hf, hn1]; rfl
  exact ⟨fun hf => by rw [e0] at hf; rw [if_t hf]; rfl, fun hf => ⟨hK hf, hK hf⟩⟩
 ·have hA : raS q a = (if fullB q.2.2.2.1.length q = true then noL 2 else ((q.1, q.2.1 + 1, q.2.2.1, q.2.2.2.1 ++ [(q.2.1, 0, true, a.2.2.2.1, a.2.2.2.2)], q.2.2.2.2), q.2.1, 0)) := by
   unfold raS; rw [if_f d1, if_t d2]
  rw [hA]
  refine two ?_
  have hK : (!(rlaV1 q)) = false → jclP q.2.2.2.1 ∧ ((jclS q.2.2.2.1) ++ ([(q.2.1, 0, true, a.2.2.2.1, a.2.2.2.2)] : List (JJ))).length ≤ 1954687338268 ∧ ((q.1, w6 (q.2.1 + 1), q.2.2.1, ((jclS q.2.2.2.1) ++ ([(q.2.1, 0, true, a.2.2.2.1, a.2.2.2.2)] : List (JJ))), q.2.2.2.2), q.2.1, (0 : Int)) = (if fullB q.2.2.2.1.length q = true then noL 2 else ((q.1, q.2.1 + 1, q.2.2.1, q.2.2.2.1 ++ [(q.2.1, 0, true, a.2.2.2.1, a.2.2.2.2)], q.2.2.2.2), q.2.1, 0)) := fun hf => by
   rw [e1] at hf
   refine ⟨by unfold jclP; omega, by rw [List.length_append, List.length_singleton]; unfold jclS; omega, ?_⟩
   rw [if_f hf, hn1]; rfl
  exact ⟨fun hf => by rw [e1] at hf; rw [if_t hf]; rfl, fun hf => ⟨hK hf, hK hf⟩⟩
 ·refine two ⟨fun d34 => ?_, fun d34 => ⟨fun d5 => ?_, fun d5 => ?_⟩⟩
  ·have h34 : a.1 = 3 ∨ a.1 = 4 := by
    rw [Bool.or_eq_true, beq_iff_eq, beq_iff_eq] at d34; exact d34
   have hA : raS q a = tmR q a (a.1 - 3) (if (a.1 == 4) = true then a.2.2.1 else 0) := by
    unfold raS
    rw [if_f d1, if_f d2]
    rcases h34 with h | h
    ·rw [h]; rfl
    ·rw [h]; rfl
   rw [hA]
   have hV2 : rlaV2 q a = tmB q a (a.1 - 3) := by
    unfold rlaV2 tmB
    rw [w64 (by omega), hrl]
    cases hc : (!(lwiM a.2.2.1 (a.1 - 3) 1000000))
    ·rw [hw hc (by omega)]
    ·rfl
   have j61 : rlaj61 q a (fun r n e => (r, n, e) = tmR q a (a.1 - 3) (if (a.1 == 4) = true then a.2.2.1 else 0)) := by
    refine ⟨fun hv => ?_, fun hv => two ⟨fun hf => ?_, fun hf => ⟨by unfold rplP; omega, ?_⟩⟩⟩
    ·rw [hV2] at hv
     unfold tmR; rw [if_t hv]; rfl
    ·rw [hV2] at hv
     rw [e3] at hf
     unfold tmR; rw [if_f hv, if_t hf]; rfl
    ·rw [hV2] at hv
     rw [e3] at hf
     have h4 : (!(lwiM a.2.2.1 (a.1 - 3) 1000000)) = false := by unfold tmB at hv; exact (Bool.or_eq_false_iff.1 hv).1
     unfold tmR; rw [if_f hv, if_f hf, hn1, hw h4 (by omega)]
   have j54 : rlaj54 q a (fun r n e => (r, n, e) = tmR q a (a.1 - 3) (if (a.1 == 4) = true then a.2.2.1 else 0)) := two j61
   exact two j54
  ·rw [Bool.or_eq_false_iff] at d34
   have hA : raS q a = (if (q.2.2.2.2.filter (fun t => t.1 != a.2.2.1)).length = q.2.2.2.2.length then noL 5 else ((q.1, q.2.1, q.2.2.1, q.2.2.2.1, q.2.2.2.2.filter (fun t => t.1 != a.2.2.1)), 0, 0)) := by
    unfold raS; rw [if_f d1, if_f d2, if_f d34.1, if_f d34.2, if_t d5]
   rw [hA]
   have loop : ∀ (k i : Nat), i + k = q.2.2.2.2.length → rlal86 q a (fun r n e => (r, n, e) = (if (q.2.2.2.2.filter (fun t => t.1 != a.2.2.1)).length = q.2.2.2.2.length then noL 5 else ((q.1, q.2.1, q.2.2.1, q.2.2.2.1, q.2.2.2.2.filter (fun t => t.1 != a.2.2.1)), 0, 0))) (k + 1) (i : Int) ((q.2.2.2.2.take i).filter (fun t => t.1 != a.2.2.1)) := by
    intro k
    induction k with
    | zero =>
     intro i hi
     rw [List.take_of_length_le (by omega)]
     refine ⟨fun hh => by have := of_decide_eq_true hh; omega, fun _ => ⟨fun hh => ?_, fun hh => ?_⟩⟩
     ·rw [beq_iff_eq] at hh
      rw [if_pos (by omega)]; rfl
     ·rw [beq_eq_false_iff_ne] at hh
      rw [if_neg (by omega)]
    | succ k ih =>
     intro i hi
     have hil : i < q.2.2.2.2.length := by omega
     have hl := List.length_filter_le (fun t : JT => t.1 != a.2.2.1) (q.2.2.2.2.take i)
     rw [List.length_take] at hl
     have hv : rlaV8 q a (i : Int) ((q.2.2.2.2.take i).filter (fun t => t.1 != a.2.2.1)) = (q.2.2.2.2.take (i + 1)).filter (fun t => t.1 != a.2.2.1) := by
      unfold rlaV8
      rw [Int.toNat_natCast, take_get default hil, List.filter_append, List.filter_cons]
      cases hc : ((q.2.2.2.2.getD i default).1 != a.2.2.1)
      ·rw [if_f rfl, if_f rfl, List.filter_nil, List.append_nil]
      ·rw [if_t rfl, if_t rfl, List.filter_nil]
     have j93 : rlaj93 q a (i : Int) ((q.2.2.2.2.take i).filter (fun t => t.1 != a.2.2.1)) (rlal86 q a (fun r n e => (r, n, e) = (if (q.2.2.2.2.filter (fun t => t.1 != a.2.2.1)).length = q.2.2.2.2.length then noL 5 else ((q.1, q.2.1, q.2.2.1, q.2.2.2.1, q.2.2.2.2.filter (fun t => t.1 != a.2.2.1)), 0, 0))) (k + 1)) := by
      unfold rlaj93
      rw [hv, w64 (by omega)]
      exact ih (i + 1) (by omega)
     exact ⟨fun _ => ⟨by omega, by rw [Int.toNat_natCast]; exact hil, fun _ => ⟨by rw [List.length_append, List.length_singleton]; omega, j93⟩, fun _ => j93⟩, fun hh => by have := of_decide_eq_false hh; omega⟩
   exact ⟨_, loop q.2.2.2.2.length 0 (by omega)⟩
  ·rw [Bool.or_eq_false_iff] at d34
   unfold raS; rw [if_f d1, if_f d2, if_f d34.1, if_f d34.2, if_f d5]; rfl
def rlaP (q : JL) (a : JK) : Prop := lchS q = 0 ∧ (-9223372036854775808 ≤ a.2.2.1 ∧ a.2.2.1 ≤ 9223372036854775807)
theorem rla_c {g : Ghost} {axq_0 : Option Addr} {cxq_0 : Nat} {axq_1 : Option Addr} {cxq_1 : Nat} {axq_2 : Option Addr} {cxq_2 : Nat} (xq : Int × Int × (List (Int × Int × Bool × Bs × Int × Int × Bs)) × (List (Int × Int × Bool × Bs × Int × Int × Bs)) × List (Int × Int × Int × Int × Bs)) (xa : Int × Int × Int × Bs × Int × Int × Bs) (hRxq_0 : Rep g (.slice (.pair (.int .i64) (.pair (.int .i64) (.pair (.bool) (.pair (.str) (.pair (.int .i64) (.pair (.int .i64) (.str)))))))) [.slice axq_0 xq.2.2.1.length cxq_0] xq.2.2.1) (hRxq_1 : Rep g (.slice (.pair (.int .i64) (.pair (.int .i64) (.pair (.bool) (.pair (.str) (.pair (.int .i64) (.pair (.int .i64) (.str)))))))) [.slice axq_1 xq.2.2.2.1.length cxq_1] xq.2.2.2.1) (hRxq_2 : Rep g (.slice (.pair (.int .i64) (.pair (.int .i64) (.pair (.int .i64) (.pair (.int .i64) (.str)))))) [.slice axq_2 xq.2.2.2.2.length cxq_2] xq.2.2.2.2)  (hp : rlaP xq xa) : CallsH Try.prog 16 #[.agg #[.int .i64 xq.1, .int .i64 xq.2.1, .slice axq_0 xq.2.2.1.length cxq_0, .slice axq_1 xq.2.2.2.1.length cxq_1, .slice axq_2 xq.2.2.2.2.length cxq_2], .agg #[.int .i64 xa.1, .int .i64 xa.2.1, .int .i64 xa.2.2.1, sv xa.2.2.2.1, .int .i64 xa.2.2.2.2.1, .int .i64 xa.2.2.2.2.2.1, sv xa.2.2.2.2.2.2]] g [] (fun g' H' v => ∃ (ar0_0 : Option Addr) (cr0_0 : Nat), ∃ (ar0_1 : Option Addr) (cr0_1 : Nat), ∃ (ar0_2 : Option Addr) (cr0_2 : Nat), v = .tuple #[.agg #[.int .i64 (raS xq xa).1.1, .int .i64 (raS xq xa).1.2.1, .slice ar0_0 (raS xq xa).1.2.2.1.length cr0_0, .slice ar0_1 (raS xq xa).1.2.2.2.1.length cr0_1, .slice ar0_2 (raS xq xa).1.2.2.2.2.length cr0_2], .int .i64 (raS xq xa).2.1, .int .i64 (raS xq xa).2.2] ∧ Rep g' (.slice (.pair (.int .i64) (.pair (.int .i64) (.pair (.bool) (.pair (.str) (.pair (.int .i64) (.pair (.int .i64) (.str)))))))) [.slice ar0_0 (raS xq xa).1.2.2.1.length cr0_0] (raS xq xa).1.2.2.1 ∧ Rep g' (.slice (.pair (.int .i64) (.pair (.int .i64) (.pair (.bool) (.pair (.str) (.pair (.int .i64) (.pair (.int .i64) (.str)))))))) [.slice ar0_1 (raS xq xa).1.2.2.2.1.length cr0_1] (raS xq xa).1.2.2.2.1 ∧ Rep g' (.slice (.pair (.int .i64) (.pair (.int .i64) (.pair (.int .i64) (.pair (.int .i64) (.str)))))) [.slice ar0_2 (raS xq xa).1.2.2.2.2.length cr0_2] (raS xq xa).1.2.2.2.2 ∧ H' = []) :=
 (rla_ok xq xa hRxq_0 hRxq_1 hRxq_2 _ (rla_F xq xa hp)).mono (by rintro g' H' v _ ⟨r0, r1, r2, ar0_0, cr0_0, ar0_1, cr0_1, ar0_2, cr0_2, rfl, hRr0_0, hRr0_1, hRr0_2, rfl, hK⟩; obtain ⟨rfl, rfl, rfl⟩ : r0 = (raS xq xa).1 ∧ r1 = (raS xq xa).2.1 ∧ r2 = (raS xq xa).2.2 := ⟨congrArg (fun z => z.1) hK, congrArg (fun z => z.2.1) hK, congrArg (fun z => z.2.2) hK⟩; exact ⟨ar0_0, cr0_0, ar0_1, cr0_1, ar0_2, cr0_2, rfl, hRr0_0, hRr0_1, hRr0_2, rfl⟩)
def rlnV4 (xq : JL) (xuntil : Int) (e16 : JT) : Bool :=
 ((decide (e16.2.1 > xq.1)) && ((decide ((xq.2.2.1.length : Int) > 0)) || (decide (e16.2.1 > xuntil))))
def rlnV5 (xq : JL) (e16 : JT) : Int :=
 (if (decide (e16.2.1 > xq.1)) = true then e16.2.1 else xq.1)
def rlnV6 (e16 : JT) : Bool :=
 ((decide (e16.2.2.1 > 0)) && ((decide (e16.2.2.2.1 < 1000000000)) && (decide ((w6 (e16.2.1 + e16.2.2.1)) ≤ 1000000000))))
def rlnV7 (xq : JL) (e16 : JT) : List (JT) :=
 (if (rlnV6 e16) = true then (llaS (xq.2.2.2.2.drop (Int.toNat 1)) (e16.1, w6 (e16.2.1 + e16.2.2.1), e16.2.2.1, w6 (e16.2.2.2.1 + 1), e16.2.2.2.2)) else (xq.2.2.2.2.drop (Int.toNat 1)))
def rlnj15 (xq : JL) (xuntil : Int) (K : (JL) → (JJ) → Bool → Prop) : Prop :=
 ((decide ((xq.2.2.1.length : Int) > 0)) = true → (0 : Int) ≤ 0 ∧ Int.toNat 0 < xq.2.2.1.length ∧ (0 : Int) ≤ 1 ∧ (1 : Int) ≤ (xq.2.2.1.length : Int) ∧ (xq.2.2.1.length : Int) ≤ (xq.2.2.1.length : Int) ∧ K (xq.1, xq.2.1, (xq.2.2.1.drop (Int.toNat 1)), xq.2.2.2.1, xq.2.2.2.2) (xq.2.2.1.getD (Int.toNat 0) default) true) ∧ ((decide ((xq.2.2.1.length : Int) > 0)) = false → K (xuntil, xq.2.1, xq.2.2.1, xq.2.2.2.1, xq.2.2.2.2) (0, 0, false, ([] : Bs), (0, 0, ([] : Bs))) false)
def rlnj46 (xq : JL) (K : (JL) → (JJ) → Bool → Prop) (e16 : JT) : Prop :=
 K ((rlnV5 xq e16), xq.2.1, xq.2.2.1, xq.2.2.2.1, (rlnV7 xq e16)) (e16.1, 3, false, e16.2.2.2.2, (2, e16.2.2.2.1, ([] : Bs))) true
def rlnj47 (xq : JL) (K : (JL) → (JJ) → Bool → Prop) (e16 : JT) : Prop :=
 (((rlnV6 e16)) = true → rplP (xq.2.2.2.2.drop (Int.toNat 1)) (e16.1, w6 (e16.2.1 + e16.2.2.1), e16.2.2.1, w6 (e16.2.2.2.1 + 1), e16.2.2.2.2) ∧ rlnj46 xq K e16) ∧ (((rlnV6 e16)) = false → rlnj46 xq K e16)
def rlnj38 (xq : JL) (K : (JL) → (JJ) → Bool → Prop) (e16 : JT) : Prop :=
 ((decide (e16.2.2.1 > 0)) = true → ((decide (e16.2.2.2.1 < 1000000000)) = true → rlnj47 xq K e16) ∧ ((decide (e16.2.2.2.1 < 1000000000)) = false → rlnj47 xq K e16)) ∧ ((decide (e16.2.2.1 > 0)) = false → rlnj47 xq K e16)
def rlnj31 (xq : JL) (xuntil : Int) (K : (JL) → (JJ) → Bool → Prop) (e16 : JT) : Prop :=
 (((rlnV4 xq xuntil e16)) = true → rlnj15 xq xuntil K) ∧ (((rlnV4 xq xuntil e16)) = false → (0 : Int) ≤ 1 ∧ (1 : Int) ≤ (xq.2.2.2.2.length : Int) ∧ (xq.2.2.2.2.length : Int) ≤ (xq.2.2.2.2.length : Int) ∧ ((decide (e16.2.1 > xq.1)) = true → rlnj38 xq K e16) ∧ ((decide (e16.2.1 > xq.1)) = false → rlnj38 xq K e16))
def rlnl19b (xq : JL) (xuntil : Int) (K : (JL) → (JJ) → Bool → Prop) (C19 : Prop) : Prop :=
 ((decide (0 < (xq.2.2.2.2.length : Int))) = true → (0 : Int) ≤ 0 ∧ Int.toNat 0 < xq.2.2.2.2.length ∧ ((decide ((xq.2.2.2.2.getD (Int.toNat 0) default).2.1 > xq.1)) = true → ((decide ((xq.2.2.1.length : Int) > 0)) = true → rlnj31 xq xuntil K (xq.2.2.2.2.getD (Int.toNat 0) default)) ∧ ((decide ((xq.2.2.1.length : Int) > 0)) = false → rlnj31 xq xuntil K (xq.2.2.2.2.getD (Int.toNat 0) default))) ∧ ((decide ((xq.2.2.2.2.getD (Int.toNat 0) default).2.1 > xq.1)) = false → rlnj31 xq xuntil K (xq.2.2.2.2.getD (Int.toNat 0) default))) ∧ ((decide (0 < (xq.2.2.2.2.length : Int))) = false → rlnj15 xq xuntil K)
def rlnl19 (xq : JL) (xuntil : Int) (K : (JL) → (JJ) → Bool → Prop) : Nat → Prop
 | 0 => False
 | k + 1 => rlnl19b xq xuntil K (rlnl19 xq xuntil K k)
def rlnF (xq : JL) (xuntil : Int) (K : (JL) → (JJ) → Bool → Prop) : Prop :=
 ((decide ((xq.2.2.2.1.length : Int) > 0)) = true → (0 : Int) ≤ 0 ∧ Int.toNat 0 < xq.2.2.2.1.length ∧ (0 : Int) ≤ 1 ∧ (1 : Int) ≤ (xq.2.2.2.1.length : Int) ∧ (xq.2.2.2.1.length : Int) ≤ (xq.2.2.2.1.length : Int) ∧ K (xq.1, xq.2.1, xq.2.2.1, (xq.2.2.2.1.drop (Int.toNat 1)), xq.2.2.2.2) (xq.2.2.2.1.getD (Int.toNat 0) default) true) ∧ ((decide ((xq.2.2.2.1.length : Int) > 0)) = false → ∃ k, rlnl19 xq xuntil K k)
theorem rln_ok {g : Ghost} {axq_0 : Option Addr} {cxq_0 : Nat} {axq_1 : Option Addr} {cxq_1 : Nat} {axq_2 : Option Addr} {cxq_2 : Nat} (xq : JL) (xuntil : Int) (hRxq_0 : Rep g (.slice (.pair (.int .i64) (.pair (.int .i64) (.pair (.bool) (.pair (.str) (.pair (.int .i64) (.pair (.int .i64) (.str)))))))) [.slice axq_0 xq.2.2.1.length cxq_0] xq.2.2.1) (hRxq_1 : Rep g (.slice (.pair (.int .i64) (.pair (.int .i64) (.pair (.bool) (.pair (.str) (.pair (.int .i64) (.pair (.int .i64) (.str)))))))) [.slice axq_1 xq.2.2.2.1.length cxq_1] xq.2.2.2.1) (hRxq_2 : Rep g (.slice (.pair (.int .i64) (.pair (.int .i64) (.pair (.int .i64) (.pair (.int .i64) (.str)))))) [.slice axq_2 xq.2.2.2.2.length cxq_2] xq.2.2.2.2) (K : (JL) → (JJ) → Bool → Prop)
  (hF : rlnF xq xuntil K) : CallsH Try.prog 18 #[.agg #[.int .i64 xq.1, .int .i64 xq.2.1, .slice axq_0 xq.2.2.1.length cxq_0, .slice axq_1 xq.2.2.2.1.length cxq_1, .slice axq_2 xq.2.2.2.2.length cxq_2], .int .i64 xuntil] g [] (fun g' H' v => ∃ (r0 : JL), ∃ (r1 : JJ), ∃ (r2 : Bool), ∃ (ar0_0 : Option Addr) (cr0_0 : Nat), ∃ (ar0_1 : Option Addr) (cr0_1 : Nat), ∃ (ar0_2 : Option Addr) (cr0_2 : Nat), v = .tuple #[.agg #[.int .i64 r0.1, .int .i64 r0.2.1, .slice ar0_0 r0.2.2.1.length cr0_0, .slice ar0_1 r0.2.2.2.1.length cr0_1, .slice ar0_2 r0.2.2.2.2.length cr0_2], .agg #[.int .i64 r1.1, .int .i64 r1.2.1, .bool r1.2.2.1, sv r1.2.2.2.1, .int .i64 r1.2.2.2.2.1, .int .i64 r1.2.2.2.2.2.1, sv r1.2.2.2.2.2.2], .bool r2] ∧ Rep g' (.slice (.pair (.int .i64) (.pair (.int .i64) (.pair (.bool) (.pair (.str) (.pair (.int .i64) (.pair (.int .i64) (.str)))))))) [.slice ar0_0 r0.2.2.1.length cr0_0] r0.2.2.1 ∧ Rep g' (.slice (.pair (.int .i64) (.pair (.int .i64) (.pair (.bool) (.pair (.str) (.pair (.int .i64) (.pair (.int .i64) (.str)))))))) [.slice ar0_1 r0.2.2.2.1.length cr0_1] r0.2.2.2.1 ∧ Rep g' (.slice (.pair (.int .i64) (.pair (.int .i64) (.pair (.int .i64) (.pair (.int .i64) (.str)))))) [.slice ar0_2 r0.2.2.2.2.length cr0_2] r0.2.2.2.2 ∧ H' = [] ∧ K r0 r1 r2) := by
 refine CallsH.enter 122 [(0, .agg #[.int .i64 xq.1, .int .i64 xq.2.1, .slice axq_0 xq.2.2.1.length cxq_0, .slice axq_1 xq.2.2.2.1.length cxq_1, .slice axq_2 xq.2.2.2.2.length cxq_2]), (1, .int .i64 xuntil)] Try.func18 rfl (by kernel_rfl) (by kernel_rfl) (by kernel_rfl) fun w0 => ?_
 refine Ok.seq (Ok.region (Ok.op rfl (OpOk.box (v := .agg #[.int .i64 xq.1, .int .i64 xq.2.1, .slice axq_0 xq.2.2.1.length cxq_0, .slice axq_1 xq.2.2.2.1.length cxq_1, .slice axq_2 xq.2.2.2.2.length cxq_2]) (cs := #[.int .i64 xq.1, .int .i64 xq.2.1, .slice axq_0 xq.2.2.1.length cxq_0, .slice axq_1 xq.2.2.2.1.length cxq_1, .slice axq_2 xq.2.2.2.2.length cxq_2]) rfl (by kernel_rfl) rfl fun bs2 => ?_)))
 refine Ok.op rfl (OpOk.alloc (z := .agg #[.int .i64 0, .int .i64 0, .slice none 0 0, .slice none 0 0, .slice none 0 0]) (cs := #[.int .i64 0, .int .i64 0, .slice none 0 0, .slice none 0 0, .slice none 0 0]) (by kernel_rfl) (by kernel_rfl) rfl fun bs4 => ?_)
 refine Ok.op rfl (OpOk.alloc (z := .agg #[.int .i64 0, .int .i64 0, .bool false, sv ([] : Bs), .int .i64 0, .int .i64 0, sv ([] : Bs)]) (cs := #[.int .i64 0, .int .i64 0, .bool false, sv ([] : Bs), .int .i64 0, .int .i64 0, sv ([] : Bs)]) (by kernel_rfl) (by kernel_rfl) rfl fun bs5 => ?_)
 refine Ok.batch 1 [(1, .int .i64 xuntil), (2, pv bs2 0), (4, pv bs4 0), (5, pv bs5 0)] (by kernel_rfl) (Ok.nil (Ok.thenN (Ok.seq (Ok.seq (Ok.region (Ok.bat 1 [1, 2, 4, 5] [(12, pv bs2 3)] ?_))))))
 refine Ok.op rfl (OpOk.step (v := .slice axq_1 xq.2.2.2.1.length cxq_1) (Yields.load 2 rfl rfl Try.underlying34 rfl (by kernel_rfl)) rfl rfl (Ok.bat 2 [1, 2, 4, 5] [(15, .bool (decide ((xq.2.2.2.1.length : Int) > 0)))] ?_))
 refine Ok.nil (Ok.thenN (Ok.cond (b := decide ((xq.2.2.2.1.length : Int) > 0)) rfl (fun hc4 => ?_) (fun hc4 => ?_)))
 ·replace hF := hF.1 hc4
  refine Ok.seq (Ok.region (Ok.bat 1 [2, 4, 5] [(16, pv bs2 3)] ?_))
  refine Ok.op rfl (OpOk.step (v := .slice axq_1 xq.2.2.2.1.length cxq_1) (Yields.load 2 rfl rfl Try.underlying34 rfl (by kernel_rfl)) rfl rfl ?_)
  obtain ⟨h06, h16, hF⟩ := hF
  have he6 := get_of (l := xq.2.2.2.1) (default : JJ) h16
  generalize hg6 : (xq.2.2.2.1.getD (Int.toNat 0) default) = e6 at he6 hF ⊢
  refine Ok.op rfl (OpOk.indexRo (e := .pair (.int .i64) (.pair (.int .i64) (.pair (.bool) (.pair (.str) (.pair (.int .i64) (.pair (.int .i64) (.str))))))) (i := 0) (el := e6) rfl rfl Try.underlying34 (by kernel_rfl) hRxq_1 h06 he6 rfl fun q5 o5 cs5 _ hat5 hr5 => ?_)
  obtain ⟨_, _, rfl, rfl, ⟨_, _, rfl, rfl, ⟨_, _, rfl, rfl, ⟨_, _, rfl, rfl, ⟨_, _, rfl, rfl, ⟨_, _, rfl, rfl, rfl⟩⟩⟩⟩⟩⟩ := hr5
  replace hat5 : At g q5 o5 [.int .i64 e6.1, .int .i64 e6.2.1, .bool e6.2.2.1, sv e6.2.2.2.1, .int .i64 e6.2.2.2.2.1, .int .i64 e6.2.2.2.2.2.1, sv e6.2.2.2.2.2.2] := hat5
  refine Ok.op rfl (OpOk.step (v := .agg #[.int .i64 e6.1, .int .i64 e6.2.1, .bool e6.2.2.1, sv e6.2.2.2.1, .int .i64 e6.2.2.2.2.1, .int .i64 e6.2.2.2.2.2.1, sv e6.2.2.2.2.2.2]) (Yields.loadAggRo 0 7 #[.int .i64 e6.1, .int .i64 e6.2.1, .bool e6.2.2.1, sv e6.2.2.2.1, .int .i64 e6.2.2.2.2.1, .int .i64 e6.2.2.2.2.2.1, sv e6.2.2.2.2.2.2] hat5 (by kernel_rfl) Try.underlying43 rfl (by kernel_rfl) (by kernel_rfl) (by kernel_rfl)) rfl rfl (Ok.op rfl (OpOk.alloc (z := .agg #[.int .i64 0, .int .i64 0, .bool false, sv ([] : Bs), .int .i64 0, .int .i64 0, sv ([] : Bs)]) (cs := #[.int .i64 0, .int .i64 0, .bool false, sv ([] : Bs), .int .i64 0, .int .i64 0, sv ([] : Bs)]) (by kernel_rfl) (by kernel_rfl) rfl fun bs7 => ?_)))
  refine Ok.op rfl (OpOk.sto (k := 7) (v := .agg #[.int .i64 e6.1, .int .i64 e6.2.1, .bool e6.2.2.1, sv e6.2.2.2.1, .int .i64 e6.2.2.2.2.1, .int .i64 e6.2.2.2.2.2.1, sv e6.2.2.2.2.2.2]) 0 #[.int .i64 e6.1, .int .i64 e6.2.1, .bool e6.2.2.1, sv e6.2.2.2.1, .int .i64 e6.2.2.2.2.1, .int .i64 e6.2.2.2.2.2.1, sv e6.2.2.2.2.2.2] rfl rfl rfl ?_)
  refine Ok.nil (Ok.thenN (Ok.seq (Ok.region (Ok.bat 1 [2, 4, 5] [(7, pv bs7 0), (20, pv bs2 3)] ?_))))
  refine Ok.op rfl (OpOk.step (v := .slice axq_1 xq.2.2.2.1.length cxq_1) (Yields.load 3 rfl rfl Try.underlying34 rfl (by kernel_rfl)) rfl rfl ?_)
  obtain ⟨h08, h18, h28, hF⟩ := hF
  refine Ok.op rfl (OpOk.sliceRo (e := .pair (.int .i64) (.pair (.int .i64) (.pair (.bool) (.pair (.str) (.pair (.int .i64) (.pair (.int .i64) (.str))))))) (l := 1) (h := (xq.2.2.2.1.length : Int)) rfl Try.underlying34 (by kernel_rfl) (.inl ⟨_, _, rfl, rfl⟩) (.inr ⟨rfl, rfl⟩) hRxq_1 h08 h18 h28 rfl (xq.2.2.2.1.drop (Int.toNat 1)) (by rw [show ((xq.2.2.2.1.length : Int)).toNat = xq.2.2.2.1.length from Int.toNat_natCast _, List.take_length]) fun a8 c8 hR8 => ?_)
  refine Ok.bat 1 [2, 4, 5, 7] [(22, .slice a8 (xq.2.2.2.1.drop (Int.toNat 1)).length c8), (23, pv bs2 3)] ?_
  refine Ok.op rfl (OpOk.sto (k := 1) (v := .slice a8 (xq.2.2.2.1.drop (Int.toNat 1)).length c8) 3 #[.int .i64 xq.1, .int .i64 xq.2.1, .slice axq_0 xq.2.2.1.length cxq_0, .slice a8 (xq.2.2.2.1.drop (Int.toNat 1)).length c8, .slice axq_2 xq.2.2.2.2.length cxq_2] rfl rfl rfl ?_)
  refine Ok.nil (Ok.thenN (Ok.seq (Ok.mix [] [] _ [(0, true), (1, true), (2, false), (3, false), (4, true)] (by kernel_rfl) (by kernel_rfl) (.cons_cons _ (.cons _ (.cons _ (.cons_cons _ .slnil)))) (OkM.head rfl rfl rfl (OpQ.step (v := .agg #[.int .i64 xq.1, .int .i64 xq.2.1, .slice axq_0 xq.2.2.1.length cxq_0, .slice a8 (xq.2.2.2.1.drop (Int.toNat 1)).length c8, .slice axq_2 xq.2.2.2.2.length cxq_2]) (Yields.loadAgg 1 5 #[.int .i64 xq.1, .int .i64 xq.2.1, .slice axq_0 xq.2.2.1.length cxq_0, .slice a8 (xq.2.2.2.1.drop (Int.toNat 1)).length c8, .slice axq_2 xq.2.2.2.2.length cxq_2] rfl rfl Try.underlying37 rfl (by kernel_rfl) (by kernel_rfl) (by kernel_rfl)) rfl rfl (OkM.head rfl rfl rfl (OpQ.step (v := .agg #[.int .i64 e6.1, .int .i64 e6.2.1, .bool e6.2.2.1, sv e6.2.2.2.1, .int .i64 e6.2.2.2.2.1, .int .i64 e6.2.2.2.2.2.1, sv e6.2.2.2.2.2.2]) (Yields.loadAgg 0 7 #[.int .i64 e6.1, .int .i64 e6.2.1, .bool e6.2.2.1, sv e6.2.2.2.1, .int .i64 e6.2.2.2.2.1, .int .i64 e6.2.2.2.2.2.1, sv e6.2.2.2.2.2.2] rfl rfl Try.underlying43 rfl (by kernel_rfl) (by kernel_rfl) (by kernel_rfl)) rfl rfl (OkM.tail rfl rfl (OpOk.sto (k := 5) (v := .agg #[.int .i64 xq.1, .int .i64 xq.2.1, .slice axq_0 xq.2.2.1.length cxq_0, .slice a8 (xq.2.2.2.1.drop (Int.toNat 1)).length c8, .slice axq_2 xq.2.2.2.2.length cxq_2]) 2 #[.int .i64 xq.1, .int .i64 xq.2.1, .slice axq_0 xq.2.2.1.length cxq_0, .slice a8 (xq.2.2.2.1.drop (Int.toNat 1)).length c8, .slice axq_2 xq.2.2.2.2.length cxq_2] rfl rfl rfl ?_)))))))))
  refine OkM.leaf (i := 2) rfl (Gle.refl _) (.cons_cons _ (.cons _ (.cons _ (.cons_cons _ .slnil)))) (OkM.tail rfl rfl (OpOk.sto (k := 7) (v := .agg #[.int .i64 e6.1, .int .i64 e6.2.1, .bool e6.2.2.1, sv e6.2.2.2.1, .int .i64 e6.2.2.2.2.1, .int .i64 e6.2.2.2.2.2.1, sv e6.2.2.2.2.2.2]) 1 #[.int .i64 e6.1, .int .i64 e6.2.1, .bool e6.2.2.1, sv e6.2.2.2.1, .int .i64 e6.2.2.2.2.1, .int .i64 e6.2.2.2.2.2.1, sv e6.2.2.2.2.2.2] rfl rfl rfl ?_))
  refine OkM.leaf (i := 3) rfl (Gle.refl _) (.cons_cons _ (.cons _ (.cons _ (.cons_cons _ .slnil)))) (OkM.bat 1 [4, 5] [(6, .bool true)] ?_)
  refine OkM.nil (Ok.thenN (Ok.ret (Ok.thenR ?_)))
  exact Ok.resP (vs := [.agg #[.int .i64 xq.1, .int .i64 xq.2.1, .slice axq_0 xq.2.2.1.length cxq_0, .slice a8 (xq.2.2.2.1.drop (Int.toNat 1)).length c8, .slice axq_2 xq.2.2.2.2.length cxq_2], .agg #[.int .i64 e6.1, .int .i64 e6.2.1, .bool e6.2.2.1, sv e6.2.2.2.1, .int .i64 e6.2.2.2.2.1, .int .i64 e6.2.2.2.2.2.1, sv e6.2.2.2.2.2.2], .bool true]) [] [] (by decide) rfl (.inl rfl) rfl (.cons (.cellAgg 2 5 #[.int .i64 xq.1, .int .i64 xq.2.1, .slice axq_0 xq.2.2.1.length cxq_0, .slice a8 (xq.2.2.2.1.drop (Int.toNat 1)).length c8, .slice axq_2 xq.2.2.2.2.length cxq_2] rfl rfl Try.underlying37 rfl (by kernel_rfl) (by kernel_rfl) (by kernel_rfl)) (.cons (.cellAgg 1 7 #[.int .i64 e6.1, .int .i64 e6.2.1, .bool e6.2.2.1, sv e6.2.2.2.1, .int .i64 e6.2.2.2.2.1, .int .i64 e6.2.2.2.2.2.1, sv e6.2.2.2.2.2.2] rfl rfl Try.underlying43 rfl (by kernel_rfl) (by kernel_rfl) (by kernel_rfl)) (.cons (.tmp rfl) .nil))) (Gext.refl w0 g) ⟨(xq.1, xq.2.1, xq.2.2.1, (xq.2.2.2.1.drop (Int.toNat 1)), xq.2.2.2.2), e6, true, axq_0, cxq_0, a8, c8, axq_2, cxq_2, rfl, hRxq_0, hR8, hRxq_2, rfl, hF⟩
 ·replace hF := hF.2 hc4
  refine Ok.skip (Ok.thenN (Ok.cut (fun a W => ∃ gj15 : Ghost, Gext w0 g gj15 ∧ StA 122 [(1, .int .i64 xuntil), (2, pv bs2 0), (4, pv bs4 0), (5, pv bs5 0)] a ∧ StW w0 [.blk bs5 (.cells #[.int .i64 0, .int .i64 0, .bool false, sv ([] : Bs), .int .i64 0, .int .i64 0, sv ([] : Bs)] 43), .blk bs4 (.cells #[.int .i64 0, .int .i64 0, .slice none 0 0, .slice none 0 0, .slice none 0 0] 37), .blk bs2 (.cells #[.int .i64 xq.1, .int .i64 xq.2.1, .slice axq_0 xq.2.2.1.length cxq_0, .slice axq_1 xq.2.2.2.1.length cxq_1, .slice axq_2 xq.2.2.2.2.length cxq_2] 37)] gj15 W ∧ rlnj15 xq xuntil K) ?_ ?_))
  ·
   refine Ok.seq (Ok.region (Ok.bat 1 [1, 2, 4, 5] [(26, pv bs2 4)] ?_))
   refine Ok.op rfl (OpOk.step (v := .slice axq_2 xq.2.2.2.2.length cxq_2) (Yields.load 2 rfl rfl Try.underlying35 rfl (by kernel_rfl)) rfl rfl (Ok.bat 2 [1, 2, 4, 5] [(27, .slice axq_2 xq.2.2.2.2.length cxq_2), (28, .int .i64 (xq.2.2.2.2.length : Int)), (29, .int .i64 0)] ?_))
   refine Ok.nil (Ok.thenN (Ok.block ?_))
   obtain ⟨k, hF⟩ := hF
   refine Ok.loop (fun k a W => ∃ gl19 : Ghost, Gext w0 g gl19 ∧ StA 122 [(1, .int .i64 xuntil), (2, pv bs2 0), (4, pv bs4 0), (5, pv bs5 0), (27, .slice axq_2 xq.2.2.2.2.length cxq_2), (28, .int .i64 (xq.2.2.2.2.length : Int)), (29, .int .i64 0)] a ∧ StW w0 [.blk bs5 (.cells #[.int .i64 0, .int .i64 0, .bool false, sv ([] : Bs), .int .i64 0, .int .i64 0, sv ([] : Bs)] 43), .blk bs4 (.cells #[.int .i64 0, .int .i64 0, .slice none 0 0, .slice none 0 0, .slice none 0 0] 37), .blk bs2 (.cells #[.int .i64 xq.1, .int .i64 xq.2.1, .slice axq_0 xq.2.2.1.length cxq_0, .slice axq_1 xq.2.2.2.1.length cxq_1, .slice axq_2 xq.2.2.2.2.length cxq_2] 37)] gl19 W ∧ rlnl19 xq xuntil K k) k ?_ ?_
   ·
    exact fun a W hA hW => ⟨g, (Gext.refl w0 g), hA.sub (by kernel_rfl), hW, hF⟩
   ·
    clear hF
    rintro k19 a W ⟨gl19, hxl19, hA, hW, hF⟩
    cases k19 with
    | zero => exact (hF : False).elim
    | succ k19 =>
     refine (?_ : Ok _ _ _ _ _ _) a W hA hW
     clear hA hW
     replace hRxq_2 := hRxq_2.mono hxl19.1
     replace hRxq_0 := hRxq_0.mono hxl19.1
     replace hRxq_1 := hRxq_1.mono hxl19.1
     refine Ok.seq (Ok.region (Ok.bat 1 [1, 2, 4, 5, 27, 29] [(30, .bool (decide (0 < (xq.2.2.2.2.length : Int))))] ?_))
     refine Ok.nil (Ok.thenN (Ok.seq (Ok.cond (b := decide (0 < (xq.2.2.2.2.length : Int))) rfl (fun hc14 => ?_) (fun hc14 => ?_))))
     ·replace hF := hF.1 hc14
      refine Ok.skip (Ok.thenN (Ok.seq (Ok.block (Ok.seq (Ok.region ?_)))))
      obtain ⟨h016, h116, hF⟩ := hF
      have he16 := get_of (l := xq.2.2.2.2) (default : JT) h116
      generalize hg16 : (xq.2.2.2.2.getD (Int.toNat 0) default) = e16 at he16 hF ⊢
      refine Ok.op rfl (OpOk.indexRo (e := .pair (.int .i64) (.pair (.int .i64) (.pair (.int .i64) (.pair (.int .i64) (.str))))) (i := 0) (el := e16) rfl rfl Try.underlying35 (by kernel_rfl) hRxq_2 h016 he16 rfl fun q15 o15 cs15 _ hat15 hr15 => ?_)
      obtain ⟨_, _, rfl, rfl, ⟨_, _, rfl, rfl, ⟨_, _, rfl, rfl, ⟨_, _, rfl, rfl, rfl⟩⟩⟩⟩ := hr15
      replace hat15 : At gl19 q15 o15 [.int .i64 e16.1, .int .i64 e16.2.1, .int .i64 e16.2.2.1, .int .i64 e16.2.2.2.1, sv e16.2.2.2.2] := hat15
      refine Ok.op rfl (OpOk.step (v := .agg #[.int .i64 e16.1, .int .i64 e16.2.1, .int .i64 e16.2.2.1, .int .i64 e16.2.2.2.1, sv e16.2.2.2.2]) (Yields.loadAggRo 0 5 #[.int .i64 e16.1, .int .i64 e16.2.1, .int .i64 e16.2.2.1, .int .i64 e16.2.2.2.1, sv e16.2.2.2.2] hat15 (by kernel_rfl) Try.underlying93 rfl (by kernel_rfl) (by kernel_rfl) (by kernel_rfl)) rfl rfl (Ok.op rfl (OpOk.alloc (z := .agg #[.int .i64 0, .int .i64 0, .int .i64 0, .int .i64 0, sv ([] : Bs)]) (cs := #[.int .i64 0, .int .i64 0, .int .i64 0, .int .i64 0, sv ([] : Bs)]) (by kernel_rfl) (by kernel_rfl) rfl fun bs9 => ?_)))
      refine Ok.op rfl (OpOk.sto (k := 5) (v := .agg #[.int .i64 e16.1, .int .i64 e16.2.1, .int .i64 e16.2.2.1, .int .i64 e16.2.2.2.1, sv e16.2.2.2.2]) 0 #[.int .i64 e16.1, .int .i64 e16.2.1, .int .i64 e16.2.2.1, .int .i64 e16.2.2.2.1, sv e16.2.2.2.2] rfl rfl rfl ?_)
      refine Ok.nil (Ok.thenN (Ok.seq (Ok.cut (fun a W => ∃ gj31 : Ghost, Gext w0 gl19 gj31 ∧ StA 122 [(1, .int .i64 xuntil), (2, pv bs2 0), (4, pv bs4 0), (5, pv bs5 0), (9, pv bs9 0), (49, .bool (rlnV4 xq xuntil e16))] a ∧ StW w0 [.blk bs9 (.cells #[.int .i64 e16.1, .int .i64 e16.2.1, .int .i64 e16.2.2.1, .int .i64 e16.2.2.2.1, sv e16.2.2.2.2] 93), .blk bs5 (.cells #[.int .i64 0, .int .i64 0, .bool false, sv ([] : Bs), .int .i64 0, .int .i64 0, sv ([] : Bs)] 43), .blk bs4 (.cells #[.int .i64 0, .int .i64 0, .slice none 0 0, .slice none 0 0, .slice none 0 0] 37), .blk bs2 (.cells #[.int .i64 xq.1, .int .i64 xq.2.1, .slice axq_0 xq.2.2.1.length cxq_0, .slice axq_1 xq.2.2.2.1.length cxq_1, .slice axq_2 xq.2.2.2.2.length cxq_2] 37)] gj31 W ∧ rlnj31 xq xuntil K e16) ?_ ?_)))
      ·
       refine Ok.region (Ok.bat 1 [1, 2, 4, 5] [(9, pv bs9 0), (33, pv bs9 1)] ?_)
       refine Ok.op rfl (OpOk.step (v := .int .i64 e16.2.1) (Yields.load 0 rfl rfl Try.underlying3 rfl (by kernel_rfl)) rfl rfl (Ok.bat 1 [1, 2, 4, 5, 9] [(34, .int .i64 e16.2.1), (35, pv bs2 0)] ?_))
       refine Ok.op rfl (OpOk.step (v := .int .i64 xq.1) (Yields.load 3 rfl rfl Try.underlying3 rfl (by kernel_rfl)) rfl rfl (Ok.bat 2 [1, 2, 4, 5, 9] [(38, .bool (decide (e16.2.1 > xq.1)))] ?_))
       refine Ok.boolAt 38 (decide (e16.2.1 > xq.1)) rfl (fun hc27 => ?_) (fun hc27 => ?_)
       ·replace hF := hF.1 hc27
        refine Ok.bat 1 [1, 2, 4, 5, 9] [(38, .bool true), (39, pv bs2 2)] ?_
        refine Ok.opYes (j := 5) (d := 38) (want := true) (b := true) rfl (by kernel_rfl) (by kernel_rfl) rfl (OpOk.step (v := .slice axq_0 xq.2.2.1.length cxq_0) (Yields.load 3 rfl rfl Try.underlying34 rfl (by kernel_rfl)) rfl rfl (Ok.bat 3 [1, 2, 4, 5, 9, 38] [(43, .bool (decide ((xq.2.2.1.length : Int) > 0)))] ?_))
        refine Ok.boolAt 43 (decide ((xq.2.2.1.length : Int) > 0)) rfl (fun hc28 => ?_) (fun hc28 => ?_)
        ·replace hF := hF.1 hc28
         refine Ok.bat 6 [1, 2, 4, 5, 9] [(49, .bool true)] ?_
         refine Ok.nil (Ok.thenN (Ok.reval 49 rfl (show (.bool true : Value) = .bool (rlnV4 xq xuntil e16) from congrArg (Value.bool) ((Eq.trans (mor_t hc28) (mand_t hc27)))) ?_))
         exact fun a W hA hW => ⟨gl19, (Gext.refl w0 gl19), hA.sub (by kernel_rfl), hW, hF⟩
        ·replace hF := hF.2 hc28
         refine Ok.bat 1 [1, 2, 4, 5, 9, 38] [(43, .bool false), (44, pv bs9 1)] ?_
         refine Ok.opYes (j := 10) (d := 43) (want := false) (b := false) rfl (by kernel_rfl) (by kernel_rfl) rfl (OpOk.step (v := .int .i64 e16.2.1) (Yields.load 0 rfl rfl Try.underlying3 rfl (by kernel_rfl)) rfl rfl (Ok.bat 4 [1, 2, 4, 5, 9] [(49, .bool (decide (e16.2.1 > xuntil)))] ?_))
         refine Ok.nil (Ok.thenN (Ok.reval 49 rfl (show (.bool (decide (e16.2.1 > xuntil)) : Value) = .bool (rlnV4 xq xuntil e16) from congrArg (Value.bool) ((Eq.trans (mor_f hc28) (mand_t hc27)))) ?_))
         exact fun a W hA hW => ⟨gl19, (Gext.refl w0 gl19), hA.sub (by kernel_rfl), hW, hF⟩
       ·replace hF := hF.2 hc27
        refine Ok.bat 11 [1, 2, 4, 5, 9] [(49, .bool false)] ?_
        refine Ok.nil (Ok.thenN (Ok.reval 49 rfl (show (.bool false : Value) = .bool (rlnV4 xq xuntil e16) from congrArg (Value.bool) (mand_f hc27)) ?_))
        exact fun a W hA hW => ⟨gl19, (Gext.refl w0 gl19), hA.sub (by kernel_rfl), hW, hF⟩
      ·
       clear hF
       rintro a W ⟨gj31, hxj31, hA, hW, hF⟩
       refine (?_ : Ok _ _ _ _ _ _) a W hA hW
       clear hA hW
       replace hRxq_0 := hRxq_0.mono hxj31.1
       replace hRxq_1 := hRxq_1.mono hxj31.1
       replace hRxq_2 := hRxq_2.mono hxj31.1
       refine Ok.cond (b := (rlnV4 xq xuntil e16)) rfl (fun hc18 => ?_) (fun hc18 => ?_)
       ·replace hF := hF.1 hc18
        refine Ok.exit (Ok.thenE (Ok.blockMiss rfl (Ok.thenE (Ok.thenE (Ok.blockHit (Ok.thenN ?_))))))
        subst hg16
        exact fun a W hA hW => ⟨gj31, (hxl19.trans hxj31), hA.sub (by kernel_rfl), hW.sub (.cons _ (.cons_cons _ (.cons_cons _ (.cons_cons _ .slnil)))), hF⟩
       ·replace hF := hF.2 hc18
        refine Ok.skip (Ok.thenN (Ok.seq (Ok.region (Ok.bat 1 [2, 4, 5, 9] [(50, pv bs2 4)] ?_))))
        refine Ok.op rfl (OpOk.step (v := .slice axq_2 xq.2.2.2.2.length cxq_2) (Yields.load 3 rfl rfl Try.underlying35 rfl (by kernel_rfl)) rfl rfl ?_)
        obtain ⟨h019, h119, h219, hF⟩ := hF
        refine Ok.op rfl (OpOk.sliceRo (e := .pair (.int .i64) (.pair (.int .i64) (.pair (.int .i64) (.pair (.int .i64) (.str))))) (l := 1) (h := (xq.2.2.2.2.length : Int)) rfl Try.underlying35 (by kernel_rfl) (.inl ⟨_, _, rfl, rfl⟩) (.inr ⟨rfl, rfl⟩) hRxq_2 h019 h119 h219 rfl (xq.2.2.2.2.drop (Int.toNat 1)) (by rw [show ((xq.2.2.2.2.length : Int)).toNat = xq.2.2.2.2.length from Int.toNat_natCast _, List.take_length]) fun a19 c19 hR19 => ?_)
        refine Ok.bat 1 [2, 4, 5, 9] [(52, .slice a19 (xq.2.2.2.2.drop (Int.toNat 1)).length c19), (53, pv bs2 4)] ?_
        refine Ok.op rfl (OpOk.sto (k := 1) (v := .slice a19 (xq.2.2.2.2.drop (Int.toNat 1)).length c19) 3 #[.int .i64 xq.1, .int .i64 xq.2.1, .slice axq_0 xq.2.2.1.length cxq_0, .slice axq_1 xq.2.2.2.1.length cxq_1, .slice a19 (xq.2.2.2.2.drop (Int.toNat 1)).length c19] rfl rfl rfl ?_)
        refine Ok.nil (Ok.thenN (Ok.cut (fun a W => ∃ gj38 : Ghost, Gext w0 gj31 gj38 ∧ StA 122 [(2, pv bs2 0), (4, pv bs4 0), (5, pv bs5 0), (9, pv bs9 0)] a ∧ StW w0 [.blk bs9 (.cells #[.int .i64 e16.1, .int .i64 e16.2.1, .int .i64 e16.2.2.1, .int .i64 e16.2.2.2.1, sv e16.2.2.2.2] 93), .blk bs5 (.cells #[.int .i64 0, .int .i64 0, .bool false, sv ([] : Bs), .int .i64 0, .int .i64 0, sv ([] : Bs)] 43), .blk bs4 (.cells #[.int .i64 0, .int .i64 0, .slice none 0 0, .slice none 0 0, .slice none 0 0] 37), .blk bs2 (.cells #[.int .i64 (rlnV5 xq e16), .int .i64 xq.2.1, .slice axq_0 xq.2.2.1.length cxq_0, .slice axq_1 xq.2.2.2.1.length cxq_1, .slice a19 (xq.2.2.2.2.drop (Int.toNat 1)).length c19] 37)] gj38 W ∧ rlnj38 xq K e16) ?_ ?_))
        ·
         refine Ok.seq (Ok.region (Ok.bat 1 [2, 4, 5, 9] [(54, pv bs9 1)] ?_))
         refine Ok.op rfl (OpOk.step (v := .int .i64 e16.2.1) (Yields.load 0 rfl rfl Try.underlying3 rfl (by kernel_rfl)) rfl rfl (Ok.bat 1 [2, 4, 5, 9] [(55, .int .i64 e16.2.1), (56, pv bs2 0)] ?_))
         refine Ok.op rfl (OpOk.step (v := .int .i64 xq.1) (Yields.load 3 rfl rfl Try.underlying3 rfl (by kernel_rfl)) rfl rfl (Ok.bat 1 [2, 4, 5, 9] [(58, .bool (decide (e16.2.1 > xq.1)))] ?_))
         refine Ok.nil (Ok.thenN (Ok.cond (b := decide (e16.2.1 > xq.1)) rfl (fun hc26 => ?_) (fun hc26 => ?_)))
         ·replace hF := hF.1 hc26
          refine Ok.region (Ok.bat 1 [2, 4, 5, 9] [(59, pv bs9 1)] ?_)
          refine Ok.op rfl (OpOk.step (v := .int .i64 e16.2.1) (Yields.load 0 rfl rfl Try.underlying3 rfl (by kernel_rfl)) rfl rfl (Ok.bat 1 [2, 4, 5, 9] [(60, .int .i64 e16.2.1), (61, pv bs2 0)] ?_))
          refine Ok.op rfl (OpOk.sto (k := 1) (v := .int .i64 e16.2.1) 3 #[.int .i64 e16.2.1, .int .i64 xq.2.1, .slice axq_0 xq.2.2.1.length cxq_0, .slice axq_1 xq.2.2.2.1.length cxq_1, .slice a19 (xq.2.2.2.2.drop (Int.toNat 1)).length c19] rfl rfl rfl ?_)
          refine Ok.nil (Ok.thenN (Ok.entEq 3 (e' := .blk bs2 (.cells #[.int .i64 (rlnV5 xq e16), .int .i64 xq.2.1, .slice axq_0 xq.2.2.1.length cxq_0, .slice axq_1 xq.2.2.2.1.length cxq_1, .slice a19 (xq.2.2.2.2.drop (Int.toNat 1)).length c19] 37)) rfl (congrArg (fun l : List Value => Ent.blk bs2 (.cells ⟨l⟩ 37)) (lcons (congrArg (Value.int .i64) ((if_t hc26).symm)) (lcons (rfl) (lcons (rfl) (lcons (rfl) (lcons (rfl) rfl)))))) ?_))
          exact fun a W hA hW => ⟨gj31, (Gext.refl w0 gj31), hA.sub (by kernel_rfl), hW, hF⟩
         ·replace hF := hF.2 hc26
          refine Ok.skip (Ok.thenN (Ok.entEq 3 (e' := .blk bs2 (.cells #[.int .i64 (rlnV5 xq e16), .int .i64 xq.2.1, .slice axq_0 xq.2.2.1.length cxq_0, .slice axq_1 xq.2.2.2.1.length cxq_1, .slice a19 (xq.2.2.2.2.drop (Int.toNat 1)).length c19] 37)) rfl (congrArg (fun l : List Value => Ent.blk bs2 (.cells ⟨l⟩ 37)) (lcons (congrArg (Value.int .i64) ((if_f hc26).symm)) (lcons (rfl) (lcons (rfl) (lcons (rfl) (lcons (rfl) rfl)))))) ?_))
          exact fun a W hA hW => ⟨gj31, (Gext.refl w0 gj31), hA.sub (by kernel_rfl), hW, hF⟩
        ·
         clear hF
         rintro a W ⟨gj38, hxj38, hA, hW, hF⟩
         refine (?_ : Ok _ _ _ _ _ _) a W hA hW
         clear hA hW
         replace hRxq_0 := hRxq_0.mono hxj38.1
         replace hRxq_1 := hRxq_1.mono hxj38.1
         replace hR19 := hR19.mono hxj38.1
         refine Ok.seq (Ok.region (Ok.bat 1 [2, 4, 5, 9] [(62, pv bs9 0)] ?_))
         refine Ok.op rfl (OpOk.step (v := .int .i64 e16.1) (Yields.load 0 rfl rfl Try.underlying3 rfl (by kernel_rfl)) rfl rfl (Ok.bat 1 [2, 4, 5, 9] [(63, .int .i64 e16.1), (64, pv bs9 4)] ?_))
         refine Ok.op rfl (OpOk.step (v := sv e16.2.2.2.2) (Yields.load 0 rfl rfl Try.underlying9 rfl (by kernel_rfl)) rfl rfl (Ok.bat 1 [2, 4, 5, 9, 63] [(65, sv e16.2.2.2.2), (66, pv bs9 3)] ?_))
         refine Ok.op rfl (OpOk.step (v := .int .i64 e16.2.2.2.1) (Yields.load 0 rfl rfl Try.underlying3 rfl (by kernel_rfl)) rfl rfl (Ok.bat 2 [2, 4, 5, 9] [(69, .agg #[.int .i64 e16.1, .int .i64 3, .bool false, sv e16.2.2.2.2, .int .i64 2, .int .i64 e16.2.2.2.1, sv ([] : Bs)])] ?_))
         refine Ok.op rfl (OpOk.alloc (z := .agg #[.int .i64 0, .int .i64 0, .bool false, sv ([] : Bs), .int .i64 0, .int .i64 0, sv ([] : Bs)]) (cs := #[.int .i64 0, .int .i64 0, .bool false, sv ([] : Bs), .int .i64 0, .int .i64 0, sv ([] : Bs)]) (by kernel_rfl) (by kernel_rfl) rfl fun bs10 => ?_)
         refine Ok.op rfl (OpOk.sto (k := 7) (v := .agg #[.int .i64 e16.1, .int .i64 3, .bool false, sv e16.2.2.2.2, .int .i64 2, .int .i64 e16.2.2.2.1, sv ([] : Bs)]) 0 #[.int .i64 e16.1, .int .i64 3, .bool false, sv e16.2.2.2.2, .int .i64 2, .int .i64 e16.2.2.2.1, sv ([] : Bs)] rfl rfl rfl ?_)
         refine Ok.nil (Ok.thenN (Ok.cut (fun a W => ∃ gj46 : Ghost, Gext w0 gj38 gj46 ∧ ∃ (aybs2_4j46 : Option Addr) (cybs2_4j46 : Nat), Rep gj46 (.slice (.pair (.int .i64) (.pair (.int .i64) (.pair (.int .i64) (.pair (.int .i64) (.str)))))) [.slice aybs2_4j46 (rlnV7 xq e16).length cybs2_4j46] (rlnV7 xq e16) ∧ StA 122 [(2, pv bs2 0), (4, pv bs4 0), (5, pv bs5 0), (10, pv bs10 0)] a ∧ StW w0 [.blk bs10 (.cells #[.int .i64 e16.1, .int .i64 3, .bool false, sv e16.2.2.2.2, .int .i64 2, .int .i64 e16.2.2.2.1, sv ([] : Bs)] 43), .blk bs5 (.cells #[.int .i64 0, .int .i64 0, .bool false, sv ([] : Bs), .int .i64 0, .int .i64 0, sv ([] : Bs)] 43), .blk bs4 (.cells #[.int .i64 0, .int .i64 0, .slice none 0 0, .slice none 0 0, .slice none 0 0] 37), .blk bs2 (.cells #[.int .i64 (rlnV5 xq e16), .int .i64 xq.2.1, .slice axq_0 xq.2.2.1.length cxq_0, .slice axq_1 xq.2.2.2.1.length cxq_1, .slice aybs2_4j46 (rlnV7 xq e16).length cybs2_4j46] 37)] gj46 W ∧ rlnj46 xq K e16) ?_ ?_))
         ·
          refine Ok.cut (fun a W => ∃ gj47 : Ghost, Gext w0 gj38 gj47 ∧ StA 122 [(2, pv bs2 0), (4, pv bs4 0), (5, pv bs5 0), (9, pv bs9 0), (10, pv bs10 0), (85, .bool (rlnV6 e16))] a ∧ StW w0 [.blk bs10 (.cells #[.int .i64 e16.1, .int .i64 3, .bool false, sv e16.2.2.2.2, .int .i64 2, .int .i64 e16.2.2.2.1, sv ([] : Bs)] 43), .blk bs9 (.cells #[.int .i64 e16.1, .int .i64 e16.2.1, .int .i64 e16.2.2.1, .int .i64 e16.2.2.2.1, sv e16.2.2.2.2] 93), .blk bs5 (.cells #[.int .i64 0, .int .i64 0, .bool false, sv ([] : Bs), .int .i64 0, .int .i64 0, sv ([] : Bs)] 43), .blk bs4 (.cells #[.int .i64 0, .int .i64 0, .slice none 0 0, .slice none 0 0, .slice none 0 0] 37), .blk bs2 (.cells #[.int .i64 (rlnV5 xq e16), .int .i64 xq.2.1, .slice axq_0 xq.2.2.1.length cxq_0, .slice axq_1 xq.2.2.2.1.length cxq_1, .slice a19 (xq.2.2.2.2.drop (Int.toNat 1)).length c19] 37)] gj47 W ∧ rlnj47 xq K e16) ?_ ?_
          ·
           refine Ok.region (Ok.bat 1 [2, 4, 5, 9] [(10, pv bs10 0), (70, pv bs9 2)] ?_)
           refine Ok.op rfl (OpOk.step (v := .int .i64 e16.2.2.1) (Yields.load 1 rfl rfl Try.underlying3 rfl (by kernel_rfl)) rfl rfl (Ok.bat 2 [2, 4, 5, 9, 10] [(73, .bool (decide (e16.2.2.1 > 0)))] ?_))
           refine Ok.boolAt 73 (decide (e16.2.2.1 > 0)) rfl (fun hc24 => ?_) (fun hc24 => ?_)
           ·replace hF := hF.1 hc24
            refine Ok.bat 1 [2, 4, 5, 9, 10] [(73, .bool true), (74, pv bs9 3)] ?_
            refine Ok.opYes (j := 3) (d := 73) (want := true) (b := true) rfl (by kernel_rfl) (by kernel_rfl) rfl (OpOk.step (v := .int .i64 e16.2.2.2.1) (Yields.load 1 rfl rfl Try.underlying3 rfl (by kernel_rfl)) rfl rfl (Ok.bat 3 [2, 4, 5, 9, 10] [(78, .bool (decide (e16.2.2.2.1 < 1000000000)))] ?_))
            refine Ok.boolAt 78 (decide (e16.2.2.2.1 < 1000000000)) rfl (fun hc25 => ?_) (fun hc25 => ?_)
            ·replace hF := hF.1 hc25
             refine Ok.bat 1 [2, 4, 5, 9, 10] [(78, .bool true), (79, pv bs9 1)] ?_
             refine Ok.opYes (j := 8) (d := 78) (want := true) (b := true) rfl (by kernel_rfl) (by kernel_rfl) rfl (OpOk.step (v := .int .i64 e16.2.1) (Yields.load 1 rfl rfl Try.underlying3 rfl (by kernel_rfl)) rfl rfl (Ok.bat 1 [2, 4, 5, 9, 10, 78] [(80, .int .i64 e16.2.1), (81, pv bs9 2)] ?_))
             refine Ok.opYes (j := 8) (d := 78) (want := true) (b := true) rfl (by kernel_rfl) (by kernel_rfl) rfl (OpOk.step (v := .int .i64 e16.2.2.1) (Yields.load 1 rfl rfl Try.underlying3 rfl (by kernel_rfl)) rfl rfl (Ok.bat 3 [2, 4, 5, 9, 10] [(85, .bool (decide ((w6 (e16.2.1 + e16.2.2.1)) ≤ 1000000000)))] ?_))
             refine Ok.nil (Ok.thenN (Ok.reval 85 rfl (show (.bool (decide ((w6 (e16.2.1 + e16.2.2.1)) ≤ 1000000000)) : Value) = .bool (rlnV6 e16) from congrArg (Value.bool) ((Eq.trans (mand_t hc25) (mand_t hc24)))) ?_))
             exact fun a W hA hW => ⟨gj38, (Gext.refl w0 gj38), hA.sub (by kernel_rfl), hW, hF⟩
            ·replace hF := hF.2 hc25
             refine Ok.bat 7 [2, 4, 5, 9, 10] [(85, .bool false)] ?_
             refine Ok.nil (Ok.thenN (Ok.reval 85 rfl (show (.bool false : Value) = .bool (rlnV6 e16) from congrArg (Value.bool) ((Eq.trans (mand_f hc25) (mand_t hc24)))) ?_))
             exact fun a W hA hW => ⟨gj38, (Gext.refl w0 gj38), hA.sub (by kernel_rfl), hW, hF⟩
           ·replace hF := hF.2 hc24
            refine Ok.bat 12 [2, 4, 5, 9, 10] [(85, .bool false)] ?_
            refine Ok.nil (Ok.thenN (Ok.reval 85 rfl (show (.bool false : Value) = .bool (rlnV6 e16) from congrArg (Value.bool) (mand_f hc24)) ?_))
            exact fun a W hA hW => ⟨gj38, (Gext.refl w0 gj38), hA.sub (by kernel_rfl), hW, hF⟩
          ·
           clear hF
           rintro a W ⟨gj47, hxj47, hA, hW, hF⟩
           refine (?_ : Ok _ _ _ _ _ _) a W hA hW
           clear hA hW
           replace hRxq_0 := hRxq_0.mono hxj47.1
           replace hRxq_1 := hRxq_1.mono hxj47.1
           replace hR19 := hR19.mono hxj47.1
           refine Ok.cond (b := (rlnV6 e16)) rfl (fun hc21 => ?_) (fun hc21 => ?_)
           ·replace hF := hF.1 hc21
            refine Ok.seq (Ok.region (Ok.bat 1 [2, 4, 5, 9, 10] [(86, pv bs9 1)] ?_))
            refine Ok.op rfl (OpOk.step (v := .int .i64 e16.2.1) (Yields.load 1 rfl rfl Try.underlying3 rfl (by kernel_rfl)) rfl rfl (Ok.bat 1 [2, 4, 5, 9, 10] [(87, .int .i64 e16.2.1), (88, pv bs9 2)] ?_))
            refine Ok.op rfl (OpOk.step (v := .int .i64 e16.2.2.1) (Yields.load 1 rfl rfl Try.underlying3 rfl (by kernel_rfl)) rfl rfl (Ok.bat 2 [2, 4, 5, 9, 10] [(90, .int .i64 (w6 (e16.2.1 + e16.2.2.1))), (91, pv bs9 1)] ?_))
            refine Ok.op rfl (OpOk.sto (k := 1) (v := .int .i64 (w6 (e16.2.1 + e16.2.2.1))) 1 #[.int .i64 e16.1, .int .i64 (w6 (e16.2.1 + e16.2.2.1)), .int .i64 e16.2.2.1, .int .i64 e16.2.2.2.1, sv e16.2.2.2.2] rfl rfl rfl ?_)
            refine Ok.nil (Ok.thenN (Ok.seq (Ok.region (Ok.bat 1 [2, 4, 5, 9, 10] [(92, pv bs9 3)] ?_))))
            refine Ok.op rfl (OpOk.step (v := .int .i64 e16.2.2.2.1) (Yields.load 1 rfl rfl Try.underlying3 rfl (by kernel_rfl)) rfl rfl (Ok.bat 2 [2, 4, 5, 9, 10] [(94, .int .i64 (w6 (e16.2.2.2.1 + 1))), (95, pv bs9 3)] ?_))
            refine Ok.op rfl (OpOk.sto (k := 1) (v := .int .i64 (w6 (e16.2.2.2.1 + 1))) 1 #[.int .i64 e16.1, .int .i64 (w6 (e16.2.1 + e16.2.2.1)), .int .i64 e16.2.2.1, .int .i64 (w6 (e16.2.2.2.1 + 1)), sv e16.2.2.2.2] rfl rfl rfl ?_)
            refine Ok.nil (Ok.thenN (Ok.region (Ok.bat 1 [2, 4, 5, 9, 10] [(96, pv bs2 4)] ?_)))
            refine Ok.op rfl (OpOk.step (v := .slice a19 (xq.2.2.2.2.drop (Int.toNat 1)).length c19) (Yields.load 4 rfl rfl Try.underlying35 rfl (by kernel_rfl)) rfl rfl (Ok.op rfl (OpOk.step (v := .agg #[.int .i64 e16.1, .int .i64 (w6 (e16.2.1 + e16.2.2.1)), .int .i64 e16.2.2.1, .int .i64 (w6 (e16.2.2.2.1 + 1)), sv e16.2.2.2.2]) (Yields.loadAgg 1 5 #[.int .i64 e16.1, .int .i64 (w6 (e16.2.1 + e16.2.2.1)), .int .i64 e16.2.2.1, .int .i64 (w6 (e16.2.2.2.1 + 1)), sv e16.2.2.2.2] rfl rfl Try.underlying93 rfl (by kernel_rfl) (by kernel_rfl) (by kernel_rfl)) rfl rfl ?_)))
            obtain ⟨hp22, hF⟩ := hF
            refine Ok.op rfl (OpOk.callH [] _ enr rfl (rpl_c (xq.2.2.2.2.drop (Int.toNat 1)) (e16.1, w6 (e16.2.1 + e16.2.2.1), e16.2.2.1, w6 (e16.2.2.2.1 + 1), e16.2.2.2.2) hR19 hp22) rfl fun g23 _ _ hx23 hV23 => ?_)
            obtain ⟨a23_0, c23_0, rfl, hR23_0, rfl⟩ := hV23
            replace hR19 := hR19.mono hx23.1
            replace hRxq_0 := hRxq_0.mono hx23.1
            replace hRxq_1 := hRxq_1.mono hx23.1
            refine Ok.bat 1 [2, 4, 5, 10] [(99, .slice a23_0 (llaS (xq.2.2.2.2.drop (Int.toNat 1)) (e16.1, w6 (e16.2.1 + e16.2.2.1), e16.2.2.1, w6 (e16.2.2.2.1 + 1), e16.2.2.2.2)).length c23_0), (100, pv bs2 4)] ?_
            refine Ok.op rfl (OpOk.sto (k := 1) (v := .slice a23_0 (llaS (xq.2.2.2.2.drop (Int.toNat 1)) (e16.1, w6 (e16.2.1 + e16.2.2.1), e16.2.2.1, w6 (e16.2.2.2.1 + 1), e16.2.2.2.2)).length c23_0) 4 #[.int .i64 (rlnV5 xq e16), .int .i64 xq.2.1, .slice axq_0 xq.2.2.1.length cxq_0, .slice axq_1 xq.2.2.2.1.length cxq_1, .slice a23_0 (llaS (xq.2.2.2.2.drop (Int.toNat 1)) (e16.1, w6 (e16.2.1 + e16.2.2.1), e16.2.2.1, w6 (e16.2.2.2.1 + 1), e16.2.2.2.2)).length c23_0] rfl rfl rfl ?_)
            refine Ok.nil (Ok.thenN (Ok.entEq 4 (e' := .blk bs2 (.cells #[.int .i64 (rlnV5 xq e16), .int .i64 xq.2.1, .slice axq_0 xq.2.2.1.length cxq_0, .slice axq_1 xq.2.2.2.1.length cxq_1, .slice a23_0 (rlnV7 xq e16).length c23_0] 37)) rfl (congrArg (fun l : List Value => Ent.blk bs2 (.cells ⟨l⟩ 37)) (lcons (rfl) (lcons (rfl) (lcons (rfl) (lcons (rfl) (lcons (congrArg (fun l : List (JT) => Value.slice a23_0 l.length c23_0) ((if_t hc21).symm)) rfl)))))) ?_))
            exact fun a W hA hW => ⟨g23, (hxj47.trans hx23), a23_0, c23_0, (Eq.mp (congrArg (fun l : List (JT) => Rep g23 (.slice (.pair (.int .i64) (.pair (.int .i64) (.pair (.int .i64) (.pair (.int .i64) (.str)))))) [.slice a23_0 l.length c23_0] l) ((if_t hc21).symm)) hR23_0), hA.sub (by kernel_rfl), hW.sub (.cons_cons _ (.cons _ (.cons_cons _ (.cons_cons _ (.cons_cons _ .slnil))))), hF⟩
           ·replace hF := hF.2 hc21
            refine Ok.skip (Ok.thenN (Ok.entEq 4 (e' := .blk bs2 (.cells #[.int .i64 (rlnV5 xq e16), .int .i64 xq.2.1, .slice axq_0 xq.2.2.1.length cxq_0, .slice axq_1 xq.2.2.2.1.length cxq_1, .slice a19 (rlnV7 xq e16).length c19] 37)) rfl (congrArg (fun l : List Value => Ent.blk bs2 (.cells ⟨l⟩ 37)) (lcons (rfl) (lcons (rfl) (lcons (rfl) (lcons (rfl) (lcons (congrArg (fun l : List (JT) => Value.slice a19 l.length c19) ((if_f hc21).symm)) rfl)))))) ?_))
            exact fun a W hA hW => ⟨gj47, hxj47, a19, c19, (Eq.mp (congrArg (fun l : List (JT) => Rep gj47 (.slice (.pair (.int .i64) (.pair (.int .i64) (.pair (.int .i64) (.pair (.int .i64) (.str)))))) [.slice a19 l.length c19] l) ((if_f hc21).symm)) hR19), hA.sub (by kernel_rfl), hW.sub (.cons_cons _ (.cons _ (.cons_cons _ (.cons_cons _ (.cons_cons _ .slnil))))), hF⟩
         ·
          clear hF
          rintro a W ⟨gj46, hxj46, aybs2_4j46, cybs2_4j46, hRybs2_4j46, hA, hW, hF⟩
          refine (?_ : Ok _ _ _ _ _ _) a W hA hW
          clear hA hW
          replace hRxq_0 := hRxq_0.mono hxj46.1
          replace hRxq_1 := hRxq_1.mono hxj46.1
          refine Ok.seq (Ok.mix [] [] _ [(0, true), (1, true), (2, false), (3, false), (4, true)] (by kernel_rfl) (by kernel_rfl) (.cons_cons _ (.cons _ (.cons _ (.cons_cons _ .slnil)))) (OkM.head rfl rfl rfl (OpQ.step (v := .agg #[.int .i64 (rlnV5 xq e16), .int .i64 xq.2.1, .slice axq_0 xq.2.2.1.length cxq_0, .slice axq_1 xq.2.2.2.1.length cxq_1, .slice aybs2_4j46 (rlnV7 xq e16).length cybs2_4j46]) (Yields.loadAgg 1 5 #[.int .i64 (rlnV5 xq e16), .int .i64 xq.2.1, .slice axq_0 xq.2.2.1.length cxq_0, .slice axq_1 xq.2.2.2.1.length cxq_1, .slice aybs2_4j46 (rlnV7 xq e16).length cybs2_4j46] rfl rfl Try.underlying37 rfl (by kernel_rfl) (by kernel_rfl) (by kernel_rfl)) rfl rfl (OkM.head rfl rfl rfl (OpQ.step (v := .agg #[.int .i64 e16.1, .int .i64 3, .bool false, sv e16.2.2.2.2, .int .i64 2, .int .i64 e16.2.2.2.1, sv ([] : Bs)]) (Yields.loadAgg 0 7 #[.int .i64 e16.1, .int .i64 3, .bool false, sv e16.2.2.2.2, .int .i64 2, .int .i64 e16.2.2.2.1, sv ([] : Bs)] rfl rfl Try.underlying43 rfl (by kernel_rfl) (by kernel_rfl) (by kernel_rfl)) rfl rfl (OkM.tail rfl rfl (OpOk.sto (k := 5) (v := .agg #[.int .i64 (rlnV5 xq e16), .int .i64 xq.2.1, .slice axq_0 xq.2.2.1.length cxq_0, .slice axq_1 xq.2.2.2.1.length cxq_1, .slice aybs2_4j46 (rlnV7 xq e16).length cybs2_4j46]) 2 #[.int .i64 (rlnV5 xq e16), .int .i64 xq.2.1, .slice axq_0 xq.2.2.1.length cxq_0, .slice axq_1 xq.2.2.2.1.length cxq_1, .slice aybs2_4j46 (rlnV7 xq e16).length cybs2_4j46] rfl rfl rfl ?_)))))))
          refine OkM.leaf (i := 2) rfl (Gle.refl _) (.cons_cons _ (.cons _ (.cons _ (.cons_cons _ .slnil)))) (OkM.tail rfl rfl (OpOk.sto (k := 7) (v := .agg #[.int .i64 e16.1, .int .i64 3, .bool false, sv e16.2.2.2.2, .int .i64 2, .int .i64 e16.2.2.2.1, sv ([] : Bs)]) 1 #[.int .i64 e16.1, .int .i64 3, .bool false, sv e16.2.2.2.2, .int .i64 2, .int .i64 e16.2.2.2.1, sv ([] : Bs)] rfl rfl rfl ?_))
          refine OkM.leaf (i := 3) rfl (Gle.refl _) (.cons_cons _ (.cons _ (.cons _ (.cons_cons _ .slnil)))) (OkM.bat 1 [4, 5] [(6, .bool true)] ?_)
          refine OkM.nil (Ok.thenN (Ok.ret (Ok.blockR (Ok.thenR (Ok.thenR (Ok.blockR (Ok.thenR ?_)))))))
          exact Ok.resP (vs := [.agg #[.int .i64 (rlnV5 xq e16), .int .i64 xq.2.1, .slice axq_0 xq.2.2.1.length cxq_0, .slice axq_1 xq.2.2.2.1.length cxq_1, .slice aybs2_4j46 (rlnV7 xq e16).length cybs2_4j46], .agg #[.int .i64 e16.1, .int .i64 3, .bool false, sv e16.2.2.2.2, .int .i64 2, .int .i64 e16.2.2.2.1, sv ([] : Bs)], .bool true]) [] [] (by decide) rfl (.inl rfl) rfl (.cons (.cellAgg 2 5 #[.int .i64 (rlnV5 xq e16), .int .i64 xq.2.1, .slice axq_0 xq.2.2.1.length cxq_0, .slice axq_1 xq.2.2.2.1.length cxq_1, .slice aybs2_4j46 (rlnV7 xq e16).length cybs2_4j46] rfl rfl Try.underlying37 rfl (by kernel_rfl) (by kernel_rfl) (by kernel_rfl)) (.cons (.cellAgg 1 7 #[.int .i64 e16.1, .int .i64 3, .bool false, sv e16.2.2.2.2, .int .i64 2, .int .i64 e16.2.2.2.1, sv ([] : Bs)] rfl rfl Try.underlying43 rfl (by kernel_rfl) (by kernel_rfl) (by kernel_rfl)) (.cons (.tmp rfl) .nil))) (((hxl19.trans hxj31).trans hxj38).trans hxj46) ⟨((rlnV5 xq e16), xq.2.1, xq.2.2.1, xq.2.2.2.1, (rlnV7 xq e16)), (e16.1, 3, false, e16.2.2.2.2, (2, e16.2.2.2.1, ([] : Bs))), true, axq_0, cxq_0, axq_1, cxq_1, aybs2_4j46, cybs2_4j46, rfl, hRxq_0, hRxq_1, hRybs2_4j46, rfl, hF⟩
     ·replace hF := hF.2 hc14
      refine Ok.exit (Ok.thenE (Ok.thenE (Ok.blockHit (Ok.thenN ?_))))
      exact fun a W hA hW => ⟨gl19, hxl19, hA.sub (by kernel_rfl), hW, hF⟩
  ·
   clear hF
   rintro a W ⟨gj15, hxj15, hA, hW, hF⟩
   refine (?_ : Ok _ _ _ _ _ _) a W hA hW
   clear hA hW
   replace hRxq_0 := hRxq_0.mono hxj15.1
   replace hRxq_1 := hRxq_1.mono hxj15.1
   replace hRxq_2 := hRxq_2.mono hxj15.1
   refine Ok.seq (Ok.seq (Ok.region (Ok.bat 1 [1, 2, 4, 5] [(104, pv bs2 2)] ?_)))
   refine Ok.op rfl (OpOk.step (v := .slice axq_0 xq.2.2.1.length cxq_0) (Yields.load 2 rfl rfl Try.underlying34 rfl (by kernel_rfl)) rfl rfl (Ok.bat 2 [1, 2, 4, 5] [(107, .bool (decide ((xq.2.2.1.length : Int) > 0)))] ?_))
   refine Ok.nil (Ok.thenN (Ok.cond (b := decide ((xq.2.2.1.length : Int) > 0)) rfl (fun hc9 => ?_) (fun hc9 => ?_)))
   ·replace hF := hF.1 hc9
    refine Ok.seq (Ok.region (Ok.bat 1 [2, 4, 5] [(108, pv bs2 2)] ?_))
    refine Ok.op rfl (OpOk.step (v := .slice axq_0 xq.2.2.1.length cxq_0) (Yields.load 2 rfl rfl Try.underlying34 rfl (by kernel_rfl)) rfl rfl ?_)
    obtain ⟨h011, h111, hF⟩ := hF
    have he11 := get_of (l := xq.2.2.1) (default : JJ) h111
    generalize hg11 : (xq.2.2.1.getD (Int.toNat 0) default) = e11 at he11 hF ⊢
    refine Ok.op rfl (OpOk.indexRo (e := .pair (.int .i64) (.pair (.int .i64) (.pair (.bool) (.pair (.str) (.pair (.int .i64) (.pair (.int .i64) (.str))))))) (i := 0) (el := e11) rfl rfl Try.underlying34 (by kernel_rfl) hRxq_0 h011 he11 rfl fun q10 o10 cs10 _ hat10 hr10 => ?_)
    obtain ⟨_, _, rfl, rfl, ⟨_, _, rfl, rfl, ⟨_, _, rfl, rfl, ⟨_, _, rfl, rfl, ⟨_, _, rfl, rfl, ⟨_, _, rfl, rfl, rfl⟩⟩⟩⟩⟩⟩ := hr10
    replace hat10 : At gj15 q10 o10 [.int .i64 e11.1, .int .i64 e11.2.1, .bool e11.2.2.1, sv e11.2.2.2.1, .int .i64 e11.2.2.2.2.1, .int .i64 e11.2.2.2.2.2.1, sv e11.2.2.2.2.2.2] := hat10
    refine Ok.op rfl (OpOk.step (v := .agg #[.int .i64 e11.1, .int .i64 e11.2.1, .bool e11.2.2.1, sv e11.2.2.2.1, .int .i64 e11.2.2.2.2.1, .int .i64 e11.2.2.2.2.2.1, sv e11.2.2.2.2.2.2]) (Yields.loadAggRo 0 7 #[.int .i64 e11.1, .int .i64 e11.2.1, .bool e11.2.2.1, sv e11.2.2.2.1, .int .i64 e11.2.2.2.2.1, .int .i64 e11.2.2.2.2.2.1, sv e11.2.2.2.2.2.2] hat10 (by kernel_rfl) Try.underlying43 rfl (by kernel_rfl) (by kernel_rfl) (by kernel_rfl)) rfl rfl (Ok.op rfl (OpOk.alloc (z := .agg #[.int .i64 0, .int .i64 0, .bool false, sv ([] : Bs), .int .i64 0, .int .i64 0, sv ([] : Bs)]) (cs := #[.int .i64 0, .int .i64 0, .bool false, sv ([] : Bs), .int .i64 0, .int .i64 0, sv ([] : Bs)]) (by kernel_rfl) (by kernel_rfl) rfl fun bs11 => ?_)))
    refine Ok.op rfl (OpOk.sto (k := 7) (v := .agg #[.int .i64 e11.1, .int .i64 e11.2.1, .bool e11.2.2.1, sv e11.2.2.2.1, .int .i64 e11.2.2.2.2.1, .int .i64 e11.2.2.2.2.2.1, sv e11.2.2.2.2.2.2]) 0 #[.int .i64 e11.1, .int .i64 e11.2.1, .bool e11.2.2.1, sv e11.2.2.2.1, .int .i64 e11.2.2.2.2.1, .int .i64 e11.2.2.2.2.2.1, sv e11.2.2.2.2.2.2] rfl rfl rfl ?_)
    refine Ok.nil (Ok.thenN (Ok.seq (Ok.region (Ok.bat 1 [2, 4, 5] [(11, pv bs11 0), (112, pv bs2 2)] ?_))))
    refine Ok.op rfl (OpOk.step (v := .slice axq_0 xq.2.2.1.length cxq_0) (Yields.load 3 rfl rfl Try.underlying34 rfl (by kernel_rfl)) rfl rfl ?_)
    obtain ⟨h013, h113, h213, hF⟩ := hF
    refine Ok.op rfl (OpOk.sliceRo (e := .pair (.int .i64) (.pair (.int .i64) (.pair (.bool) (.pair (.str) (.pair (.int .i64) (.pair (.int .i64) (.str))))))) (l := 1) (h := (xq.2.2.1.length : Int)) rfl Try.underlying34 (by kernel_rfl) (.inl ⟨_, _, rfl, rfl⟩) (.inr ⟨rfl, rfl⟩) hRxq_0 h013 h113 h213 rfl (xq.2.2.1.drop (Int.toNat 1)) (by rw [show ((xq.2.2.1.length : Int)).toNat = xq.2.2.1.length from Int.toNat_natCast _, List.take_length]) fun a13 c13 hR13 => ?_)
    refine Ok.bat 1 [2, 4, 5, 11] [(114, .slice a13 (xq.2.2.1.drop (Int.toNat 1)).length c13), (115, pv bs2 2)] ?_
    refine Ok.op rfl (OpOk.sto (k := 1) (v := .slice a13 (xq.2.2.1.drop (Int.toNat 1)).length c13) 3 #[.int .i64 xq.1, .int .i64 xq.2.1, .slice a13 (xq.2.2.1.drop (Int.toNat 1)).length c13, .slice axq_1 xq.2.2.2.1.length cxq_1, .slice axq_2 xq.2.2.2.2.length cxq_2] rfl rfl rfl ?_)
    refine Ok.nil (Ok.thenN (Ok.seq (Ok.mix [] [] _ [(0, true), (1, true), (2, false), (3, false), (4, true)] (by kernel_rfl) (by kernel_rfl) (.cons_cons _ (.cons _ (.cons _ (.cons_cons _ .slnil)))) (OkM.head rfl rfl rfl (OpQ.step (v := .agg #[.int .i64 xq.1, .int .i64 xq.2.1, .slice a13 (xq.2.2.1.drop (Int.toNat 1)).length c13, .slice axq_1 xq.2.2.2.1.length cxq_1, .slice axq_2 xq.2.2.2.2.length cxq_2]) (Yields.loadAgg 1 5 #[.int .i64 xq.1, .int .i64 xq.2.1, .slice a13 (xq.2.2.1.drop (Int.toNat 1)).length c13, .slice axq_1 xq.2.2.2.1.length cxq_1, .slice axq_2 xq.2.2.2.2.length cxq_2] rfl rfl Try.underlying37 rfl (by kernel_rfl) (by kernel_rfl) (by kernel_rfl)) rfl rfl (OkM.head rfl rfl rfl (OpQ.step (v := .agg #[.int .i64 e11.1, .int .i64 e11.2.1, .bool e11.2.2.1, sv e11.2.2.2.1, .int .i64 e11.2.2.2.2.1, .int .i64 e11.2.2.2.2.2.1, sv e11.2.2.2.2.2.2]) (Yields.loadAgg 0 7 #[.int .i64 e11.1, .int .i64 e11.2.1, .bool e11.2.2.1, sv e11.2.2.2.1, .int .i64 e11.2.2.2.2.1, .int .i64 e11.2.2.2.2.2.1, sv e11.2.2.2.2.2.2] rfl rfl Try.underlying43 rfl (by kernel_rfl) (by kernel_rfl) (by kernel_rfl)) rfl rfl (OkM.tail rfl rfl (OpOk.sto (k := 5) (v := .agg #[.int .i64 xq.1, .int .i64 xq.2.1, .slice a13 (xq.2.2.1.drop (Int.toNat 1)).length c13, .slice axq_1 xq.2.2.2.1.length cxq_1, .slice axq_2 xq.2.2.2.2.length cxq_2]) 2 #[.int .i64 xq.1, .int .i64 xq.2.1, .slice a13 (xq.2.2.1.drop (Int.toNat 1)).length c13, .slice axq_1 xq.2.2.2.1.length cxq_1, .slice axq_2 xq.2.2.2.2.length cxq_2] rfl rfl rfl ?_)))))))))
    refine OkM.leaf (i := 2) rfl (Gle.refl _) (.cons_cons _ (.cons _ (.cons _ (.cons_cons _ .slnil)))) (OkM.tail rfl rfl (OpOk.sto (k := 7) (v := .agg #[.int .i64 e11.1, .int .i64 e11.2.1, .bool e11.2.2.1, sv e11.2.2.2.1, .int .i64 e11.2.2.2.2.1, .int .i64 e11.2.2.2.2.2.1, sv e11.2.2.2.2.2.2]) 1 #[.int .i64 e11.1, .int .i64 e11.2.1, .bool e11.2.2.1, sv e11.2.2.2.1, .int .i64 e11.2.2.2.2.1, .int .i64 e11.2.2.2.2.2.1, sv e11.2.2.2.2.2.2] rfl rfl rfl ?_))
    refine OkM.leaf (i := 3) rfl (Gle.refl _) (.cons_cons _ (.cons _ (.cons _ (.cons_cons _ .slnil)))) (OkM.bat 1 [4, 5] [(6, .bool true)] ?_)
    refine OkM.nil (Ok.thenN (Ok.ret (Ok.thenR ?_)))
    exact Ok.resP (vs := [.agg #[.int .i64 xq.1, .int .i64 xq.2.1, .slice a13 (xq.2.2.1.drop (Int.toNat 1)).length c13, .slice axq_1 xq.2.2.2.1.length cxq_1, .slice axq_2 xq.2.2.2.2.length cxq_2], .agg #[.int .i64 e11.1, .int .i64 e11.2.1, .bool e11.2.2.1, sv e11.2.2.2.1, .int .i64 e11.2.2.2.2.1, .int .i64 e11.2.2.2.2.2.1, sv e11.2.2.2.2.2.2], .bool true]) [] [] (by decide) rfl (.inl rfl) rfl (.cons (.cellAgg 2 5 #[.int .i64 xq.1, .int .i64 xq.2.1, .slice a13 (xq.2.2.1.drop (Int.toNat 1)).length c13, .slice axq_1 xq.2.2.2.1.length cxq_1, .slice axq_2 xq.2.2.2.2.length cxq_2] rfl rfl Try.underlying37 rfl (by kernel_rfl) (by kernel_rfl) (by kernel_rfl)) (.cons (.cellAgg 1 7 #[.int .i64 e11.1, .int .i64 e11.2.1, .bool e11.2.2.1, sv e11.2.2.2.1, .int .i64 e11.2.2.2.2.1, .int .i64 e11.2.2.2.2.2.1, sv e11.2.2.2.2.2.2] rfl rfl Try.underlying43 rfl (by kernel_rfl) (by kernel_rfl) (by kernel_rfl)) (.cons (.tmp rfl) .nil))) hxj15 ⟨(xq.1, xq.2.1, (xq.2.2.1.drop (Int.toNat 1)), xq.2.2.2.1, xq.2.2.2.2), e11, true, a13, c13, axq_1, cxq_1, axq_2, cxq_2, rfl, hR13, hRxq_1, hRxq_2, rfl, hF⟩
   ·replace hF := hF.2 hc9
    refine Ok.skip (Ok.thenN (Ok.seq (Ok.region (Ok.bat 2 [2, 4, 5] [(118, .int .i64 xuntil), (119, pv bs2 0)] ?_))))
    refine Ok.op rfl (OpOk.sto (k := 1) (v := .int .i64 xuntil) 2 #[.int .i64 xuntil, .int .i64 xq.2.1, .slice axq_0 xq.2.2.1.length cxq_0, .slice axq_1 xq.2.2.2.1.length cxq_1, .slice axq_2 xq.2.2.2.2.length cxq_2] rfl rfl rfl ?_)
    refine Ok.nil (Ok.thenN (Ok.seq (Ok.region (Ok.op rfl (OpOk.step (v := .agg #[.int .i64 xuntil, .int .i64 xq.2.1, .slice axq_0 xq.2.2.1.length cxq_0, .slice axq_1 xq.2.2.2.1.length cxq_1, .slice axq_2 xq.2.2.2.2.length cxq_2]) (Yields.loadAgg 2 5 #[.int .i64 xuntil, .int .i64 xq.2.1, .slice axq_0 xq.2.2.1.length cxq_0, .slice axq_1 xq.2.2.2.1.length cxq_1, .slice axq_2 xq.2.2.2.2.length cxq_2] rfl rfl Try.underlying37 rfl (by kernel_rfl) (by kernel_rfl) (by kernel_rfl)) rfl rfl (Ok.bat 1 [4, 5] [(120, .agg #[.int .i64 xuntil, .int .i64 xq.2.1, .slice axq_0 xq.2.2.1.length cxq_0, .slice axq_1 xq.2.2.2.1.length cxq_1, .slice axq_2 xq.2.2.2.2.length cxq_2]), (121, .agg #[.int .i64 0, .int .i64 0, .bool false, sv ([] : Bs), .int .i64 0, .int .i64 0, sv ([] : Bs)])] ?_))))))
    refine Ok.op rfl (OpOk.sto (k := 5) (v := .agg #[.int .i64 xuntil, .int .i64 xq.2.1, .slice axq_0 xq.2.2.1.length cxq_0, .slice axq_1 xq.2.2.2.1.length cxq_1, .slice axq_2 xq.2.2.2.2.length cxq_2]) 1 #[.int .i64 xuntil, .int .i64 xq.2.1, .slice axq_0 xq.2.2.1.length cxq_0, .slice axq_1 xq.2.2.2.1.length cxq_1, .slice axq_2 xq.2.2.2.2.length cxq_2] rfl rfl rfl ?_)
    refine Ok.op rfl (OpOk.sto (k := 7) (v := .agg #[.int .i64 0, .int .i64 0, .bool false, sv ([] : Bs), .int .i64 0, .int .i64 0, sv ([] : Bs)]) 0 #[.int .i64 0, .int .i64 0, .bool false, sv ([] : Bs), .int .i64 0, .int .i64 0, sv ([] : Bs)] rfl rfl rfl ?_)
    refine Ok.bat 1 [4, 5] [(6, .bool false)] ?_
    refine Ok.nil (Ok.thenN (Ok.ret ?_))
    exact Ok.resP (vs := [.agg #[.int .i64 xuntil, .int .i64 xq.2.1, .slice axq_0 xq.2.2.1.length cxq_0, .slice axq_1 xq.2.2.2.1.length cxq_1, .slice axq_2 xq.2.2.2.2.length cxq_2], .agg #[.int .i64 0, .int .i64 0, .bool false, sv ([] : Bs), .int .i64 0, .int .i64 0, sv ([] : Bs)], .bool false]) [] [] (by decide) rfl (.inl rfl) rfl (.cons (.cellAgg 1 5 #[.int .i64 xuntil, .int .i64 xq.2.1, .slice axq_0 xq.2.2.1.length cxq_0, .slice axq_1 xq.2.2.2.1.length cxq_1, .slice axq_2 xq.2.2.2.2.length cxq_2] rfl rfl Try.underlying37 rfl (by kernel_rfl) (by kernel_rfl) (by kernel_rfl)) (.cons (.cellAgg 0 7 #[.int .i64 0, .int .i64 0, .bool false, sv ([] : Bs), .int .i64 0, .int .i64 0, sv ([] : Bs)] rfl rfl Try.underlying43 rfl (by kernel_rfl) (by kernel_rfl) (by kernel_rfl)) (.cons (.tmp rfl) .nil))) hxj15 ⟨(xuntil, xq.2.1, xq.2.2.1, xq.2.2.2.1, xq.2.2.2.2), (0, 0, false, ([] : Bs), (0, 0, ([] : Bs))), false, axq_0, cxq_0, axq_1, cxq_1, axq_2, cxq_2, rfl, hRxq_0, hRxq_1, hRxq_2, rfl, hF⟩
theorem rln_F (q : JL) (u : Int) (hz : lchS q = 0) : rlnF q u (fun r j b => (r, j, b) = rnS q u) := by
 obtain ⟨hb, g⟩ := lch_zero hz
 have hnow := g.now
 have hs : q.2.2.1.length ≤ 100 ∧ q.2.2.2.1.length ≤ 100 ∧ q.2.2.2.2.length ≤ 100 := by unfold big at hb; omega
 refine ⟨fun c1 => ?_, fun c1 => ⟨1, ?_⟩⟩
 ·have c := of_decide_eq_true c1
  refine ⟨by omega, by omega, by omega, by omega, by omega, ?_⟩
  unfold rnS; rw [if_t c1]; rfl
 have j15 : dueB q u = false → rlnj15 q u (fun r j b => (r, j, b) = rnS q u) := fun hd => by
  refine ⟨fun c3 => ?_, fun c3 => ?_⟩
  ·have c := of_decide_eq_true c3
   refine ⟨by omega, by omega, by omega, by omega, by omega, ?_⟩
   unfold rnS; rw [if_f c1, if_f hd, if_t c3]; rfl
  ·unfold rnS; rw [if_f c1, if_f hd, if_f c3]
 refine ⟨fun hl0 => ?_, fun hl0 => j15 (by unfold dueB; rw [show decide ((q.2.2.2.2.length : Int) > 0) = false from hl0]; rfl)⟩
 have hl : 0 < q.2.2.2.2.length := by have := of_decide_eq_true hl0; omega
 have hw1 : w6 ((q.2.2.2.2.getD 0 default).2.1 + (q.2.2.2.2.getD 0 default).2.2.1) = (q.2.2.2.2.getD 0 default).2.1 + (q.2.2.2.2.getD 0 default).2.2.1 := by
  have := g.timers _ (mem_getD default hl)
  exact w64 (by omega)
 have hw2 : w6 ((q.2.2.2.2.getD 0 default).2.2.2.1 + 1) = (q.2.2.2.2.getD 0 default).2.2.2.1 + 1 := by
  have := g.timers _ (mem_getD default hl)
  exact w64 (by omega)
 have hV : rlnV4 q u (q.2.2.2.2.getD 0 default) = !(dueB q u) := by
  unfold rlnV4 dueB
  rw [Bool.eq_iff_iff]
  simp only [Bool.and_eq_true, Bool.or_eq_true, decide_eq_true_eq, Bool.not_eq_true', Bool.and_eq_false_iff, Bool.or_eq_false_iff, decide_eq_false_iff_not, beq_eq_false_iff_ne]
  omega
 have e5 : rlnV5 q (q.2.2.2.2.getD 0 default) = if q.1 < (q.2.2.2.2.getD 0 default).2.1 then (q.2.2.2.2.getD 0 default).2.1 else q.1 := by
  unfold rlnV5
  by_cases h : q.1 < (q.2.2.2.2.getD 0 default).2.1
  ·rw [if_pos h, if_t (decide_eq_true h)]
  ·rw [if_neg h, if_f (decide_eq_false h)]
 have e6 : rlnV6 (q.2.2.2.2.getD 0 default) = agB (q.2.2.2.2.getD 0 default) := by
  unfold rlnV6 agB
  rw [hw1, Bool.and_comm (decide ((q.2.2.2.2.getD 0 default).2.2.2.1 < 1000000000))]
 have e7 : rlnV7 q (q.2.2.2.2.getD 0 default) = if agB (q.2.2.2.2.getD 0 default) = true then llaS (q.2.2.2.2.drop 1) (agT (q.2.2.2.2.getD 0 default)) else q.2.2.2.2.drop 1 := by
  unfold rlnV7 agT
  rw [e6, hw1, hw2]; rfl
 have j31 : rlnj31 q u (fun r j b => (r, j, b) = rnS q u) (q.2.2.2.2.getD 0 default) := by
  refine ⟨fun hv => j15 (by rw [hV] at hv; simpa using hv), fun hv => ?_⟩
  have hd : dueB q u = true := by rw [hV] at hv; simpa using hv
  have j46 : rlnj46 q (fun r j b => (r, j, b) = rnS q u) (q.2.2.2.2.getD 0 default) := by
   unfold rlnj46 rnS
   rw [if_f c1, if_t hd, e5, e7]; rfl
  have j47 : rlnj47 q (fun r j b => (r, j, b) = rnS q u) (q.2.2.2.2.getD 0 default) := ⟨fun _ => ⟨by unfold rplP; rw [List.length_drop]; omega, j46⟩, fun _ => j46⟩
  have j38 : rlnj38 q (fun r j b => (r, j, b) = rnS q u) (q.2.2.2.2.getD 0 default) := ⟨fun _ => two j47, fun _ => j47⟩
  exact ⟨by omega, by omega, by omega, two j38⟩
 exact ⟨by omega, hl, fun _ => two j31, fun _ => j31⟩
def rlnP (q : JL) (_ : Int) : Prop := lchS q = 0
theorem rln_c {g : Ghost} {axq_0 : Option Addr} {cxq_0 : Nat} {axq_1 : Option Addr} {cxq_1 : Nat} {axq_2 : Option Addr} {cxq_2 : Nat} (xq : Int × Int × (List (Int × Int × Bool × Bs × Int × Int × Bs)) × (List (Int × Int × Bool × Bs × Int × Int × Bs)) × List (Int × Int × Int × Int × Bs)) (xuntil : Int) (hRxq_0 : Rep g (.slice (.pair (.int .i64) (.pair (.int .i64) (.pair (.bool) (.pair (.str) (.pair (.int .i64) (.pair (.int .i64) (.str)))))))) [.slice axq_0 xq.2.2.1.length cxq_0] xq.2.2.1) (hRxq_1 : Rep g (.slice (.pair (.int .i64) (.pair (.int .i64) (.pair (.bool) (.pair (.str) (.pair (.int .i64) (.pair (.int .i64) (.str)))))))) [.slice axq_1 xq.2.2.2.1.length cxq_1] xq.2.2.2.1) (hRxq_2 : Rep g (.slice (.pair (.int .i64) (.pair (.int .i64) (.pair (.int .i64) (.pair (.int .i64) (.str)))))) [.slice axq_2 xq.2.2.2.2.length cxq_2] xq.2.2.2.2)  (hp : rlnP xq xuntil) : CallsH Try.prog 18 #[.agg #[.int .i64 xq.1, .int .i64 xq.2.1, .slice axq_0 xq.2.2.1.length cxq_0, .slice axq_1 xq.2.2.2.1.length cxq_1, .slice axq_2 xq.2.2.2.2.length cxq_2], .int .i64 xuntil] g [] (fun g' H' v => ∃ (ar0_0 : Option Addr) (cr0_0 : Nat), ∃ (ar0_1 : Option Addr) (cr0_1 : Nat), ∃ (ar0_2 : Option Addr) (cr0_2 : Nat), v = .tuple #[.agg #[.int .i64 (rnS xq xuntil).1.1, .int .i64 (rnS xq xuntil).1.2.1, .slice ar0_0 (rnS xq xuntil).1.2.2.1.length cr0_0, .slice ar0_1 (rnS xq xuntil).1.2.2.2.1.length cr0_1, .slice ar0_2 (rnS xq xuntil).1.2.2.2.2.length cr0_2], .agg #[.int .i64 (rnS xq xuntil).2.1.1, .int .i64 (rnS xq xuntil).2.1.2.1, .bool (rnS xq xuntil).2.1.2.2.1, sv ((rnS xq xuntil).2.1.2.2.2.1), .int .i64 (rnS xq xuntil).2.1.2.2.2.2.1, .int .i64 (rnS xq xuntil).2.1.2.2.2.2.2.1, sv ((rnS xq xuntil).2.1.2.2.2.2.2.2)], .bool (rnS xq xuntil).2.2] ∧ Rep g' (.slice (.pair (.int .i64) (.pair (.int .i64) (.pair (.bool) (.pair (.str) (.pair (.int .i64) (.pair (.int .i64) (.str)))))))) [.slice ar0_0 (rnS xq xuntil).1.2.2.1.length cr0_0] (rnS xq xuntil).1.2.2.1 ∧ Rep g' (.slice (.pair (.int .i64) (.pair (.int .i64) (.pair (.bool) (.pair (.str) (.pair (.int .i64) (.pair (.int .i64) (.str)))))))) [.slice ar0_1 (rnS xq xuntil).1.2.2.2.1.length cr0_1] (rnS xq xuntil).1.2.2.2.1 ∧ Rep g' (.slice (.pair (.int .i64) (.pair (.int .i64) (.pair (.int .i64) (.pair (.int .i64) (.str)))))) [.slice ar0_2 (rnS xq xuntil).1.2.2.2.2.length cr0_2] (rnS xq xuntil).1.2.2.2.2 ∧ H' = []) :=
 (rln_ok xq xuntil hRxq_0 hRxq_1 hRxq_2 _ (rln_F xq xuntil hp)).mono (by rintro g' H' v _ ⟨r0, r1, r2, ar0_0, cr0_0, ar0_1, cr0_1, ar0_2, cr0_2, rfl, hRr0_0, hRr0_1, hRr0_2, rfl, hK⟩; obtain ⟨rfl, rfl, rfl⟩ : r0 = (rnS xq xuntil).1 ∧ r1 = (rnS xq xuntil).2.1 ∧ r2 = (rnS xq xuntil).2.2 := ⟨congrArg (fun z => z.1) hK, congrArg (fun z => z.2.1) hK, congrArg (fun z => z.2.2) hK⟩; exact ⟨ar0_0, cr0_0, ar0_1, cr0_1, ar0_2, cr0_2, rfl, hRr0_0, hRr0_1, hRr0_2, rfl⟩)
def rslV0 (xa : JL) (xb : JL) : Bool :=
 ((xa.1 == xb.1) && ((xa.2.1 == xb.2.1) && ((jeqS xa.2.2.1 xb.2.2.1) && ((jeqS xa.2.2.2.1 xb.2.2.2.1) && (teqS xa.2.2.2.2 xb.2.2.2.2)))))
def rslj3 (xa : JL) (xb : JL) (K : Bool → Prop) : Prop :=
 K (rslV0 xa xb)
def rslF (xa : JL) (xb : JL) (K : Bool → Prop) : Prop :=
 (((xa.1 == xb.1)) = true → (((xa.2.1 == xb.2.1)) = true → jeqP xa.2.2.1 xb.2.2.1 ∧ (((jeqS xa.2.2.1 xb.2.2.1)) = true → jeqP xa.2.2.2.1 xb.2.2.2.1 ∧ (((jeqS xa.2.2.2.1 xb.2.2.2.1)) = true → teqP xa.2.2.2.2 xb.2.2.2.2 ∧ rslj3 xa xb K) ∧ (((jeqS xa.2.2.2.1 xb.2.2.2.1)) = false → rslj3 xa xb K)) ∧ (((jeqS xa.2.2.1 xb.2.2.1)) = false → rslj3 xa xb K)) ∧ (((xa.2.1 == xb.2.1)) = false → rslj3 xa xb K)) ∧ (((xa.1 == xb.1)) = false → rslj3 xa xb K)
theorem rsl_ok {g : Ghost} {axa_0 : Option Addr} {cxa_0 : Nat} {axa_1 : Option Addr} {cxa_1 : Nat} {axa_2 : Option Addr} {cxa_2 : Nat} (xa : JL) {axb_0 : Option Addr} {cxb_0 : Nat} {axb_1 : Option Addr} {cxb_1 : Nat} {axb_2 : Option Addr} {cxb_2 : Nat} (xb : JL) (hRxa_0 : Rep g (.slice (.pair (.int .i64) (.pair (.int .i64) (.pair (.bool) (.pair (.str) (.pair (.int .i64) (.pair (.int .i64) (.str)))))))) [.slice axa_0 xa.2.2.1.length cxa_0] xa.2.2.1) (hRxa_1 : Rep g (.slice (.pair (.int .i64) (.pair (.int .i64) (.pair (.bool) (.pair (.str) (.pair (.int .i64) (.pair (.int .i64) (.str)))))))) [.slice axa_1 xa.2.2.2.1.length cxa_1] xa.2.2.2.1) (hRxa_2 : Rep g (.slice (.pair (.int .i64) (.pair (.int .i64) (.pair (.int .i64) (.pair (.int .i64) (.str)))))) [.slice axa_2 xa.2.2.2.2.length cxa_2] xa.2.2.2.2) (hRxb_0 : Rep g (.slice (.pair (.int .i64) (.pair (.int .i64) (.pair (.bool) (.pair (.str) (.pair (.int .i64) (.pair (.int .i64) (.str)))))))) [.slice axb_0 xb.2.2.1.length cxb_0] xb.2.2.1) (hRxb_1 : Rep g (.slice (.pair (.int .i64) (.pair (.int .i64) (.pair (.bool) (.pair (.str) (.pair (.int .i64) (.pair (.int .i64) (.str)))))))) [.slice axb_1 xb.2.2.2.1.length cxb_1] xb.2.2.2.1) (hRxb_2 : Rep g (.slice (.pair (.int .i64) (.pair (.int .i64) (.pair (.int .i64) (.pair (.int .i64) (.str)))))) [.slice axb_2 xb.2.2.2.2.length cxb_2] xb.2.2.2.2) (K : Bool → Prop)
  (hF : rslF xa xb K) : CallsH Try.prog 15 #[.agg #[.int .i64 xa.1, .int .i64 xa.2.1, .slice axa_0 xa.2.2.1.length cxa_0, .slice axa_1 xa.2.2.2.1.length cxa_1, .slice axa_2 xa.2.2.2.2.length cxa_2], .agg #[.int .i64 xb.1, .int .i64 xb.2.1, .slice axb_0 xb.2.2.1.length cxb_0, .slice axb_1 xb.2.2.2.1.length cxb_1, .slice axb_2 xb.2.2.2.2.length cxb_2]] g [] (fun g' H' v => ∃ (r0 : Bool), v = .bool r0 ∧ H' = [] ∧ K r0) := by
 refine CallsH.enter 38 [(0, .agg #[.int .i64 xa.1, .int .i64 xa.2.1, .slice axa_0 xa.2.2.1.length cxa_0, .slice axa_1 xa.2.2.2.1.length cxa_1, .slice axa_2 xa.2.2.2.2.length cxa_2]), (1, .agg #[.int .i64 xb.1, .int .i64 xb.2.1, .slice axb_0 xb.2.2.1.length cxb_0, .slice axb_1 xb.2.2.2.1.length cxb_1, .slice axb_2 xb.2.2.2.2.length cxb_2])] Try.func15 rfl (by kernel_rfl) (by kernel_rfl) (by kernel_rfl) fun w0 => ?_
 refine Ok.seq (Ok.region (Ok.op rfl (OpOk.box (v := .agg #[.int .i64 xa.1, .int .i64 xa.2.1, .slice axa_0 xa.2.2.1.length cxa_0, .slice axa_1 xa.2.2.2.1.length cxa_1, .slice axa_2 xa.2.2.2.2.length cxa_2]) (cs := #[.int .i64 xa.1, .int .i64 xa.2.1, .slice axa_0 xa.2.2.1.length cxa_0, .slice axa_1 xa.2.2.2.1.length cxa_1, .slice axa_2 xa.2.2.2.2.length cxa_2]) rfl (by kernel_rfl) rfl fun bs2 => ?_)))
 refine Ok.op rfl (OpOk.box (v := .agg #[.int .i64 xb.1, .int .i64 xb.2.1, .slice axb_0 xb.2.2.1.length cxb_0, .slice axb_1 xb.2.2.2.1.length cxb_1, .slice axb_2 xb.2.2.2.2.length cxb_2]) (cs := #[.int .i64 xb.1, .int .i64 xb.2.1, .slice axb_0 xb.2.2.1.length cxb_0, .slice axb_1 xb.2.2.2.1.length cxb_1, .slice axb_2 xb.2.2.2.2.length cxb_2]) rfl (by kernel_rfl) rfl fun bs3 => ?_)
 refine Ok.batch 1 [(2, pv bs2 0), (3, pv bs3 0)] (by kernel_rfl) (Ok.nil (Ok.thenN (Ok.cut (fun a W => StA 38 [(4, .bool (rslV0 xa xb))] a ∧ StW w0 [] g W ∧ rslj3 xa xb K) ?_ ?_)))
 ·
  refine Ok.region (Ok.bat 1 [2, 3] [(5, pv bs2 0)] ?_)
  refine Ok.op rfl (OpOk.step (v := .int .i64 xa.1) (Yields.load 1 rfl rfl Try.underlying3 rfl (by kernel_rfl)) rfl rfl (Ok.bat 1 [2, 3] [(6, .int .i64 xa.1), (7, pv bs3 0)] ?_))
  refine Ok.op rfl (OpOk.step (v := .int .i64 xb.1) (Yields.load 0 rfl rfl Try.underlying3 rfl (by kernel_rfl)) rfl rfl (Ok.bat 2 [2, 3] [(10, .bool (xa.1 == xb.1))] ?_))
  refine Ok.boolAt 10 ((xa.1 == xb.1)) rfl (fun hc3 => ?_) (fun hc3 => ?_)
  ·replace hF := hF.1 hc3
   refine Ok.bat 1 [2, 3] [(10, .bool true), (11, pv bs2 1)] ?_
   refine Ok.opYes (j := 5) (d := 10) (want := true) (b := true) rfl (by kernel_rfl) (by kernel_rfl) rfl (OpOk.step (v := .int .i64 xa.2.1) (Yields.load 1 rfl rfl Try.underlying3 rfl (by kernel_rfl)) rfl rfl (Ok.bat 1 [2, 3, 10] [(12, .int .i64 xa.2.1), (13, pv bs3 1)] ?_))
   refine Ok.opYes (j := 5) (d := 10) (want := true) (b := true) rfl (by kernel_rfl) (by kernel_rfl) rfl (OpOk.step (v := .int .i64 xb.2.1) (Yields.load 0 rfl rfl Try.underlying3 rfl (by kernel_rfl)) rfl rfl (Ok.bat 3 [2, 3] [(17, .bool (xa.2.1 == xb.2.1))] ?_))
   refine Ok.boolAt 17 ((xa.2.1 == xb.2.1)) rfl (fun hc4 => ?_) (fun hc4 => ?_)
   ·replace hF := hF.1 hc4
    refine Ok.bat 1 [2, 3] [(17, .bool true), (18, pv bs2 2)] ?_
    refine Ok.opYes (j := 12) (d := 17) (want := true) (b := true) rfl (by kernel_rfl) (by kernel_rfl) rfl (OpOk.step (v := .slice axa_0 xa.2.2.1.length cxa_0) (Yields.load 1 rfl rfl Try.underlying34 rfl (by kernel_rfl)) rfl rfl (Ok.bat 1 [2, 3, 17] [(19, .slice axa_0 xa.2.2.1.length cxa_0), (20, pv bs3 2)] ?_))
    refine Ok.opYes (j := 12) (d := 17) (want := true) (b := true) rfl (by kernel_rfl) (by kernel_rfl) rfl (OpOk.step (v := .slice axb_0 xb.2.2.1.length cxb_0) (Yields.load 0 rfl rfl Try.underlying34 rfl (by kernel_rfl)) rfl rfl ?_)
    obtain ⟨hp5, hF⟩ := hF
    refine Ok.opYes (j := 12) (d := 17) (want := true) (b := true) rfl (by kernel_rfl) (by kernel_rfl) rfl (OpOk.callG (v := .bool (jeqS xa.2.2.1 xb.2.2.1)) enr (fun W hW => jeq_c xa.2.2.1 xb.2.2.1 (hRxa_0.mono hW.sees) (hRxb_0.mono hW.sees) hp5) rfl ?_)
    refine Ok.bat 2 [2, 3] [(24, .bool (jeqS xa.2.2.1 xb.2.2.1))] ?_
    refine Ok.boolAt 24 ((jeqS xa.2.2.1 xb.2.2.1)) rfl (fun hc6 => ?_) (fun hc6 => ?_)
    ·replace hF := hF.1 hc6
     refine Ok.bat 1 [2, 3] [(24, .bool true), (25, pv bs2 3)] ?_
     refine Ok.opYes (j := 19) (d := 24) (want := true) (b := true) rfl (by kernel_rfl) (by kernel_rfl) rfl (OpOk.step (v := .slice axa_1 xa.2.2.2.1.length cxa_1) (Yields.load 1 rfl rfl Try.underlying34 rfl (by kernel_rfl)) rfl rfl (Ok.bat 1 [2, 3, 24] [(26, .slice axa_1 xa.2.2.2.1.length cxa_1), (27, pv bs3 3)] ?_))
     refine Ok.opYes (j := 19) (d := 24) (want := true) (b := true) rfl (by kernel_rfl) (by kernel_rfl) rfl (OpOk.step (v := .slice axb_1 xb.2.2.2.1.length cxb_1) (Yields.load 0 rfl rfl Try.underlying34 rfl (by kernel_rfl)) rfl rfl ?_)
     obtain ⟨hp7, hF⟩ := hF
     refine Ok.opYes (j := 19) (d := 24) (want := true) (b := true) rfl (by kernel_rfl) (by kernel_rfl) rfl (OpOk.callG (v := .bool (jeqS xa.2.2.2.1 xb.2.2.2.1)) enr (fun W hW => jeq_c xa.2.2.2.1 xb.2.2.2.1 (hRxa_1.mono hW.sees) (hRxb_1.mono hW.sees) hp7) rfl ?_)
     refine Ok.bat 2 [2, 3] [(31, .bool (jeqS xa.2.2.2.1 xb.2.2.2.1))] ?_
     refine Ok.boolAt 31 ((jeqS xa.2.2.2.1 xb.2.2.2.1)) rfl (fun hc8 => ?_) (fun hc8 => ?_)
     ·replace hF := hF.1 hc8
      refine Ok.bat 1 [3] [(31, .bool true), (32, pv bs2 4)] ?_
      refine Ok.opYes (j := 26) (d := 31) (want := true) (b := true) rfl (by kernel_rfl) (by kernel_rfl) rfl (OpOk.step (v := .slice axa_2 xa.2.2.2.2.length cxa_2) (Yields.load 1 rfl rfl Try.underlying35 rfl (by kernel_rfl)) rfl rfl (Ok.bat 1 [31] [(33, .slice axa_2 xa.2.2.2.2.length cxa_2), (34, pv bs3 4)] ?_))
      refine Ok.opYes (j := 26) (d := 31) (want := true) (b := true) rfl (by kernel_rfl) (by kernel_rfl) rfl (OpOk.step (v := .slice axb_2 xb.2.2.2.2.length cxb_2) (Yields.load 0 rfl rfl Try.underlying35 rfl (by kernel_rfl)) rfl rfl ?_)
      obtain ⟨hp9, hF⟩ := hF
      refine Ok.opYes (j := 26) (d := 31) (want := true) (b := true) rfl (by kernel_rfl) (by kernel_rfl) rfl (OpOk.callG (v := .bool (teqS xa.2.2.2.2 xb.2.2.2.2)) enr (fun W hW => teq_c xa.2.2.2.2 xb.2.2.2.2 (hRxa_2.mono hW.sees) (hRxb_2.mono hW.sees) hp9) rfl ?_)
      refine Ok.batch 2 [(4, .bool (teqS xa.2.2.2.2 xb.2.2.2.2))] (by kernel_rfl) (Ok.nil (Ok.thenN (Ok.reval 4 rfl (show (.bool (teqS xa.2.2.2.2 xb.2.2.2.2) : Value) = .bool (rslV0 xa xb) from congrArg (Value.bool) ((Eq.trans ((Eq.trans ((Eq.trans (mand_t hc8) (mand_t hc6))) (mand_t hc4))) (mand_t hc3)))) ?_)))
      exact fun a W hA hW => ⟨hA.sub (by kernel_rfl), hW.sub (.cons _ (.cons _ .slnil)), hF⟩
     ·replace hF := hF.2 hc8
      refine Ok.batch 7 [(4, .bool false)] (by kernel_rfl) (Ok.nil (Ok.thenN (Ok.reval 4 rfl (show (.bool false : Value) = .bool (rslV0 xa xb) from congrArg (Value.bool) ((Eq.trans ((Eq.trans ((Eq.trans (mand_f hc8) (mand_t hc6))) (mand_t hc4))) (mand_t hc3)))) ?_)))
      exact fun a W hA hW => ⟨hA.sub (by kernel_rfl), hW.sub (.cons _ (.cons _ .slnil)), hF⟩
    ·replace hF := hF.2 hc6
     refine Ok.batch 14 [(4, .bool false)] (by kernel_rfl) (Ok.nil (Ok.thenN (Ok.reval 4 rfl (show (.bool false : Value) = .bool (rslV0 xa xb) from congrArg (Value.bool) ((Eq.trans ((Eq.trans (mand_f hc6) (mand_t hc4))) (mand_t hc3)))) ?_)))
     exact fun a W hA hW => ⟨hA.sub (by kernel_rfl), hW.sub (.cons _ (.cons _ .slnil)), hF⟩
   ·replace hF := hF.2 hc4
    refine Ok.batch 21 [(4, .bool false)] (by kernel_rfl) (Ok.nil (Ok.thenN (Ok.reval 4 rfl (show (.bool false : Value) = .bool (rslV0 xa xb) from congrArg (Value.bool) ((Eq.trans (mand_f hc4) (mand_t hc3)))) ?_)))
    exact fun a W hA hW => ⟨hA.sub (by kernel_rfl), hW.sub (.cons _ (.cons _ .slnil)), hF⟩
  ·replace hF := hF.2 hc3
   refine Ok.batch 28 [(4, .bool false)] (by kernel_rfl) (Ok.nil (Ok.thenN (Ok.reval 4 rfl (show (.bool false : Value) = .bool (rslV0 xa xb) from congrArg (Value.bool) (mand_f hc3)) ?_)))
   exact fun a W hA hW => ⟨hA.sub (by kernel_rfl), hW.sub (.cons _ (.cons _ .slnil)), hF⟩
 ·
  clear hF
  rintro a W ⟨hA, hW, hF⟩
  refine (?_ : Ok _ _ _ _ _ _) a W hA hW
  clear hA hW
  refine Ok.ret ?_
  exact Ok.resH (vs := [.bool (rslV0 xa xb)]) (.inl rfl) rfl (.cons (.tmp rfl) .nil) (Gext.refl w0 g) ⟨(rslV0 xa xb), rfl, rfl, hF⟩
def lenOk (a : JL) : Prop := a.2.2.1.length ≤ 1000000 ∧ a.2.2.2.1.length ≤ 1000000 ∧ a.2.2.2.2.length ≤ 1000000
def rslP (a b : JL) : Prop := lenOk a ∧ lenOk b
theorem rsl_F (a b : JL) (hp : rslP a b) : rslF a b (fun r => r = rslV0 a b) := by
 obtain ⟨⟨h1, h2, h3⟩, h4, h5, h6⟩ := hp
 have j : rslj3 a b (fun r => r = rslV0 a b) := rfl
 exact ⟨fun _ => ⟨fun _ => ⟨⟨h1, h4⟩, fun _ => ⟨⟨h2, h5⟩, fun _ => ⟨⟨h3, h6⟩, j⟩, fun _ => j⟩, fun _ => j⟩, fun _ => j⟩, fun _ => j⟩
theorem rsl_c {g : Ghost} {axa_0 : Option Addr} {cxa_0 : Nat} {axa_1 : Option Addr} {cxa_1 : Nat} {axa_2 : Option Addr} {cxa_2 : Nat} (xa : Int × Int × (List (Int × Int × Bool × Bs × Int × Int × Bs)) × (List (Int × Int × Bool × Bs × Int × Int × Bs)) × List (Int × Int × Int × Int × Bs)) {axb_0 : Option Addr} {cxb_0 : Nat} {axb_1 : Option Addr} {cxb_1 : Nat} {axb_2 : Option Addr} {cxb_2 : Nat} (xb : Int × Int × (List (Int × Int × Bool × Bs × Int × Int × Bs)) × (List (Int × Int × Bool × Bs × Int × Int × Bs)) × List (Int × Int × Int × Int × Bs)) (hRxa_0 : Rep g (.slice (.pair (.int .i64) (.pair (.int .i64) (.pair (.bool) (.pair (.str) (.pair (.int .i64) (.pair (.int .i64) (.str)))))))) [.slice axa_0 xa.2.2.1.length cxa_0] xa.2.2.1) (hRxa_1 : Rep g (.slice (.pair (.int .i64) (.pair (.int .i64) (.pair (.bool) (.pair (.str) (.pair (.int .i64) (.pair (.int .i64) (.str)))))))) [.slice axa_1 xa.2.2.2.1.length cxa_1] xa.2.2.2.1) (hRxa_2 : Rep g (.slice (.pair (.int .i64) (.pair (.int .i64) (.pair (.int .i64) (.pair (.int .i64) (.str)))))) [.slice axa_2 xa.2.2.2.2.length cxa_2] xa.2.2.2.2) (hRxb_0 : Rep g (.slice (.pair (.int .i64) (.pair (.int .i64) (.pair (.bool) (.pair (.str) (.pair (.int .i64) (.pair (.int .i64) (.str)))))))) [.slice axb_0 xb.2.2.1.length cxb_0] xb.2.2.1) (hRxb_1 : Rep g (.slice (.pair (.int .i64) (.pair (.int .i64) (.pair (.bool) (.pair (.str) (.pair (.int .i64) (.pair (.int .i64) (.str)))))))) [.slice axb_1 xb.2.2.2.1.length cxb_1] xb.2.2.2.1) (hRxb_2 : Rep g (.slice (.pair (.int .i64) (.pair (.int .i64) (.pair (.int .i64) (.pair (.int .i64) (.str)))))) [.slice axb_2 xb.2.2.2.2.length cxb_2] xb.2.2.2.2)  (hp : rslP xa xb) : CallsG Try.prog 15 #[.agg #[.int .i64 xa.1, .int .i64 xa.2.1, .slice axa_0 xa.2.2.1.length cxa_0, .slice axa_1 xa.2.2.2.1.length cxa_1, .slice axa_2 xa.2.2.2.2.length cxa_2], .agg #[.int .i64 xb.1, .int .i64 xb.2.1, .slice axb_0 xb.2.2.1.length cxb_0, .slice axb_1 xb.2.2.2.1.length cxb_1, .slice axb_2 xb.2.2.2.2.length cxb_2]] g (.bool (rslV0 xa xb)) :=
 (rsl_ok xa xb hRxa_0 hRxa_1 hRxa_2 hRxb_0 hRxb_1 hRxb_2 _ (rsl_F xa xb hp)).gives (by rintro g' H' v _ ⟨r0, rfl, rfl, hK⟩; subst hK; rfl)
theorem sam_eta (a : JL) : rslV0 (a.1, a.2.1, a.2.2.1, a.2.2.2.1, a.2.2.2.2) (a.1, a.2.1, a.2.2.1, a.2.2.2.1, a.2.2.2.2) = true := by
 unfold rslV0 jeqS teqS; simp
end Go.Proofs.Ytbifbljdmndjbaa.Lo
