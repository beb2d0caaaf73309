/- calc: its reader, where what it reads is right. -/
import Derived.Test.YtogcmkphibegbaaGreatDoorDir
import Derived.Test.YtogcmkphibegbaaGreatDoorDfr
import Derived.Test.YtogcmkphibegbaaGreatDoorCuo
import Derived.Test.YtogcmkphibegbaaGreatDoorFrk
namespace Go.Proofs.YtogcmkphibegbaaGreatDoor.Cl
open Go Go.Eng Go.RowKit Go.Shelf Go.Proofs Bld Trm Css Tk
set_option maxHeartbeats 4000000
set_option maxRecDepth 100000
set_option linter.unusedSimpArgs false
set_option linter.unusedVariables false
abbrev Dm := Int × Bs
abbrev Lb := Int × Dm
abbrev Tm := Tree Lb
abbrev Rd := List Tok × Int × Bool
def gapV1 (ybxr_0l7 : List (Int × Bs × Bs × Int)) : Bool :=
 ((decide ((ybxr_0l7.length : Int) > 0)) && (((ybxr_0l7.getD (Int.toNat 0) default).1 == 8) || ((ybxr_0l7.getD (Int.toNat 0) default).1 == 9)))
def gapj9 (xr : (List (Int × Bs × Bs × Int)) × Int × Bool) (K : Bool → ((List (Int × Bs × Bs × Int)) × Int × Bool) → Prop) (ybxr_0l7 : List (Int × Bs × Bs × Int)) (C7 : (List (Int × Bs × Bs × Int)) → Prop) : Prop :=
 (((gapV1 ybxr_0l7)) = true → (0 : Int) ≤ 1 ∧ (1 : Int) ≤ (ybxr_0l7.length : Int) ∧ (ybxr_0l7.length : Int) ≤ (ybxr_0l7.length : Int) ∧ C7 (ybxr_0l7.drop (Int.toNat 1))) ∧ (((gapV1 ybxr_0l7)) = false → K (decide ((ybxr_0l7.length : Int) < (xr.1.length : Int))) (ybxr_0l7, xr.2.1, xr.2.2))
def gapl7b (xr : (List (Int × Bs × Bs × Int)) × Int × Bool) (K : Bool → ((List (Int × Bs × Bs × Int)) × Int × Bool) → Prop) (ybxr_0l7 : List (Int × Bs × Bs × Int)) (C7 : (List (Int × Bs × Bs × Int)) → Prop) : Prop :=
 ((decide ((ybxr_0l7.length : Int) > 0)) = true → (0 : Int) ≤ 0 ∧ Int.toNat 0 < ybxr_0l7.length ∧ ((((ybxr_0l7.getD (Int.toNat 0) default).1 == 8)) = true → gapj9 xr K ybxr_0l7 C7) ∧ ((((ybxr_0l7.getD (Int.toNat 0) default).1 == 8)) = false → gapj9 xr K ybxr_0l7 C7)) ∧ ((decide ((ybxr_0l7.length : Int) > 0)) = false → gapj9 xr K ybxr_0l7 C7)
def gapl7 (xr : (List (Int × Bs × Bs × Int)) × Int × Bool) (K : Bool → ((List (Int × Bs × Bs × Int)) × Int × Bool) → Prop) : Nat → (List (Int × Bs × Bs × Int)) → Prop
 | 0, _ => False
 | k + 1, ybxr_0l7 => gapl7b xr K ybxr_0l7 (gapl7 xr K k)
def gapF (xr : (List (Int × Bs × Bs × Int)) × Int × Bool) (K : Bool → ((List (Int × Bs × Bs × Int)) × Int × Bool) → Prop) : Prop :=
 ∃ k, gapl7 xr K k xr.1
theorem gap_ok {g : Ghost} {bxr : Nat} {axr_0 : Option Addr} {cxr_0 : Nat} (xr : (List (Int × Bs × Bs × Int)) × Int × Bool) (hRxr_0 : Rep g (.slice (.pair (.int .i64) (.pair (.str) (.pair (.str) (.int .i64))))) [.slice axr_0 xr.1.length cxr_0] xr.1) (K : Bool → ((List (Int × Bs × Bs × Int)) × Int × Bool) → Prop)
  (hF : gapF xr K) : CallsH Tryz.prog 17 #[pv bxr 0] g [.blk bxr (.cells #[.slice axr_0 xr.1.length cxr_0, .int .i64 xr.2.1, .bool xr.2.2] 53)] (fun g' H' v => ∃ (r0 : Bool), ∃ (fxr : (List (Int × Bs × Bs × Int)) × Int × Bool), ∃ (afxr_0 : Option Addr) (cfxr_0 : Nat), v = .bool r0 ∧ Rep g' (.slice (.pair (.int .i64) (.pair (.str) (.pair (.str) (.int .i64))))) [.slice afxr_0 fxr.1.length cfxr_0] fxr.1 ∧ H' = [.blk bxr (.cells #[.slice afxr_0 fxr.1.length cfxr_0, .int .i64 fxr.2.1, .bool fxr.2.2] 53)] ∧ K r0 fxr) := by
 refine CallsH.enter 50 [(0, pv bxr 0)] Tryz.func17 rfl (by kernel_rfl) (by kernel_rfl) (by kernel_rfl) fun w0 => ?_
 refine Ok.seq (Ok.region (Ok.batch 1 [(0, pv bxr 0)] (by kernel_rfl) (Ok.nil (Ok.thenN (Ok.seq (Ok.region (Ok.bat 3 [0] [(6, pv bxr 0)] ?_)))))))
 refine Ok.op rfl (OpOk.step (v := .slice axr_0 xr.1.length cxr_0) (Yields.load 0 rfl rfl Tryz.underlying50 rfl (by kernel_rfl)) rfl rfl (Ok.bat 2 [0] [(3, .int .i64 (xr.1.length : Int))] ?_))
 refine Ok.nil (Ok.thenN (Ok.seq (Ok.block ?_)))
 obtain ⟨k, hF⟩ := hF
 refine Ok.loop (fun k a W => ∃ gl7 : Ghost, Gext w0 g gl7 ∧ ∃ (aybxr_0l7 : Option Addr) (cybxr_0l7 : Nat) (ybxr_0l7 : List (Int × Bs × Bs × Int)), Rep gl7 (.slice (.pair (.int .i64) (.pair (.str) (.pair (.str) (.int .i64))))) [.slice aybxr_0l7 ybxr_0l7.length cybxr_0l7] ybxr_0l7 ∧ StA 50 [(0, pv bxr 0), (3, .int .i64 (xr.1.length : Int))] a ∧ StW w0 [.blk bxr (.cells #[.slice aybxr_0l7 ybxr_0l7.length cybxr_0l7, .int .i64 xr.2.1, .bool xr.2.2] 53)] gl7 W ∧ gapl7 xr K k ybxr_0l7) k ?_ ?_
 ·
  exact fun a W hA hW => ⟨g, (Gext.refl w0 g), axr_0, cxr_0, xr.1, hRxr_0, hA.sub (by kernel_rfl), hW, hF⟩
 ·
  clear hF
  rintro k7 a W ⟨gl7, hxl7, aybxr_0l7, cybxr_0l7, ybxr_0l7, hRybxr_0l7, hA, hW, hF⟩
  cases k7 with
  | zero => exact (hF : False).elim
  | succ k7 =>
   refine (?_ : Ok _ _ _ _ _ _) a W hA hW
   clear hA hW
   refine Ok.seq (Ok.cut (fun a W => ∃ gj9 : Ghost, Gext w0 gl7 gj9 ∧ StA 50 [(0, pv bxr 0), (3, .int .i64 (xr.1.length : Int)), (34, .bool (gapV1 ybxr_0l7))] a ∧ StW w0 [.blk bxr (.cells #[.slice aybxr_0l7 ybxr_0l7.length cybxr_0l7, .int .i64 xr.2.1, .bool xr.2.2] 53)] gj9 W ∧ gapj9 xr K ybxr_0l7 (gapl7 xr K k7)) ?_ ?_)
   ·
    refine Ok.region (Ok.bat 3 [0, 3] [(11, pv bxr 0)] ?_)
    refine Ok.op rfl (OpOk.step (v := .slice aybxr_0l7 ybxr_0l7.length cybxr_0l7) (Yields.load 0 rfl rfl Tryz.underlying50 rfl (by kernel_rfl)) rfl rfl (Ok.bat 3 [0, 3] [(15, .bool (decide ((ybxr_0l7.length : Int) > 0)))] ?_))
    refine Ok.boolAt 15 (decide ((ybxr_0l7.length : Int) > 0)) rfl (fun hc3 => ?_) (fun hc3 => ?_)
    ·replace hF := hF.1 hc3
     refine Ok.bat 3 [0, 3] [(15, .bool true), (18, pv bxr 0)] ?_
     refine Ok.opYes (j := 6) (d := 15) (want := true) (b := true) rfl (by kernel_rfl) (by kernel_rfl) rfl (OpOk.step (v := .slice aybxr_0l7 ybxr_0l7.length cybxr_0l7) (Yields.load 0 rfl rfl Tryz.underlying50 rfl (by kernel_rfl)) rfl rfl ?_)
     obtain ⟨h05, h15, hF⟩ := hF
     have he5 := get_of (l := ybxr_0l7) (default : Int × Bs × Bs × Int) h15
     generalize hg5 : (ybxr_0l7.getD (Int.toNat 0) default) = e5 at he5 hF ⊢
     refine Ok.opYes (j := 6) (d := 15) (want := true) (b := true) rfl (by kernel_rfl) (by kernel_rfl) rfl (OpOk.indexRo (e := .pair (.int .i64) (.pair (.str) (.pair (.str) (.int .i64)))) (i := 0) (el := e5) rfl rfl Tryz.underlying50 (by kernel_rfl) hRybxr_0l7 h05 he5 rfl fun q4 o4 cs4 _ hat4 hr4 => ?_)
     obtain ⟨_, _, rfl, rfl, ⟨_, _, rfl, rfl, ⟨_, _, rfl, rfl, rfl⟩⟩⟩ := hr4
     replace hat4 : At gl7 q4 o4 [.int .i64 e5.1, sv e5.2.1, sv e5.2.2.1, .int .i64 e5.2.2.2] := hat4
     refine Ok.bat 1 [0, 3, 15] [(21, pv q4 o4)] ?_
     refine Ok.opYes (j := 6) (d := 15) (want := true) (b := true) rfl (by kernel_rfl) (by kernel_rfl) rfl (OpOk.step (v := .int .i64 e5.1) (Yields.loadRo 0 hat4 (by kernel_rfl) Tryz.underlying3 rfl (by kernel_rfl)) rfl rfl (Ok.bat 2 [0, 3, 15] [(24, .bool (e5.1 == 8))] ?_))
     refine Ok.boolAt 24 ((e5.1 == 8)) rfl (fun hc6 => ?_) (fun hc6 => ?_)
     ·replace hF := hF.1 hc6
      refine Ok.bat 10 [0, 3] [(34, .bool true)] ?_
      refine Ok.nil (Ok.thenN ?_)
      subst hg5
      refine Ok.reval 34 rfl (show (.bool true : Value) = .bool (gapV1 ybxr_0l7) from congrArg (Value.bool) ((Eq.trans (mor_t hc6) (mand_t hc3)))) ?_
      exact fun a W hA hW => ⟨gl7, (Gext.refl w0 gl7), hA.sub (by kernel_rfl), hW, hF⟩
     ·replace hF := hF.2 hc6
      refine Ok.bat 3 [0, 3, 15] [(24, .bool false), (27, pv bxr 0)] ?_
      refine Ok.opYes (j := 15) (d := 24) (want := false) (b := false) rfl (by kernel_rfl) (by kernel_rfl) rfl (OpOk.step (v := .slice aybxr_0l7 ybxr_0l7.length cybxr_0l7) (Yields.load 0 rfl rfl Tryz.underlying50 rfl (by kernel_rfl)) rfl rfl (Ok.opYes (j := 15) (d := 24) (want := false) (b := false) rfl (by kernel_rfl) (by kernel_rfl) rfl (OpOk.indexRo (e := .pair (.int .i64) (.pair (.str) (.pair (.str) (.int .i64)))) (i := 0) (el := e5) rfl rfl Tryz.underlying50 (by kernel_rfl) hRybxr_0l7 h05 he5 rfl fun q7 o7 cs7 _ hat7 hr7 => ?_)))
      obtain ⟨_, _, rfl, rfl, ⟨_, _, rfl, rfl, ⟨_, _, rfl, rfl, rfl⟩⟩⟩ := hr7
      replace hat7 : At gl7 q7 o7 [.int .i64 e5.1, sv e5.2.1, sv e5.2.2.1, .int .i64 e5.2.2.2] := hat7
      refine Ok.bat 1 [0, 3, 15, 24] [(30, pv q7 o7)] ?_
      refine Ok.opYes (j := 15) (d := 24) (want := false) (b := false) rfl (by kernel_rfl) (by kernel_rfl) rfl (OpOk.step (v := .int .i64 e5.1) (Yields.loadRo 0 hat7 (by kernel_rfl) Tryz.underlying3 rfl (by kernel_rfl)) rfl rfl (Ok.bat 3 [0, 3] [(34, .bool (e5.1 == 9))] ?_))
      refine Ok.nil (Ok.thenN ?_)
      subst hg5
      refine Ok.reval 34 rfl (show (.bool ((ybxr_0l7.getD (Int.toNat 0) default).1 == 9) : Value) = .bool (gapV1 ybxr_0l7) from congrArg (Value.bool) ((Eq.trans (mor_f hc6) (mand_t hc3)))) ?_
      exact fun a W hA hW => ⟨gl7, (Gext.refl w0 gl7), hA.sub (by kernel_rfl), hW, hF⟩
    ·replace hF := hF.2 hc3
     refine Ok.bat 19 [0, 3] [(34, .bool false)] ?_
     refine Ok.nil (Ok.thenN (Ok.reval 34 rfl (show (.bool false : Value) = .bool (gapV1 ybxr_0l7) from congrArg (Value.bool) (mand_f hc3)) ?_))
     exact fun a W hA hW => ⟨gl7, (Gext.refl w0 gl7), hA.sub (by kernel_rfl), hW, hF⟩
   ·
    clear hF
    rintro a W ⟨gj9, hxj9, hA, hW, hF⟩
    refine (?_ : Ok _ _ _ _ _ _) a W hA hW
    clear hA hW
    replace hRybxr_0l7 := hRybxr_0l7.mono hxj9.1
    refine Ok.cond (b := (gapV1 ybxr_0l7)) rfl (fun hc1 => ?_) (fun hc1 => ?_)
    ·replace hF := hF.1 hc1
     refine Ok.skip (Ok.thenN (Ok.block (Ok.region (Ok.bat 4 [0, 3] [(35, pv bxr 0), (38, pv bxr 0)] ?_))))
     refine Ok.op rfl (OpOk.step (v := .slice aybxr_0l7 ybxr_0l7.length cybxr_0l7) (Yields.load 0 rfl rfl Tryz.underlying50 rfl (by kernel_rfl)) rfl rfl ?_)
     obtain ⟨h02, h12, h22, hF⟩ := hF
     refine Ok.op rfl (OpOk.sliceRo (e := .pair (.int .i64) (.pair (.str) (.pair (.str) (.int .i64)))) (l := 1) (h := (ybxr_0l7.length : Int)) rfl Tryz.underlying50 (by kernel_rfl) (.inl ⟨_, _, rfl, rfl⟩) (.inr ⟨rfl, rfl⟩) hRybxr_0l7 h02 h12 h22 rfl (ybxr_0l7.drop (Int.toNat 1)) (by rw [show ((ybxr_0l7.length : Int)).toNat = ybxr_0l7.length from Int.toNat_natCast _, List.take_length]) fun a2 c2 hR2 => ?_)
     refine Ok.bat 2 [0, 3] [(40, .slice a2 (ybxr_0l7.drop (Int.toNat 1)).length c2), (42, pv bxr 0)] ?_
     refine Ok.op rfl (OpOk.sto (k := 1) (v := .slice a2 (ybxr_0l7.drop (Int.toNat 1)).length c2) 0 #[.slice a2 (ybxr_0l7.drop (Int.toNat 1)).length c2, .int .i64 xr.2.1, .bool xr.2.2] rfl rfl rfl ?_)
     refine Ok.nil (Ok.blockN (Ok.thenN ?_))
     exact fun a W hA hW => ⟨k7, Nat.lt_succ_self _, gj9, (hxl7.trans hxj9), a2, c2, (ybxr_0l7.drop (Int.toNat 1)), hR2, hA.sub (by kernel_rfl), hW, hF⟩
    ·replace hF := hF.2 hc1
     refine Ok.exit (Ok.thenE (Ok.thenE (Ok.blockHit (Ok.thenN (Ok.seq (Ok.region (Ok.bat 3 [3] [(45, pv bxr 0)] ?_)))))))
     refine Ok.op rfl (OpOk.step (v := .slice aybxr_0l7 ybxr_0l7.length cybxr_0l7) (Yields.load 0 rfl rfl Tryz.underlying50 rfl (by kernel_rfl)) rfl rfl (Ok.batch 4 [(2, .bool (decide ((ybxr_0l7.length : Int) < (xr.1.length : Int))))] (by kernel_rfl) (Ok.nil (Ok.thenN (Ok.ret ?_)))))
     exact Ok.resH (vs := [.bool (decide ((ybxr_0l7.length : Int) < (xr.1.length : Int)))]) (.inl rfl) rfl (.cons (.tmp rfl) .nil) (hxl7.trans hxj9) ⟨(decide ((ybxr_0l7.length : Int) < (xr.1.length : Int))), (ybxr_0l7, xr.2.1, xr.2.2), aybxr_0l7, cybxr_0l7, rfl, hRybxr_0l7, rfl, hF⟩
def rawV0 (xr : (List (Int × Bs × Bs × Int)) × Int × Bool) (xs : Bs) : Bool :=
 (((xr.1.length : Int) == 0) || (!((xr.1.getD (Int.toNat 0) default).2.1 == xs)))
def rawj4 (xr : (List (Int × Bs × Bs × Int)) × Int × Bool) (xs : Bs) (K : Bool → ((List (Int × Bs × Bs × Int)) × Int × Bool) → Prop) : Prop :=
 (((rawV0 xr xs)) = true → K false xr) ∧ (((rawV0 xr xs)) = false → (0 : Int) ≤ 1 ∧ (1 : Int) ≤ (xr.1.length : Int) ∧ (xr.1.length : Int) ≤ (xr.1.length : Int) ∧ K true ((xr.1.drop (Int.toNat 1)), xr.2.1, xr.2.2))
def rawF (xr : (List (Int × Bs × Bs × Int)) × Int × Bool) (xs : Bs) (K : Bool → ((List (Int × Bs × Bs × Int)) × Int × Bool) → Prop) : Prop :=
 ((((xr.1.length : Int) == 0)) = true → rawj4 xr xs K) ∧ ((((xr.1.length : Int) == 0)) = false → (0 : Int) ≤ 0 ∧ Int.toNat 0 < xr.1.length ∧ rawj4 xr xs K)
theorem raw_ok {g : Ghost} {bxr : Nat} {axr_0 : Option Addr} {cxr_0 : Nat} (xr : (List (Int × Bs × Bs × Int)) × Int × Bool) (xs : Bs) (hRxr_0 : Rep g (.slice (.pair (.int .i64) (.pair (.str) (.pair (.str) (.int .i64))))) [.slice axr_0 xr.1.length cxr_0] xr.1) (K : Bool → ((List (Int × Bs × Bs × Int)) × Int × Bool) → Prop)
  (hF : rawF xr xs K) : CallsH Tryz.prog 37 #[pv bxr 0, sv xs] g [.blk bxr (.cells #[.slice axr_0 xr.1.length cxr_0, .int .i64 xr.2.1, .bool xr.2.2] 53)] (fun g' H' v => ∃ (r0 : Bool), ∃ (fxr : (List (Int × Bs × Bs × Int)) × Int × Bool), ∃ (afxr_0 : Option Addr) (cfxr_0 : Nat), v = .bool r0 ∧ Rep g' (.slice (.pair (.int .i64) (.pair (.str) (.pair (.str) (.int .i64))))) [.slice afxr_0 fxr.1.length cfxr_0] fxr.1 ∧ H' = [.blk bxr (.cells #[.slice afxr_0 fxr.1.length cfxr_0, .int .i64 fxr.2.1, .bool fxr.2.2] 53)] ∧ K r0 fxr) := by
 refine CallsH.enter 30 [(0, pv bxr 0), (1, sv xs)] Tryz.func37 rfl (by kernel_rfl) (by kernel_rfl) (by kernel_rfl) fun w0 => ?_
 refine Ok.seq (Ok.region (Ok.batch 1 [(0, pv bxr 0), (1, sv xs)] (by kernel_rfl) (Ok.nil (Ok.thenN (Ok.seq (Ok.cut (fun a W => ∃ gj4 : Ghost, Gext w0 g gj4 ∧ StA 30 [(0, pv bxr 0), (21, .bool (rawV0 xr xs))] a ∧ StW w0 [.blk bxr (.cells #[.slice axr_0 xr.1.length cxr_0, .int .i64 xr.2.1, .bool xr.2.2] 53)] gj4 W ∧ rawj4 xr xs K) ?_ ?_))))))
 ·
  refine Ok.region (Ok.bat 3 [0, 1] [(7, pv bxr 0)] ?_)
  refine Ok.op rfl (OpOk.step (v := .slice axr_0 xr.1.length cxr_0) (Yields.load 0 rfl rfl Tryz.underlying50 rfl (by kernel_rfl)) rfl rfl (Ok.bat 3 [0, 1] [(11, .bool ((xr.1.length : Int) == 0))] ?_))
  refine Ok.boolAt 11 (((xr.1.length : Int) == 0)) rfl (fun hc3 => ?_) (fun hc3 => ?_)
  ·replace hF := hF.1 hc3
   refine Ok.bat 10 [0] [(21, .bool true)] ?_
   refine Ok.nil (Ok.thenN (Ok.reval 21 rfl (show (.bool true : Value) = .bool (rawV0 xr xs) from congrArg (Value.bool) (mor_t hc3)) ?_))
   exact fun a W hA hW => ⟨g, (Gext.refl w0 g), hA.sub (by kernel_rfl), hW, hF⟩
  ·replace hF := hF.2 hc3
   refine Ok.bat 3 [0, 1] [(11, .bool false), (14, pv bxr 0)] ?_
   refine Ok.opYes (j := 6) (d := 11) (want := false) (b := false) rfl (by kernel_rfl) (by kernel_rfl) rfl (OpOk.step (v := .slice axr_0 xr.1.length cxr_0) (Yields.load 0 rfl rfl Tryz.underlying50 rfl (by kernel_rfl)) rfl rfl ?_)
   obtain ⟨h05, h15, hF⟩ := hF
   have he5 := get_of (l := xr.1) (default : Int × Bs × Bs × Int) h15
   generalize hg5 : (xr.1.getD (Int.toNat 0) default) = e5 at he5 hF ⊢
   refine Ok.opYes (j := 6) (d := 11) (want := false) (b := false) rfl (by kernel_rfl) (by kernel_rfl) rfl (OpOk.indexRo (e := .pair (.int .i64) (.pair (.str) (.pair (.str) (.int .i64)))) (i := 0) (el := e5) rfl rfl Tryz.underlying50 (by kernel_rfl) hRxr_0 h05 he5 rfl fun q4 o4 cs4 _ hat4 hr4 => ?_)
   obtain ⟨_, _, rfl, rfl, ⟨_, _, rfl, rfl, ⟨_, _, rfl, rfl, rfl⟩⟩⟩ := hr4
   replace hat4 : At g q4 o4 [.int .i64 e5.1, sv e5.2.1, sv e5.2.2.1, .int .i64 e5.2.2.2] := hat4
   refine Ok.bat 1 [0, 1, 11] [(17, .pointer (some ⟨q4, o4 + 1, none⟩))] ?_
   refine Ok.opYes (j := 6) (d := 11) (want := false) (b := false) rfl (by kernel_rfl) (by kernel_rfl) rfl (OpOk.step (v := sv e5.2.1) (Yields.loadRo 1 hat4 (by kernel_rfl) Tryz.underlying9 rfl (by kernel_rfl)) rfl rfl (Ok.bat 1 [0, 11] [(18, sv e5.2.1), (19, sv xs)] ?_))
   refine Ok.opYes (j := 6) (d := 11) (want := false) (b := false) rfl (by kernel_rfl) (by kernel_rfl) rfl (OpOk.step (v := .bool (!(e5.2.1 == xs))) (Yields.strCmp (f := .neq) (a := e5.2.1) (b := xs) (by kernel_rfl) (by kernel_rfl) rfl) rfl rfl (Ok.bat 1 [0] [(21, .bool (!(e5.2.1 == xs)))] ?_))
   refine Ok.nil (Ok.thenN ?_)
   subst hg5
   refine Ok.reval 21 rfl (show (.bool (!((xr.1.getD (Int.toNat 0) default).2.1 == xs)) : Value) = .bool (rawV0 xr xs) from congrArg (Value.bool) (mor_f hc3)) ?_
   exact fun a W hA hW => ⟨g, (Gext.refl w0 g), hA.sub (by kernel_rfl), hW, hF⟩
 ·
  clear hF
  rintro a W ⟨gj4, hxj4, hA, hW, hF⟩
  refine (?_ : Ok _ _ _ _ _ _) a W hA hW
  clear hA hW
  replace hRxr_0 := hRxr_0.mono hxj4.1
  refine Ok.cond (b := (rawV0 xr xs)) rfl (fun hc1 => ?_) (fun hc1 => ?_)
  ·replace hF := hF.1 hc1
   refine Ok.seq (Ok.region (Ok.batch 1 [(4, .bool false)] (by kernel_rfl) (Ok.nil (Ok.thenN (Ok.ret (Ok.thenR ?_))))))
   exact Ok.resH (vs := [.bool false]) (.inl rfl) rfl (.cons (.tmp rfl) .nil) hxj4 ⟨false, xr, axr_0, cxr_0, rfl, hRxr_0, rfl, hF⟩
  ·replace hF := hF.2 hc1
   refine Ok.skip (Ok.thenN (Ok.seq (Ok.region (Ok.batch 4 [(22, pv bxr 0), (25, pv bxr 0)] (by kernel_rfl) (Ok.op rfl (OpOk.step (v := .slice axr_0 xr.1.length cxr_0) (Yields.load 0 rfl rfl Tryz.underlying50 rfl (by kernel_rfl)) rfl rfl ?_))))))
   obtain ⟨h02, h12, h22, hF⟩ := hF
   refine Ok.op rfl (OpOk.sliceRo (e := .pair (.int .i64) (.pair (.str) (.pair (.str) (.int .i64)))) (l := 1) (h := (xr.1.length : Int)) rfl Tryz.underlying50 (by kernel_rfl) (.inl ⟨_, _, rfl, rfl⟩) (.inr ⟨rfl, rfl⟩) hRxr_0 h02 h12 h22 rfl (xr.1.drop (Int.toNat 1)) (by rw [show ((xr.1.length : Int)).toNat = xr.1.length from Int.toNat_natCast _, List.take_length]) fun a2 c2 hR2 => ?_)
   refine Ok.batch 2 [(27, .slice a2 (xr.1.drop (Int.toNat 1)).length c2), (29, pv bxr 0)] (by kernel_rfl) (Ok.op rfl (OpOk.sto (k := 1) (v := .slice a2 (xr.1.drop (Int.toNat 1)).length c2) 0 #[.slice a2 (xr.1.drop (Int.toNat 1)).length c2, .int .i64 xr.2.1, .bool xr.2.2] rfl rfl rfl ?_))
   refine Ok.nil (Ok.thenN (Ok.seq (Ok.region (Ok.batch 1 [(4, .bool true)] (by kernel_rfl) (Ok.nil (Ok.thenN (Ok.ret ?_)))))))
   exact Ok.resH (vs := [.bool true]) (.inl rfl) rfl (.cons (.tmp rfl) .nil) hxj4 ⟨true, ((xr.1.drop (Int.toNat 1)), xr.2.1, xr.2.2), a2, c2, rfl, hR2, rfl, hF⟩
def silT (t : Tok) : Bool := t.1 == 8 || t.1 == 9
def gapS (r : Rd) : Bool × Rd := (decide (((r.1.dropWhile silT).length : Int) < (r.1.length : Int)), (r.1.dropWhile silT, r.2.1, r.2.2))
theorem gap_loop (r : Rd) : ∀ (l : List Tok), r.1.dropWhile silT = l.dropWhile silT → gapl7 r (fun a b => (a, b) = gapS r) (l.length + 1) l := by
 intro l
 induction l with
 | nil =>
  intro h
  have key : gapj9 r (fun a b => (a, b) = gapS r) [] (gapl7 r (fun a b => (a, b) = gapS r) 0) := by
   refine ⟨fun h => (by cases h), fun _ => ?_⟩
   unfold gapS; rw [h]; rfl
  exact ⟨fun h => (by cases h), fun _ => key⟩
 | cons x l ih =>
  intro h
  have hv : gapV1 (x :: l) = silT x := by
   unfold gapV1
   rw [decide_eq_true (by rw [List.length_cons]; omega), Bool.true_and]; rfl
  have key : gapj9 r (fun a b => (a, b) = gapS r) (x :: l) (gapl7 r (fun a b => (a, b) = gapS r) (l.length + 1)) := by
   unfold gapj9
   rw [hv]
   refine ⟨fun hs => ⟨by omega, by rw [List.length_cons]; omega, by omega, ?_⟩, fun hs => ?_⟩
   ·rw [List.dropWhile_cons_of_pos hs] at h
    exact ih h
   ·rw [List.dropWhile_cons_of_neg (by rw [hs]; simp)] at h
    unfold gapS; rw [h]
  exact ⟨fun _ => ⟨by omega, by rw [List.length_cons]; show 0 < _; omega, fun _ => key, fun _ => key⟩, fun _ => key⟩
theorem gap_F (r : Rd) : gapF r (fun a b => (a, b) = gapS r) := ⟨_, gap_loop r r.1 rfl⟩
theorem gap_c {g : Ghost} {bxr : Nat} {axr_0 : Option Addr} {cxr_0 : Nat} (xr : (List (Int × Bs × Bs × Int)) × Int × Bool) (hRxr_0 : Rep g (.slice (.pair (.int .i64) (.pair (.str) (.pair (.str) (.int .i64))))) [.slice axr_0 xr.1.length cxr_0] xr.1)  : CallsH Tryz.prog 17 #[pv bxr 0] g [.blk bxr (.cells #[.slice axr_0 xr.1.length cxr_0, .int .i64 xr.2.1, .bool xr.2.2] 53)] (fun g' H' v => ∃ (afxr_0 : Option Addr) (cfxr_0 : Nat), v = .bool (gapS xr).1 ∧ Rep g' (.slice (.pair (.int .i64) (.pair (.str) (.pair (.str) (.int .i64))))) [.slice afxr_0 (gapS xr).2.1.length cfxr_0] (gapS xr).2.1 ∧ H' = [.blk bxr (.cells #[.slice afxr_0 (gapS xr).2.1.length cfxr_0, .int .i64 (gapS xr).2.2.1, .bool (gapS xr).2.2.2] 53)]) :=
 (gap_ok xr hRxr_0 _ (gap_F xr)).mono (by rintro g' H' v _ ⟨r0, fxr, afxr_0, cfxr_0, rfl, hRfxr_0, rfl, hK⟩; obtain ⟨rfl, rfl⟩ : r0 = (gapS xr).1 ∧ fxr = (gapS xr).2 := ⟨congrArg (fun z => z.1) hK, congrArg (fun z => z.2) hK⟩; exact ⟨afxr_0, cfxr_0, rfl, hRfxr_0, rfl⟩)
def rwS (r : Rd) (s : Bs) : Bool × Rd := if rawV0 r s = true then (false, r) else (true, (r.1.drop 1, r.2.1, r.2.2))
theorem raw_F (r : Rd) (s : Bs) : rawF r s (fun a b => (a, b) = rwS r s) := by
 have key : rawj4 r s (fun a b => (a, b) = rwS r s) := by
  refine ⟨fun h => ?_, fun h => ⟨by omega, ?_, by omega, ?_⟩⟩
  ·unfold rwS; rw [if_t h]
  ·unfold rawV0 at h
   rw [Bool.or_eq_false_iff] at h
   have := h.1
   simp at this
   cases hr : r.1 with
   | nil => exact absurd hr this
   | cons x l => rw [List.length_cons]; omega
  ·unfold rwS; rw [if_f h]; rfl
 refine ⟨fun _ => key, fun h => ⟨by omega, ?_, key⟩⟩
 simp at h
 cases hr : r.1 with
 | nil => exact absurd hr h
 | cons x l => rw [List.length_cons]; show 0 < _; omega
theorem raw_c {g : Ghost} {bxr : Nat} {axr_0 : Option Addr} {cxr_0 : Nat} (xr : (List (Int × Bs × Bs × Int)) × Int × Bool) (xs : Bs) (hRxr_0 : Rep g (.slice (.pair (.int .i64) (.pair (.str) (.pair (.str) (.int .i64))))) [.slice axr_0 xr.1.length cxr_0] xr.1)  : CallsH Tryz.prog 37 #[pv bxr 0, sv xs] g [.blk bxr (.cells #[.slice axr_0 xr.1.length cxr_0, .int .i64 xr.2.1, .bool xr.2.2] 53)] (fun g' H' v => ∃ (afxr_0 : Option Addr) (cfxr_0 : Nat), v = .bool (rwS xr xs).1 ∧ Rep g' (.slice (.pair (.int .i64) (.pair (.str) (.pair (.str) (.int .i64))))) [.slice afxr_0 (rwS xr xs).2.1.length cfxr_0] (rwS xr xs).2.1 ∧ H' = [.blk bxr (.cells #[.slice afxr_0 (rwS xr xs).2.1.length cfxr_0, .int .i64 (rwS xr xs).2.2.1, .bool (rwS xr xs).2.2.2] 53)]) :=
 (raw_ok xr xs hRxr_0 _ (raw_F xr xs)).mono (by rintro g' H' v _ ⟨r0, fxr, afxr_0, cfxr_0, rfl, hRfxr_0, rfl, hK⟩; obtain ⟨rfl, rfl⟩ : r0 = (rwS xr xs).1 ∧ fxr = (rwS xr xs).2 := ⟨congrArg (fun z => z.1) hK, congrArg (fun z => z.2) hK⟩; exact ⟨afxr_0, cfxr_0, rfl, hRfxr_0, rfl⟩)
def valj22 (xin : Bool) (e5 : Int × Bs × Bs × Int) : Prop :=
 (((xin && (e5.2.1 == ([40] : Bs)))) = true → False) ∧ (((xin && (e5.2.1 == ([40] : Bs)))) = false → ((!(e5.1 == 2)) = true → False) ∧ ((!(e5.1 == 2)) = false → False))
def valF (xr : (List (Int × Bs × Bs × Int)) × Int × Bool) (xin : Bool) (K : (Tree (Int × Int × Bs)) → ((List (Int × Bs × Bs × Int)) × Int × Bool) → Prop) : Prop :=
 ((!(decide ((xr.1.length : Int) > 0))) = true → False) ∧ ((!(decide ((xr.1.length : Int) > 0))) = false → (0 : Int) ≤ 0 ∧ Int.toNat 0 < xr.1.length ∧ (0 : Int) ≤ 1 ∧ (1 : Int) ≤ (xr.1.length : Int) ∧ (xr.1.length : Int) ≤ (xr.1.length : Int) ∧ ((((xr.1.getD (Int.toNat 0) default).1 == 7)) = true → cutP (xr.1.getD (Int.toNat 0) default).2.1 ∧ ((!((dreadS (xr.1.getD (Int.toNat 0) default).2.1).2 == 0)) = true → False) ∧ ((!((dreadS (xr.1.getD (Int.toNat 0) default).2.1).2 == 0)) = false → ((decide ((w6 (xr.2.1 + 1)) > 30)) = true → False) ∧ ((decide ((w6 (xr.2.1 + 1)) > 30)) = false → K (Tree.mk (1, (dreadS (xr.1.getD (Int.toNat 0) default).2.1).1) ([] : List (Tree (Int × Int × Bs)))) ((xr.1.drop (Int.toNat 1)), w6 (xr.2.1 + 1), xr.2.2)))) ∧ ((((xr.1.getD (Int.toNat 0) default).1 == 7)) = false → ((xin) = true → valj22 xin (xr.1.getD (Int.toNat 0) default)) ∧ ((xin) = false → valj22 xin (xr.1.getD (Int.toNat 0) default))))
theorem val_ok {g : Ghost} {bxr : Nat} {axr_0 : Option Addr} {cxr_0 : Nat} (xr : (List (Int × Bs × Bs × Int)) × Int × Bool) (xin : Bool) (hRxr_0 : Rep g (.slice (.pair (.int .i64) (.pair (.str) (.pair (.str) (.int .i64))))) [.slice axr_0 xr.1.length cxr_0] xr.1) (hG0 : Glob g 0 (.slice (.str)) DUnits) (hG1 : SomeInt g 1) (K : (Tree (Int × Int × Bs)) → ((List (Int × Bs × Bs × Int)) × Int × Bool) → Prop)
  (hF : valF xr xin K) : CallsH Tryz.prog 18 #[pv bxr 0, .bool xin] g [.blk bxr (.cells #[.slice axr_0 xr.1.length cxr_0, .int .i64 xr.2.1, .bool xr.2.2] 53)] (fun g' H' v => ∃ (r0 : Tree (Int × Int × Bs)), ∃ (fxr : (List (Int × Bs × Bs × Int)) × Int × Bool), ∃ (ar0_0 : Option Addr) (cr0_0 : Nat), ∃ (afxr_0 : Option Addr) (cfxr_0 : Nat), v = .agg #[.int .i64 r0.lab.1, .int .i64 r0.lab.2.1, sv r0.lab.2.2, .slice ar0_0 r0.kids.length cr0_0] ∧ Rep g' (.slice (.tree (.pair (.int .i64) (.pair (.int .i64) (.str))))) [.slice ar0_0 r0.kids.length cr0_0] r0.kids ∧ Rep g' (.slice (.pair (.int .i64) (.pair (.str) (.pair (.str) (.int .i64))))) [.slice afxr_0 fxr.1.length cfxr_0] fxr.1 ∧ H' = [.blk bxr (.cells #[.slice afxr_0 fxr.1.length cfxr_0, .int .i64 fxr.2.1, .bool fxr.2.2] 53)] ∧ K r0 fxr) := by
 refine CallsH.enter 111 [(0, pv bxr 0), (1, .bool xin)] Tryz.func18 rfl (by kernel_rfl) (by kernel_rfl) (by kernel_rfl) fun w0 => ?_
 refine Ok.seq (Ok.region ?_)
 have hL1 : RepL g (.tree (.pair (.int .i64) (.pair (.int .i64) (.str)))) [] [] := rfl
 refine Ok.ownNil 26 4 (Ok.op rfl (OpOk.alloc (z := .agg #[.int .i64 0, .int .i64 0, sv ([] : Bs), .slice none ([] : List (Tree (Int × Int × Bs))).length 0]) (cs := #[.int .i64 0, .int .i64 0, sv ([] : Bs), .slice none ([] : List (Tree (Int × Int × Bs))).length 0]) (by kernel_rfl) (by kernel_rfl) rfl fun bs4 => ?_))
 refine Ok.nil (Ok.thenN (Ok.seq (Ok.region (Ok.batch 4 [(0, pv bxr 0), (1, .bool xin), (4, pv bs4 0), (13, pv bxr 0), (16, pv bxr 0)] (by kernel_rfl) (Ok.op rfl (OpOk.step (v := .slice axr_0 xr.1.length cxr_0) (Yields.load 2 rfl rfl Tryz.underlying50 rfl (by kernel_rfl)) rfl rfl (Ok.bat 2 [0, 1, 4, 13] [(19, .bool (decide ((xr.1.length : Int) > 0)))] ?_)))))))
 refine Ok.op rfl (OpOk.inline (args := #[pv bxr 0, .bool (decide ((xr.1.length : Int) > 0))]) 8 [(0, pv bxr 0), (1, .bool (decide ((xr.1.length : Int) > 0)))] enr Tryz.func19 rfl rfl rfl rfl (Ok.seq (Ok.region (Ok.batch 2 [(5, .bool (!(decide ((xr.1.length : Int) > 0))))] (by kernel_rfl) (Ok.nil (Ok.thenN (Ok.cond (b := !(decide ((xr.1.length : Int) > 0))) rfl (fun hc3 => ?_) (fun hc3 => ?_))))))))
 ·replace hF := hF.1 hc3
  exact False.elim hF
 ·replace hF := hF.2 hc3
  refine Ok.skip (Ok.back (vs := []) (.inr rfl) rfl .nil rfl (Ok.nil (Ok.thenN (Ok.seq (Ok.region (Ok.batch 3 [(0, pv bxr 0), (1, .bool xin), (4, pv bs4 0), (23, pv bxr 0)] (by kernel_rfl) (Ok.op rfl (OpOk.step (v := .slice axr_0 xr.1.length cxr_0) (Yields.load 2 rfl rfl Tryz.underlying50 rfl (by kernel_rfl)) rfl rfl ?_))))))))
  obtain ⟨h05, h15, hF⟩ := hF
  have he5 := get_of (l := xr.1) (default : Int × Bs × Bs × Int) h15
  generalize hg5 : (xr.1.getD (Int.toNat 0) default) = e5 at he5 hF ⊢
  refine Ok.op rfl (OpOk.indexRo (e := .pair (.int .i64) (.pair (.str) (.pair (.str) (.int .i64)))) (i := 0) (el := e5) rfl rfl Tryz.underlying50 (by kernel_rfl) hRxr_0 h05 he5 rfl fun q4 o4 cs4 _ hat4 hr4 => ?_)
  obtain ⟨_, _, rfl, rfl, ⟨_, _, rfl, rfl, ⟨_, _, rfl, rfl, rfl⟩⟩⟩ := hr4
  replace hat4 : At g q4 o4 [.int .i64 e5.1, sv e5.2.1, sv e5.2.2.1, .int .i64 e5.2.2.2] := hat4
  refine Ok.op rfl (OpOk.step (v := .agg #[.int .i64 e5.1, sv e5.2.1, sv e5.2.2.1, .int .i64 e5.2.2.2]) (Yields.loadAggRo 0 4 #[.int .i64 e5.1, sv e5.2.1, sv e5.2.2.1, .int .i64 e5.2.2.2] hat4 (by kernel_rfl) Tryz.underlying67 rfl (by kernel_rfl) (by kernel_rfl) (by kernel_rfl)) rfl rfl (Ok.op rfl (OpOk.alloc (z := .agg #[.int .i64 0, sv ([] : Bs), sv ([] : Bs), .int .i64 0]) (cs := #[.int .i64 0, sv ([] : Bs), sv ([] : Bs), .int .i64 0]) (by kernel_rfl) (by kernel_rfl) rfl fun bs5 => ?_)))
  refine Ok.op rfl (OpOk.sto (k := 4) (v := .agg #[.int .i64 e5.1, sv e5.2.1, sv e5.2.2.1, .int .i64 e5.2.2.2]) 0 #[.int .i64 e5.1, sv e5.2.1, sv e5.2.2.1, .int .i64 e5.2.2.2] rfl rfl rfl ?_)
  refine Ok.nil (Ok.thenN (Ok.seq (Ok.region (Ok.bat 4 [0, 1, 4] [(5, pv bs5 0), (27, pv bxr 0), (30, pv bxr 0)] ?_))))
  refine Ok.op rfl (OpOk.step (v := .slice axr_0 xr.1.length cxr_0) (Yields.load 3 rfl rfl Tryz.underlying50 rfl (by kernel_rfl)) rfl rfl ?_)
  obtain ⟨h07, h17, h27, hF⟩ := hF
  refine Ok.op rfl (OpOk.sliceRo (e := .pair (.int .i64) (.pair (.str) (.pair (.str) (.int .i64)))) (l := 1) (h := (xr.1.length : Int)) rfl Tryz.underlying50 (by kernel_rfl) (.inl ⟨_, _, rfl, rfl⟩) (.inr ⟨rfl, rfl⟩) hRxr_0 h07 h17 h27 rfl (xr.1.drop (Int.toNat 1)) (by rw [show ((xr.1.length : Int)).toNat = xr.1.length from Int.toNat_natCast _, List.take_length]) fun a7 c7 hR7 => ?_)
  refine Ok.bat 2 [0, 1, 4, 5] [(32, .slice a7 (xr.1.drop (Int.toNat 1)).length c7), (34, pv bxr 0)] ?_
  refine Ok.op rfl (OpOk.sto (k := 1) (v := .slice a7 (xr.1.drop (Int.toNat 1)).length c7) 3 #[.slice a7 (xr.1.drop (Int.toNat 1)).length c7, .int .i64 xr.2.1, .bool xr.2.2] rfl rfl rfl ?_)
  refine Ok.nil (Ok.thenN (Ok.seq (Ok.seq (Ok.region (Ok.bat 1 [0, 1, 4, 5] [(35, pv bs5 0)] ?_)))))
  refine Ok.op rfl (OpOk.step (v := .int .i64 e5.1) (Yields.load 0 rfl rfl Tryz.underlying3 rfl (by kernel_rfl)) rfl rfl (Ok.bat 1 [0, 1, 4, 5] [(37, .bool (e5.1 == 7))] ?_))
  refine Ok.nil (Ok.thenN (Ok.cond (b := (e5.1 == 7)) rfl (fun hc8 => ?_) (fun hc8 => ?_)))
  ·replace hF := hF.1 hc8
   refine Ok.seq (Ok.region (Ok.bat 1 [0, 4] [(39, pv bs5 1)] ?_))
   refine Ok.op rfl (OpOk.step (v := sv e5.2.1) (Yields.load 0 rfl rfl Tryz.underlying9 rfl (by kernel_rfl)) rfl rfl ?_)
   obtain ⟨hp9, hF⟩ := hF
   refine Ok.op rfl (OpOk.callG (v := .tuple #[.agg #[.int .i64 (dreadS e5.2.1).1.1, sv ((dreadS e5.2.1).1.2)], .int .i64 (dreadS e5.2.1).2]) enr (fun W hW => dread_c e5.2.1 (hG0.mono hW.sees) (hG1.mono hW.sees) hp9) rfl ?_)
   refine Ok.bat 3 [0, 4] [(42, .agg #[.int .i64 (dreadS e5.2.1).1.1, sv ((dreadS e5.2.1).1.2)]), (43, .int .i64 (dreadS e5.2.1).2)] ?_
   refine Ok.op rfl (OpOk.alloc (z := .agg #[.int .i64 0, sv ([] : Bs)]) (cs := #[.int .i64 0, sv ([] : Bs)]) (by kernel_rfl) (by kernel_rfl) rfl fun bs6 => ?_)
   refine Ok.op rfl (OpOk.sto (k := 2) (v := .agg #[.int .i64 (dreadS e5.2.1).1.1, sv ((dreadS e5.2.1).1.2)]) 0 #[.int .i64 (dreadS e5.2.1).1.1, sv ((dreadS e5.2.1).1.2)] rfl rfl rfl ?_)
   refine Ok.bat 1 [0, 4] [(6, pv bs6 0), (7, .int .i64 (dreadS e5.2.1).2)] ?_
   refine Ok.nil (Ok.thenN (Ok.seq (Ok.region (Ok.bat 3 [0, 4, 6] [(44, pv bxr 0), (46, .bool ((dreadS e5.2.1).2 == 0))] ?_))))
   refine Ok.op rfl (OpOk.inline (args := #[pv bxr 0, .bool ((dreadS e5.2.1).2 == 0)]) 8 [(0, pv bxr 0), (1, .bool ((dreadS e5.2.1).2 == 0))] enr Tryz.func19 rfl rfl rfl rfl (Ok.seq (Ok.region (Ok.batch 2 [(5, .bool (!((dreadS e5.2.1).2 == 0)))] (by kernel_rfl) (Ok.nil (Ok.thenN (Ok.cond (b := !((dreadS e5.2.1).2 == 0)) rfl (fun hc11 => ?_) (fun hc11 => ?_))))))))
   ·replace hF := hF.1 hc11
    exact False.elim hF
   ·replace hF := hF.2 hc11
    refine Ok.skip (Ok.back (vs := []) (.inr rfl) rfl .nil rfl (Ok.nil (Ok.thenN (Ok.seq (Ok.region (Ok.batch 1 [(4, pv bs4 0), (6, pv bs6 0), (48, pv bxr 0)] (by kernel_rfl) (Ok.op rfl (OpOk.step (v := .agg #[.int .i64 (dreadS e5.2.1).1.1, sv ((dreadS e5.2.1).1.2)]) (Yields.loadAgg 0 2 #[.int .i64 (dreadS e5.2.1).1.1, sv ((dreadS e5.2.1).1.2)] rfl rfl Tryz.underlying23 rfl (by kernel_rfl) (by kernel_rfl) (by kernel_rfl)) rfl rfl (Ok.bat 1 [4, 48] [(50, .agg #[.int .i64 1, .int .i64 (dreadS e5.2.1).1.1, sv ((dreadS e5.2.1).1.2), .slice none 0 0])] ?_)))))))))
    refine Ok.op rfl (OpOk.inline (args := #[pv bxr 0, .agg #[.int .i64 1, .int .i64 (dreadS e5.2.1).1.1, sv ((dreadS e5.2.1).1.2), .slice none 0 0]]) 20 [(0, pv bxr 0), (1, .agg #[.int .i64 1, .int .i64 (dreadS e5.2.1).1.1, sv ((dreadS e5.2.1).1.2), .slice none 0 0])] enr Tryz.func35 rfl rfl rfl rfl (Ok.seq (Ok.region ?_)))
    have hL12 : RepL g (.tree (.pair (.int .i64) (.pair (.int .i64) (.str)))) [] [] := rfl
    refine Ok.ownNil 26 4 (Ok.op rfl (OpOk.box (v := .agg #[.int .i64 1, .int .i64 (dreadS e5.2.1).1.1, sv ((dreadS e5.2.1).1.2), .slice none ([] : List (Tree (Int × Int × Bs))).length 0]) (cs := #[.int .i64 1, .int .i64 (dreadS e5.2.1).1.1, sv ((dreadS e5.2.1).1.2), .slice none ([] : List (Tree (Int × Int × Bs))).length 0]) rfl (by kernel_rfl) rfl fun bs3i51 => ?_))
    have hL14 : RepL g (.tree (.pair (.int .i64) (.pair (.int .i64) (.str)))) [] [] := rfl
    refine Ok.ownNil 26 4 (Ok.op rfl (OpOk.alloc (z := .agg #[.int .i64 0, .int .i64 0, sv ([] : Bs), .slice none ([] : List (Tree (Int × Int × Bs))).length 0]) (cs := #[.int .i64 0, .int .i64 0, sv ([] : Bs), .slice none ([] : List (Tree (Int × Int × Bs))).length 0]) (by kernel_rfl) (by kernel_rfl) rfl fun bs4i51 => ?_))
    refine Ok.nil (Ok.thenN (Ok.seq (Ok.seq (Ok.region (Ok.batch 3 [(0, pv bxr 0), (3, pv bs3i51 0), (4, pv bs4i51 0), (5, pv bxr 0), (7, pv bxr 1)] (by kernel_rfl) (Ok.op rfl (OpOk.step (v := .int .i64 xr.2.1) (Yields.load 8 rfl rfl Tryz.underlying3 rfl (by kernel_rfl)) rfl rfl (Ok.bat 3 [0, 3, 4] [(9, .int .i64 (w6 (xr.2.1 + 1))), (11, pv bxr 1)] ?_))))))))
    refine Ok.op rfl (OpOk.sto (k := 1) (v := .int .i64 (w6 (xr.2.1 + 1))) 8 #[.slice a7 (xr.1.drop (Int.toNat 1)).length c7, .int .i64 (w6 (xr.2.1 + 1)), .bool xr.2.2] rfl rfl rfl ?_)
    refine Ok.nil (Ok.thenN (Ok.seq (Ok.region (Ok.bat 3 [3, 4] [(14, pv bxr 1)] ?_))))
    refine Ok.op rfl (OpOk.step (v := .int .i64 (w6 (xr.2.1 + 1))) (Yields.load 8 rfl rfl Tryz.underlying3 rfl (by kernel_rfl)) rfl rfl (Ok.bat 1 [3, 4] [(16, .bool (decide ((w6 (xr.2.1 + 1)) > 30)))] ?_))
    refine Ok.nil (Ok.thenN (Ok.cond (b := decide ((w6 (xr.2.1 + 1)) > 30)) rfl (fun hc16 => ?_) (fun hc16 => ?_)))
    ·replace hF := hF.1 hc16
     exact False.elim hF
    ·replace hF := hF.2 hc16
     refine Ok.skip (Ok.thenN (Ok.seq (Ok.region (Ok.op rfl (OpOk.step (v := .agg #[.int .i64 1, .int .i64 (dreadS e5.2.1).1.1, sv ((dreadS e5.2.1).1.2), .slice none ([] : List (Tree (Int × Int × Bs))).length 0]) (Yields.loadAgg 2 4 #[.int .i64 1, .int .i64 (dreadS e5.2.1).1.1, sv ((dreadS e5.2.1).1.2), .slice none ([] : List (Tree (Int × Int × Bs))).length 0] rfl rfl Tryz.underlying26 rfl (by kernel_rfl) (by kernel_rfl) (by kernel_rfl)) rfl rfl (Ok.op rfl (OpOk.sto (k := 4) (v := .agg #[.int .i64 1, .int .i64 (dreadS e5.2.1).1.1, sv ((dreadS e5.2.1).1.2), .slice none ([] : List (Tree (Int × Int × Bs))).length 0]) 0 #[.int .i64 1, .int .i64 (dreadS e5.2.1).1.1, sv ((dreadS e5.2.1).1.2), .slice none ([] : List (Tree (Int × Int × Bs))).length 0] rfl rfl rfl ?_)))))))
     refine Ok.nil (Ok.thenN (Ok.ret (Ok.back (vs := [.agg #[.int .i64 1, .int .i64 (dreadS e5.2.1).1.1, sv ((dreadS e5.2.1).1.2), .slice none ([] : List (Tree (Int × Int × Bs))).length 0]]) (.inl rfl) rfl (.cons (.cellAgg 0 4 #[.int .i64 1, .int .i64 (dreadS e5.2.1).1.1, sv ((dreadS e5.2.1).1.2), .slice none ([] : List (Tree (Int × Int × Bs))).length 0] rfl rfl Tryz.underlying26 rfl (by kernel_rfl) (by kernel_rfl) (by kernel_rfl)) .nil) rfl (Ok.op rfl (OpOk.sto (k := 4) (v := .agg #[.int .i64 1, .int .i64 (dreadS e5.2.1).1.1, sv ((dreadS e5.2.1).1.2), .slice none ([] : List (Tree (Int × Int × Bs))).length 0]) 6 #[.int .i64 1, .int .i64 (dreadS e5.2.1).1.1, sv ((dreadS e5.2.1).1.2), .slice none ([] : List (Tree (Int × Int × Bs))).length 0] rfl rfl rfl ?_)))))
     refine Ok.nil (Ok.thenN (Ok.ret (Ok.thenR (Ok.frz 3 rfl hL12 fun g17 hx17 hRf17 => ?_))))
     replace hL14 := hL14.mono hx17.1
     replace hL1 := hL1.mono hx17.1
     replace hR7 := hR7.mono hx17.1
     replace hG0 := hG0.mono hx17.1
     replace hG1 := hG1.mono hx17.1
     exact Ok.resP (vs := [.agg #[.int .i64 1, .int .i64 (dreadS e5.2.1).1.1, sv ((dreadS e5.2.1).1.2), .slice none ([] : List (Tree (Int × Int × Bs))).length 0]]) [7] [.blk bxr (.cells #[.slice a7 (xr.1.drop (Int.toNat 1)).length c7, .int .i64 (w6 (xr.2.1 + 1)), .bool xr.2.2] 53)] (by decide) rfl (.inl rfl) rfl (.cons (.cellAgg 5 4 #[.int .i64 1, .int .i64 (dreadS e5.2.1).1.1, sv ((dreadS e5.2.1).1.2), .slice none ([] : List (Tree (Int × Int × Bs))).length 0] rfl rfl Tryz.underlying26 rfl (by kernel_rfl) (by kernel_rfl) (by kernel_rfl)) .nil) hx17 ⟨(Tree.mk (1, (dreadS e5.2.1).1) ([] : List (Tree (Int × Int × Bs)))), ((xr.1.drop (Int.toNat 1)), w6 (xr.2.1 + 1), xr.2.2), none, 0, a7, c7, rfl, hRf17, hR7, rfl, hF⟩
  ·replace hF := hF.2 hc8
   refine Ok.skip (Ok.thenN (Ok.seq (Ok.cut (fun a W => ∃ gj22 : Ghost, Gext w0 g gj22 ∧ StA 111 [(0, pv bxr 0), (4, pv bs4 0), (5, pv bs5 0), (57, .bool (xin && (e5.2.1 == ([40] : Bs))))] a ∧ StW w0 [.blk bs5 (.cells #[.int .i64 e5.1, sv e5.2.1, sv e5.2.2.1, .int .i64 e5.2.2.2] 67), .blk bs4 (.cells #[.int .i64 0, .int .i64 0, sv ([] : Bs), .slice none ([] : List (Tree (Int × Int × Bs))).length 0] 26), .own (.slice none ([] : List (Tree (Int × Int × Bs))).length 0) 26 4 ([] : List (Tree (Int × Int × Bs))).length ([]), .blk bxr (.cells #[.slice a7 (xr.1.drop (Int.toNat 1)).length c7, .int .i64 xr.2.1, .bool xr.2.2] 53)] gj22 W ∧ valj22 xin e5) ?_ ?_)))
   ·
    refine Ok.region (Ok.bat 2 [0, 4, 5] [(53, .bool xin)] ?_)
    refine Ok.boolAt 53 (xin) rfl (fun hc20 => ?_) (fun hc20 => ?_)
    ·replace hF := hF.1 hc20
     refine Ok.bat 1 [0, 4, 5] [(53, .bool true), (54, pv bs5 1)] ?_
     refine Ok.opYes (j := 1) (d := 53) (want := true) (b := true) rfl (by kernel_rfl) (by kernel_rfl) rfl (OpOk.step (v := sv e5.2.1) (Yields.load 0 rfl rfl Tryz.underlying9 rfl (by kernel_rfl)) rfl rfl (Ok.opYes (j := 1) (d := 53) (want := true) (b := true) rfl (by kernel_rfl) (by kernel_rfl) rfl (OpOk.step (v := .bool (e5.2.1 == ([40] : Bs))) (Yields.strCmp (f := .eql) (a := e5.2.1) (b := ([40] : Bs)) (by kernel_rfl) (by kernel_rfl) rfl) rfl rfl (Ok.bat 1 [0, 4, 5] [(57, .bool (e5.2.1 == ([40] : Bs)))] ?_))))
     refine Ok.nil (Ok.thenN (Ok.reval 57 rfl (show (.bool (e5.2.1 == ([40] : Bs)) : Value) = .bool (xin && (e5.2.1 == ([40] : Bs))) from congrArg (Value.bool) (mand_t hc20)) ?_))
     exact fun a W hA hW => ⟨g, (Gext.refl w0 g), hA.sub (by kernel_rfl), hW, hF⟩
    ·replace hF := hF.2 hc20
     refine Ok.bat 4 [0, 4, 5] [(57, .bool false)] ?_
     refine Ok.nil (Ok.thenN (Ok.reval 57 rfl (show (.bool false : Value) = .bool (xin && (e5.2.1 == ([40] : Bs))) from congrArg (Value.bool) (mand_f hc20)) ?_))
     exact fun a W hA hW => ⟨g, (Gext.refl w0 g), hA.sub (by kernel_rfl), hW, hF⟩
   ·
    clear hF
    rintro a W ⟨gj22, hxj22, hA, hW, hF⟩
    refine (?_ : Ok _ _ _ _ _ _) a W hA hW
    clear hA hW
    replace hL1 := hL1.mono hxj22.1
    replace hR7 := hR7.mono hxj22.1
    replace hG0 := hG0.mono hxj22.1
    replace hG1 := hG1.mono hxj22.1
    refine Ok.cond (b := (xin && (e5.2.1 == ([40] : Bs)))) rfl (fun hc18 => ?_) (fun hc18 => ?_)
    ·replace hF := hF.1 hc18
     refine Ok.seq ?_
     exact False.elim hF
    ·replace hF := hF.2 hc18
     refine Ok.skip (Ok.thenN (Ok.seq (Ok.region (Ok.bat 2 [0, 4, 5] [(65, pv bxr 0), (66, pv bs5 0)] ?_))))
     refine Ok.op rfl (OpOk.step (v := .int .i64 e5.1) (Yields.load 0 rfl rfl Tryz.underlying3 rfl (by kernel_rfl)) rfl rfl (Ok.bat 1 [0, 4, 5, 65] [(68, .bool (e5.1 == 2))] ?_))
     refine Ok.op rfl (OpOk.inline (args := #[pv bxr 0, .bool (e5.1 == 2)]) 8 [(0, pv bxr 0), (1, .bool (e5.1 == 2))] enr Tryz.func19 rfl rfl rfl rfl (Ok.seq (Ok.region (Ok.batch 2 [(5, .bool (!(e5.1 == 2)))] (by kernel_rfl) (Ok.nil (Ok.thenN (Ok.cond (b := !(e5.1 == 2)) rfl (fun hc19 => ?_) (fun hc19 => ?_))))))))
     ·replace hF := hF.1 hc19
      exact False.elim hF
     ·replace hF := hF.2 hc19
      refine Ok.skip (Ok.back (vs := []) (.inr rfl) rfl .nil rfl (Ok.nil (Ok.thenN (Ok.seq ?_))))
      exact False.elim hF
def tkN1 : Tok := (7, [49, 112, 120], [112, 120], 1000)
def tkN2 : Tok := (7, [50], [], 2000)
def tkB : Tok := (8, [32], [], 0)
def tkS : Tok := (12, [42], [], 0)
def tkC : Tok := (11, [41], [], 0)
def tkF : Tok := (2, [99, 97, 108, 99, 40], [99, 97, 108, 99], 0)
def T1 : Tm := .mk (4, (0, [])) [.mk (1, (1000, [112, 120])) [], .mk (1, (2000, [])) []]
def R0 : Rd := ([tkN1, tkB, tkS, tkB, tkN2, tkC], 0, false)
def R1 : Rd := ([tkC], 3, false)
def RA : Rd := ([tkF, tkN1, tkB, tkS, tkB, tkN2, tkC], 0, false)
def RB : Rd := ([], 3, false)
theorem c_num1 : cutP [49, 112, 120] := ⟨by decide, by decide +kernel⟩
theorem c_num2 : cutP [50] := ⟨by decide, by decide +kernel⟩
theorem d_num1 : dreadS [49, 112, 120] = ((1000, [112, 120]), 0) := by decide +kernel
theorem d_num2 : dreadS [50] = ((2000, []), 0) := by decide +kernel
def A1 : Rd := ([tkN1, tkB, tkS, tkB, tkN2, tkC], 0, false)
def A2 : Rd := ([tkN2, tkC], 1, true)
def numP (r : Rd) (b : Bool) : Prop := b = true ∧ (r = A1 ∨ r = A2)
def numR (r : Rd) (_ : Bool) : Tm × Rd := if r.2.2 = true then (.mk (1, (2000, [])) [], ([tkC], 2, true)) else (.mk (1, (1000, [112, 120])) [], ([tkB, tkS, tkB, tkN2, tkC], 1, false))
theorem val_F (r : Rd) (b : Bool) (hp : numP r b) : valF r b (fun a c => (a, c) = numR r b) := by
 obtain ⟨rfl, rfl | rfl⟩ := hp
 ·refine ⟨fun h => absurd h (by decide), fun _ => ⟨by decide, by decide, by decide, by decide, by decide, fun _ => ⟨c_num1, ?_⟩, fun h => absurd h (by decide)⟩⟩
  rw [show (A1.1.getD (Int.toNat 0) default).2.1 = [49, 112, 120] from rfl, d_num1]
  exact ⟨fun h => absurd h (by decide), fun _ => ⟨fun h => absurd h (by decide), fun _ => rfl⟩⟩
 ·refine ⟨fun h => absurd h (by decide), fun _ => ⟨by decide, by decide, by decide, by decide, by decide, fun _ => ⟨c_num2, ?_⟩, fun h => absurd h (by decide)⟩⟩
  rw [show (A2.1.getD (Int.toNat 0) default).2.1 = [50] from rfl, d_num2]
  exact ⟨fun h => absurd h (by decide), fun _ => ⟨fun h => absurd h (by decide), fun _ => rfl⟩⟩
theorem val_c {g : Ghost} {bxr : Nat} {axr_0 : Option Addr} {cxr_0 : Nat} (xr : (List (Int × Bs × Bs × Int)) × Int × Bool) (xin : Bool) (hRxr_0 : Rep g (.slice (.pair (.int .i64) (.pair (.str) (.pair (.str) (.int .i64))))) [.slice axr_0 xr.1.length cxr_0] xr.1) (hG0 : Glob g 0 (.slice (.str)) DUnits) (hG1 : SomeInt g 1)  (hp : numP xr xin) : CallsH Tryz.prog 18 #[pv bxr 0, .bool xin] g [.blk bxr (.cells #[.slice axr_0 xr.1.length cxr_0, .int .i64 xr.2.1, .bool xr.2.2] 53)] (fun g' H' v => ∃ (ar0_0 : Option Addr) (cr0_0 : Nat), ∃ (afxr_0 : Option Addr) (cfxr_0 : Nat), v = .agg #[.int .i64 ((numR xr xin).1).lab.1, .int .i64 ((numR xr xin).1).lab.2.1, sv (((numR xr xin).1).lab.2.2), .slice ar0_0 ((numR xr xin).1).kids.length cr0_0] ∧ Rep g' (.slice (.tree (.pair (.int .i64) (.pair (.int .i64) (.str))))) [.slice ar0_0 ((numR xr xin).1).kids.length cr0_0] ((numR xr xin).1).kids ∧ Rep g' (.slice (.pair (.int .i64) (.pair (.str) (.pair (.str) (.int .i64))))) [.slice afxr_0 (numR xr xin).2.1.length cfxr_0] (numR xr xin).2.1 ∧ H' = [.blk bxr (.cells #[.slice afxr_0 (numR xr xin).2.1.length cfxr_0, .int .i64 (numR xr xin).2.2.1, .bool (numR xr xin).2.2.2] 53)]) :=
 (val_ok xr xin hRxr_0 hG0 hG1 _ (val_F xr xin hp)).mono (by rintro g' H' v _ ⟨r0, fxr, ar0_0, cr0_0, afxr_0, cfxr_0, rfl, hRr0_0, hRfxr_0, rfl, hK⟩; obtain ⟨rfl, rfl⟩ : r0 = (numR xr xin).1 ∧ fxr = (numR xr xin).2 := ⟨congrArg (fun z => z.1) hK, congrArg (fun z => z.2) hK⟩; exact ⟨ar0_0, cr0_0, afxr_0, cfxr_0, rfl, hRr0_0, hRfxr_0, rfl⟩)
def prdV4 (ybxr_0l8 : List (Int × Bs × Bs × Int)) (ybxr_1l8 : Int) (ybxr_2l8 : Bool) : Int :=
 (if (rwS ((gapS (ybxr_0l8, ybxr_1l8, ybxr_2l8)).2.1, (gapS (ybxr_0l8, ybxr_1l8, ybxr_2l8)).2.2.1, (gapS (ybxr_0l8, ybxr_1l8, ybxr_2l8)).1) ([42] : Bs)).1 = true then 4 else 5)
def prdV5 (ybxr_0l8 : List (Int × Bs × Bs × Int)) (ybxr_1l8 : Int) (ybxr_2l8 : Bool) : List (Int × Bs × Bs × Int) :=
 (if (rwS ((gapS (ybxr_0l8, ybxr_1l8, ybxr_2l8)).2.1, (gapS (ybxr_0l8, ybxr_1l8, ybxr_2l8)).2.2.1, (gapS (ybxr_0l8, ybxr_1l8, ybxr_2l8)).1) ([42] : Bs)).1 = true then (rwS ((gapS (ybxr_0l8, ybxr_1l8, ybxr_2l8)).2.1, (gapS (ybxr_0l8, ybxr_1l8, ybxr_2l8)).2.2.1, (gapS (ybxr_0l8, ybxr_1l8, ybxr_2l8)).1) ([42] : Bs)).2.1 else (rwS (rwS ((gapS (ybxr_0l8, ybxr_1l8, ybxr_2l8)).2.1, (gapS (ybxr_0l8, ybxr_1l8, ybxr_2l8)).2.2.1, (gapS (ybxr_0l8, ybxr_1l8, ybxr_2l8)).1) ([42] : Bs)).2 ([47] : Bs)).2.1)
def prdV6 (ybxr_0l8 : List (Int × Bs × Bs × Int)) (ybxr_1l8 : Int) (ybxr_2l8 : Bool) : Int :=
 (if (rwS ((gapS (ybxr_0l8, ybxr_1l8, ybxr_2l8)).2.1, (gapS (ybxr_0l8, ybxr_1l8, ybxr_2l8)).2.2.1, (gapS (ybxr_0l8, ybxr_1l8, ybxr_2l8)).1) ([42] : Bs)).1 = true then (rwS ((gapS (ybxr_0l8, ybxr_1l8, ybxr_2l8)).2.1, (gapS (ybxr_0l8, ybxr_1l8, ybxr_2l8)).2.2.1, (gapS (ybxr_0l8, ybxr_1l8, ybxr_2l8)).1) ([42] : Bs)).2.2.1 else (rwS (rwS ((gapS (ybxr_0l8, ybxr_1l8, ybxr_2l8)).2.1, (gapS (ybxr_0l8, ybxr_1l8, ybxr_2l8)).2.2.1, (gapS (ybxr_0l8, ybxr_1l8, ybxr_2l8)).1) ([42] : Bs)).2 ([47] : Bs)).2.2.1)
def prdV7 (ybxr_0l8 : List (Int × Bs × Bs × Int)) (ybxr_1l8 : Int) (ybxr_2l8 : Bool) : Bool :=
 (if (rwS ((gapS (ybxr_0l8, ybxr_1l8, ybxr_2l8)).2.1, (gapS (ybxr_0l8, ybxr_1l8, ybxr_2l8)).2.2.1, (gapS (ybxr_0l8, ybxr_1l8, ybxr_2l8)).1) ([42] : Bs)).1 = true then (rwS ((gapS (ybxr_0l8, ybxr_1l8, ybxr_2l8)).2.1, (gapS (ybxr_0l8, ybxr_1l8, ybxr_2l8)).2.2.1, (gapS (ybxr_0l8, ybxr_1l8, ybxr_2l8)).1) ([42] : Bs)).2.2.2 else (rwS (rwS ((gapS (ybxr_0l8, ybxr_1l8, ybxr_2l8)).2.1, (gapS (ybxr_0l8, ybxr_1l8, ybxr_2l8)).2.2.1, (gapS (ybxr_0l8, ybxr_1l8, ybxr_2l8)).1) ([42] : Bs)).2 ([47] : Bs)).2.2.2)
def prdj14 (ybs3_0l8 : Int) (ybs3_1l8 : Int) (ybs3_2l8 : Bs) (ybs3_3l8 : List (Tree (Int × Int × Bs))) (ybxr_0l8 : List (Int × Bs × Bs × Int)) (ybxr_1l8 : Int) (ybxr_2l8 : Bool) (C8 : Int → Int → Bs → (List (Tree (Int × Int × Bs))) → (List (Int × Bs × Bs × Int)) → Int → Bool → Prop) : Prop :=
 (numP (gapS ((prdV5 ybxr_0l8 ybxr_1l8 ybxr_2l8), (prdV6 ybxr_0l8 ybxr_1l8 ybxr_2l8), (prdV7 ybxr_0l8 ybxr_1l8 ybxr_2l8))).2 true ∧ ((decide ((w6 ((numR (gapS ((prdV5 ybxr_0l8 ybxr_1l8 ybxr_2l8), (prdV6 ybxr_0l8 ybxr_1l8 ybxr_2l8), (prdV7 ybxr_0l8 ybxr_1l8 ybxr_2l8))).2 true).2.2.1 + 1)) > 30)) = true → False) ∧ ((decide ((w6 ((numR (gapS ((prdV5 ybxr_0l8 ybxr_1l8 ybxr_2l8), (prdV6 ybxr_0l8 ybxr_1l8 ybxr_2l8), (prdV7 ybxr_0l8 ybxr_1l8 ybxr_2l8))).2 true).2.2.1 + 1)) > 30)) = false → C8 (prdV4 ybxr_0l8 ybxr_1l8 ybxr_2l8) 0 ([] : Bs) ([(Tree.mk (ybs3_0l8, (ybs3_1l8, ybs3_2l8)) ybs3_3l8), (numR (gapS ((prdV5 ybxr_0l8 ybxr_1l8 ybxr_2l8), (prdV6 ybxr_0l8 ybxr_1l8 ybxr_2l8), (prdV7 ybxr_0l8 ybxr_1l8 ybxr_2l8))).2 true).1] : List (Tree (Int × Int × Bs))) (numR (gapS ((prdV5 ybxr_0l8 ybxr_1l8 ybxr_2l8), (prdV6 ybxr_0l8 ybxr_1l8 ybxr_2l8), (prdV7 ybxr_0l8 ybxr_1l8 ybxr_2l8))).2 true).2.1 (w6 ((numR (gapS ((prdV5 ybxr_0l8 ybxr_1l8 ybxr_2l8), (prdV6 ybxr_0l8 ybxr_1l8 ybxr_2l8), (prdV7 ybxr_0l8 ybxr_1l8 ybxr_2l8))).2 true).2.2.1 + 1)) (numR (gapS ((prdV5 ybxr_0l8 ybxr_1l8 ybxr_2l8), (prdV6 ybxr_0l8 ybxr_1l8 ybxr_2l8), (prdV7 ybxr_0l8 ybxr_1l8 ybxr_2l8))).2 true).2.2.2)) ∧ (numP (gapS ((prdV5 ybxr_0l8 ybxr_1l8 ybxr_2l8), (prdV6 ybxr_0l8 ybxr_1l8 ybxr_2l8), (prdV7 ybxr_0l8 ybxr_1l8 ybxr_2l8))).2 true ∧ ((decide ((w6 ((numR (gapS ((prdV5 ybxr_0l8 ybxr_1l8 ybxr_2l8), (prdV6 ybxr_0l8 ybxr_1l8 ybxr_2l8), (prdV7 ybxr_0l8 ybxr_1l8 ybxr_2l8))).2 true).2.2.1 + 1)) > 30)) = true → False) ∧ ((decide ((w6 ((numR (gapS ((prdV5 ybxr_0l8 ybxr_1l8 ybxr_2l8), (prdV6 ybxr_0l8 ybxr_1l8 ybxr_2l8), (prdV7 ybxr_0l8 ybxr_1l8 ybxr_2l8))).2 true).2.2.1 + 1)) > 30)) = false → C8 (prdV4 ybxr_0l8 ybxr_1l8 ybxr_2l8) 0 ([] : Bs) ([(Tree.mk (ybs3_0l8, (ybs3_1l8, ybs3_2l8)) ybs3_3l8), (numR (gapS ((prdV5 ybxr_0l8 ybxr_1l8 ybxr_2l8), (prdV6 ybxr_0l8 ybxr_1l8 ybxr_2l8), (prdV7 ybxr_0l8 ybxr_1l8 ybxr_2l8))).2 true).1] : List (Tree (Int × Int × Bs))) (numR (gapS ((prdV5 ybxr_0l8 ybxr_1l8 ybxr_2l8), (prdV6 ybxr_0l8 ybxr_1l8 ybxr_2l8), (prdV7 ybxr_0l8 ybxr_1l8 ybxr_2l8))).2 true).2.1 (w6 ((numR (gapS ((prdV5 ybxr_0l8 ybxr_1l8 ybxr_2l8), (prdV6 ybxr_0l8 ybxr_1l8 ybxr_2l8), (prdV7 ybxr_0l8 ybxr_1l8 ybxr_2l8))).2 true).2.2.1 + 1)) (numR (gapS ((prdV5 ybxr_0l8 ybxr_1l8 ybxr_2l8), (prdV6 ybxr_0l8 ybxr_1l8 ybxr_2l8), (prdV7 ybxr_0l8 ybxr_1l8 ybxr_2l8))).2 true).2.2.2))
def prdl8b (K : (Tree (Int × Int × Bs)) → ((List (Int × Bs × Bs × Int)) × Int × Bool) → Prop) (ybs3_0l8 : Int) (ybs3_1l8 : Int) (ybs3_2l8 : Bs) (ybs3_3l8 : List (Tree (Int × Int × Bs))) (ybxr_0l8 : List (Int × Bs × Bs × Int)) (ybxr_1l8 : Int) (ybxr_2l8 : Bool) (C8 : Int → Int → Bs → (List (Tree (Int × Int × Bs))) → (List (Int × Bs × Bs × Int)) → Int → Bool → Prop) : Prop :=
 ((rwS ((gapS (ybxr_0l8, ybxr_1l8, ybxr_2l8)).2.1, (gapS (ybxr_0l8, ybxr_1l8, ybxr_2l8)).2.2.1, (gapS (ybxr_0l8, ybxr_1l8, ybxr_2l8)).1) ([42] : Bs)).1 = true → prdj14 ybs3_0l8 ybs3_1l8 ybs3_2l8 ybs3_3l8 ybxr_0l8 ybxr_1l8 ybxr_2l8 C8) ∧ ((rwS ((gapS (ybxr_0l8, ybxr_1l8, ybxr_2l8)).2.1, (gapS (ybxr_0l8, ybxr_1l8, ybxr_2l8)).2.2.1, (gapS (ybxr_0l8, ybxr_1l8, ybxr_2l8)).1) ([42] : Bs)).1 = false → ((rwS (rwS ((gapS (ybxr_0l8, ybxr_1l8, ybxr_2l8)).2.1, (gapS (ybxr_0l8, ybxr_1l8, ybxr_2l8)).2.2.1, (gapS (ybxr_0l8, ybxr_1l8, ybxr_2l8)).1) ([42] : Bs)).2 ([47] : Bs)).1 = true → prdj14 ybs3_0l8 ybs3_1l8 ybs3_2l8 ybs3_3l8 ybxr_0l8 ybxr_1l8 ybxr_2l8 C8) ∧ ((rwS (rwS ((gapS (ybxr_0l8, ybxr_1l8, ybxr_2l8)).2.1, (gapS (ybxr_0l8, ybxr_1l8, ybxr_2l8)).2.2.1, (gapS (ybxr_0l8, ybxr_1l8, ybxr_2l8)).1) ([42] : Bs)).2 ([47] : Bs)).1 = false → K (Tree.mk (ybs3_0l8, (ybs3_1l8, ybs3_2l8)) ybs3_3l8) (rwS ((rwS ((gapS (ybxr_0l8, ybxr_1l8, ybxr_2l8)).2.1, (gapS (ybxr_0l8, ybxr_1l8, ybxr_2l8)).2.2.1, (gapS (ybxr_0l8, ybxr_1l8, ybxr_2l8)).1) ([42] : Bs)).2.1, (rwS ((gapS (ybxr_0l8, ybxr_1l8, ybxr_2l8)).2.1, (gapS (ybxr_0l8, ybxr_1l8, ybxr_2l8)).2.2.1, (gapS (ybxr_0l8, ybxr_1l8, ybxr_2l8)).1) ([42] : Bs)).2.2.1, (rwS ((gapS (ybxr_0l8, ybxr_1l8, ybxr_2l8)).2.1, (gapS (ybxr_0l8, ybxr_1l8, ybxr_2l8)).2.2.1, (gapS (ybxr_0l8, ybxr_1l8, ybxr_2l8)).1) ([42] : Bs)).2.2.2) ([47] : Bs)).2))
def prdl8 (K : (Tree (Int × Int × Bs)) → ((List (Int × Bs × Bs × Int)) × Int × Bool) → Prop) : Nat → Int → Int → Bs → (List (Tree (Int × Int × Bs))) → (List (Int × Bs × Bs × Int)) → Int → Bool → Prop
 | 0, _, _, _, _, _, _, _ => False
 | k + 1, ybs3_0l8, ybs3_1l8, ybs3_2l8, ybs3_3l8, ybxr_0l8, ybxr_1l8, ybxr_2l8 => prdl8b K ybs3_0l8 ybs3_1l8 ybs3_2l8 ybs3_3l8 ybxr_0l8 ybxr_1l8 ybxr_2l8 (prdl8 K k)
def prdF (xr : (List (Int × Bs × Bs × Int)) × Int × Bool) (K : (Tree (Int × Int × Bs)) → ((List (Int × Bs × Bs × Int)) × Int × Bool) → Prop) : Prop :=
 numP (gapS xr).2 true ∧ ∃ k, prdl8 K k (((numR (gapS xr).2 true).1).lab.1) (((numR (gapS xr).2 true).1).lab.2).1 (((numR (gapS xr).2 true).1).lab.2).2 (((numR (gapS xr).2 true).1).kids) (numR (gapS xr).2 true).2.1 (numR (gapS xr).2 true).2.2.1 (numR (gapS xr).2 true).2.2.2
theorem prd_ok {g : Ghost} {bxr : Nat} {axr_0 : Option Addr} {cxr_0 : Nat} (xr : (List (Int × Bs × Bs × Int)) × Int × Bool) (hRxr_0 : Rep g (.slice (.pair (.int .i64) (.pair (.str) (.pair (.str) (.int .i64))))) [.slice axr_0 xr.1.length cxr_0] xr.1) (hG0 : Glob g 0 (.slice (.str)) DUnits) (hG1 : SomeInt g 1) (K : (Tree (Int × Int × Bs)) → ((List (Int × Bs × Bs × Int)) × Int × Bool) → Prop)
  (hF : prdF xr K) : CallsH Tryz.prog 62 #[pv bxr 0] g [.blk bxr (.cells #[.slice axr_0 xr.1.length cxr_0, .int .i64 xr.2.1, .bool xr.2.2] 53)] (fun g' H' v => ∃ (r0 : Tree (Int × Int × Bs)), ∃ (fxr : (List (Int × Bs × Bs × Int)) × Int × Bool), ∃ (ar0_0 : Option Addr) (cr0_0 : Nat), ∃ (afxr_0 : Option Addr) (cfxr_0 : Nat), v = .agg #[.int .i64 r0.lab.1, .int .i64 r0.lab.2.1, sv r0.lab.2.2, .slice ar0_0 r0.kids.length cr0_0] ∧ Rep g' (.slice (.tree (.pair (.int .i64) (.pair (.int .i64) (.str))))) [.slice ar0_0 r0.kids.length cr0_0] r0.kids ∧ Rep g' (.slice (.pair (.int .i64) (.pair (.str) (.pair (.str) (.int .i64))))) [.slice afxr_0 fxr.1.length cfxr_0] fxr.1 ∧ H' = [.blk bxr (.cells #[.slice afxr_0 fxr.1.length cfxr_0, .int .i64 fxr.2.1, .bool fxr.2.2] 53)] ∧ K r0 fxr) := by
 refine CallsH.enter 31 [(0, pv bxr 0)] Tryz.func62 rfl (by kernel_rfl) (by kernel_rfl) (by kernel_rfl) fun w0 => ?_
 refine Ok.seq (Ok.region (Ok.op rfl (OpOk.alloc (z := .agg #[.int .i64 0, .int .i64 0, sv ([] : Bs), .slice none 0 0]) (cs := #[.int .i64 0, .int .i64 0, sv ([] : Bs), .slice none 0 0]) (by kernel_rfl) (by kernel_rfl) rfl fun bs2 => ?_)))
 refine Ok.nil (Ok.thenN (Ok.seq (Ok.region (Ok.batch 1 [(0, pv bxr 0), (2, pv bs2 0), (5, pv bxr 0)] (by kernel_rfl) (Ok.entries [1, 0] [.blk bxr (.cells #[.slice axr_0 xr.1.length cxr_0, .int .i64 xr.2.1, .bool xr.2.2] 53), .blk bs2 (.cells #[.int .i64 0, .int .i64 0, sv ([] : Bs), .slice none 0 0] 26)] (by decide) rfl (Ok.op rfl (OpOk.callH [_] _ enr rfl (gap_c xr hRxr_0) rfl fun g2 _ _ hx2 hV2 => ?_)))))))
 obtain ⟨a2_0, c2_0, rfl, hR2_0, rfl⟩ := hV2
 replace hG0 := hG0.mono hx2.1
 replace hG1 := hG1.mono hx2.1
 refine Ok.nil (Ok.thenN (Ok.seq (Ok.region (Ok.batch 1 [(0, pv bxr 0), (2, pv bs2 0), (7, pv bxr 0)] (by kernel_rfl) ?_))))
 obtain ⟨hp3, hF⟩ := hF
 refine Ok.op rfl (OpOk.callH [_] _ enr rfl (val_c (gapS xr).2 true hR2_0 hG0 hG1 hp3) rfl fun g4 _ _ hx4 hV4 => ?_)
 obtain ⟨a4_0, c4_0, a4_2, c4_2, rfl, hR4_0, hR4_2, rfl⟩ := hV4
 replace hG0 := hG0.mono hx4.1
 replace hG1 := hG1.mono hx4.1
 refine Ok.op rfl (OpOk.alloc (z := .agg #[.int .i64 0, .int .i64 0, sv ([] : Bs), .slice none 0 0]) (cs := #[.int .i64 0, .int .i64 0, sv ([] : Bs), .slice none 0 0]) (by kernel_rfl) (by kernel_rfl) rfl fun bs3 => ?_)
 refine Ok.op rfl (OpOk.sto (k := 4) (v := .agg #[.int .i64 (((numR (gapS xr).2 true).1).lab.1), .int .i64 (((numR (gapS xr).2 true).1).lab.2).1, sv ((((numR (gapS xr).2 true).1).lab.2).2), .slice a4_0 (((numR (gapS xr).2 true).1).kids).length c4_0]) 0 #[.int .i64 (((numR (gapS xr).2 true).1).lab.1), .int .i64 (((numR (gapS xr).2 true).1).lab.2).1, sv ((((numR (gapS xr).2 true).1).lab.2).2), .slice a4_0 (((numR (gapS xr).2 true).1).kids).length c4_0] rfl rfl rfl ?_)
 refine Ok.nil (Ok.thenN (Ok.block ?_))
 obtain ⟨k, hF⟩ := hF
 refine Ok.loop (fun k a W => ∃ gl8 : Ghost, Gext w0 g4 gl8 ∧ ∃ (ybs3_0l8 : Int) (ybs3_1l8 : Int) (ybs3_2l8 : Bs) (aybs3_3l8 : Option Addr) (cybs3_3l8 : Nat) (ybs3_3l8 : List (Tree (Int × Int × Bs))) (aybxr_0l8 : Option Addr) (cybxr_0l8 : Nat) (ybxr_0l8 : List (Int × Bs × Bs × Int)) (ybxr_1l8 : Int) (ybxr_2l8 : Bool), Rep gl8 (.slice (.tree (.pair (.int .i64) (.pair (.int .i64) (.str))))) [.slice aybs3_3l8 ybs3_3l8.length cybs3_3l8] ybs3_3l8 ∧ Rep gl8 (.slice (.pair (.int .i64) (.pair (.str) (.pair (.str) (.int .i64))))) [.slice aybxr_0l8 ybxr_0l8.length cybxr_0l8] ybxr_0l8 ∧ StA 31 [(0, pv bxr 0), (2, pv bs2 0), (3, pv bs3 0)] a ∧ StW w0 [.blk bs3 (.cells #[.int .i64 ybs3_0l8, .int .i64 ybs3_1l8, sv ybs3_2l8, .slice aybs3_3l8 ybs3_3l8.length cybs3_3l8] 26), .blk bxr (.cells #[.slice aybxr_0l8 ybxr_0l8.length cybxr_0l8, .int .i64 ybxr_1l8, .bool ybxr_2l8] 53), .blk bs2 (.cells #[.int .i64 0, .int .i64 0, sv ([] : Bs), .slice none 0 0] 26)] gl8 W ∧ prdl8 K k ybs3_0l8 ybs3_1l8 ybs3_2l8 ybs3_3l8 ybxr_0l8 ybxr_1l8 ybxr_2l8) k ?_ ?_
 ·
  exact fun a W hA hW => ⟨g4, (Gext.refl w0 g4), ((numR (gapS xr).2 true).1).lab.1, (((numR (gapS xr).2 true).1).lab.2).1, (((numR (gapS xr).2 true).1).lab.2).2, a4_0, c4_0, ((numR (gapS xr).2 true).1).kids, a4_2, c4_2, (numR (gapS xr).2 true).2.1, (numR (gapS xr).2 true).2.2.1, (numR (gapS xr).2 true).2.2.2, hR4_0, hR4_2, hA.sub (by kernel_rfl), hW, hF⟩
 ·
  clear hF
  rintro k8 a W ⟨gl8, hxl8, ybs3_0l8, ybs3_1l8, ybs3_2l8, aybs3_3l8, cybs3_3l8, ybs3_3l8, aybxr_0l8, cybxr_0l8, ybxr_0l8, ybxr_1l8, ybxr_2l8, hRybs3_3l8, hRybxr_0l8, hA, hW, hF⟩
  cases k8 with
  | zero => exact (hF : False).elim
  | succ k8 =>
   refine (?_ : Ok _ _ _ _ _ _) a W hA hW
   clear hA hW
   replace hG0 := hG0.mono hxl8.1
   replace hG1 := hG1.mono hxl8.1
   refine Ok.block (Ok.seq (Ok.region (Ok.bat 2 [0, 2, 3] [(9, pv bxr 0), (10, pv bxr 0)] ?_)))
   refine Ok.entries [1, 0, 2] [.blk bxr (.cells #[.slice aybxr_0l8 ybxr_0l8.length cybxr_0l8, .int .i64 ybxr_1l8, .bool ybxr_2l8] 53), .blk bs3 (.cells #[.int .i64 ybs3_0l8, .int .i64 ybs3_1l8, sv ybs3_2l8, .slice aybs3_3l8 ybs3_3l8.length cybs3_3l8] 26), .blk bs2 (.cells #[.int .i64 0, .int .i64 0, sv ([] : Bs), .slice none 0 0] 26)] (by decide) rfl (Ok.op rfl (OpOk.callH [_] _ enr rfl (gap_c (ybxr_0l8, ybxr_1l8, ybxr_2l8) hRybxr_0l8) rfl fun g6 _ _ hx6 hV6 => ?_))
   obtain ⟨a6_0, c6_0, rfl, hR6_0, rfl⟩ := hV6
   replace hRybs3_3l8 := hRybs3_3l8.mono hx6.1
   replace hG0 := hG0.mono hx6.1
   replace hG1 := hG1.mono hx6.1
   refine Ok.batch 2 [(0, pv bxr 0), (2, pv bs2 0), (3, pv bs3 0), (11, .bool (gapS (ybxr_0l8, ybxr_1l8, ybxr_2l8)).1), (13, pv bxr 2)] (by kernel_rfl) (Ok.op rfl (OpOk.sto (k := 1) (v := .bool (gapS (ybxr_0l8, ybxr_1l8, ybxr_2l8)).1) 0 #[.slice a6_0 ((gapS (ybxr_0l8, ybxr_1l8, ybxr_2l8)).2.1).length c6_0, .int .i64 (gapS (ybxr_0l8, ybxr_1l8, ybxr_2l8)).2.2.1, .bool (gapS (ybxr_0l8, ybxr_1l8, ybxr_2l8)).1] rfl rfl rfl ?_))
   refine Ok.nil (Ok.thenN (Ok.seq (Ok.region (Ok.bat 1 [0, 2, 3] [] ?_))))
   refine Ok.nil (Ok.thenN (Ok.cut (fun a W => ∃ gj14 : Ghost, Gext w0 g6 gj14 ∧ ∃ (aybxr_0j14 : Option Addr) (cybxr_0j14 : Nat), Rep gj14 (.slice (.pair (.int .i64) (.pair (.str) (.pair (.str) (.int .i64))))) [.slice aybxr_0j14 (prdV5 ybxr_0l8 ybxr_1l8 ybxr_2l8).length cybxr_0j14] (prdV5 ybxr_0l8 ybxr_1l8 ybxr_2l8) ∧ StA 31 [(0, pv bxr 0), (2, pv bs2 0), (3, pv bs3 0), (4, .int .i64 (prdV4 ybxr_0l8 ybxr_1l8 ybxr_2l8))] a ∧ StW w0 [.blk bxr (.cells #[.slice aybxr_0j14 (prdV5 ybxr_0l8 ybxr_1l8 ybxr_2l8).length cybxr_0j14, .int .i64 (prdV6 ybxr_0l8 ybxr_1l8 ybxr_2l8), .bool (prdV7 ybxr_0l8 ybxr_1l8 ybxr_2l8)] 53), .blk bs3 (.cells #[.int .i64 ybs3_0l8, .int .i64 ybs3_1l8, sv ybs3_2l8, .slice aybs3_3l8 ybs3_3l8.length cybs3_3l8] 26), .blk bs2 (.cells #[.int .i64 0, .int .i64 0, sv ([] : Bs), .slice none 0 0] 26)] gj14 W ∧ prdj14 ybs3_0l8 ybs3_1l8 ybs3_2l8 ybs3_3l8 ybxr_0l8 ybxr_1l8 ybxr_2l8 (prdl8 K k8)) ?_ ?_))
   ·
    refine Ok.block (Ok.seq (Ok.region (Ok.bat 1 [0, 2, 3] [(16, pv bxr 0)] ?_)))
    refine Ok.op rfl (OpOk.callH [_] _ enr rfl (raw_c ((gapS (ybxr_0l8, ybxr_1l8, ybxr_2l8)).2.1, (gapS (ybxr_0l8, ybxr_1l8, ybxr_2l8)).2.2.1, (gapS (ybxr_0l8, ybxr_1l8, ybxr_2l8)).1) ([42] : Bs) hR6_0) rfl fun g22 _ _ hx22 hV22 => ?_)
    obtain ⟨a22_0, c22_0, rfl, hR22_0, rfl⟩ := hV22
    replace hRybs3_3l8 := hRybs3_3l8.mono hx22.1
    replace hG0 := hG0.mono hx22.1
    replace hG1 := hG1.mono hx22.1
    refine Ok.bat 1 [0, 2, 3] [(15, .bool (rwS ((gapS (ybxr_0l8, ybxr_1l8, ybxr_2l8)).2.1, (gapS (ybxr_0l8, ybxr_1l8, ybxr_2l8)).2.2.1, (gapS (ybxr_0l8, ybxr_1l8, ybxr_2l8)).1) ([42] : Bs)).1)] ?_
    refine Ok.nil (Ok.thenN (Ok.cond (b := (rwS ((gapS (ybxr_0l8, ybxr_1l8, ybxr_2l8)).2.1, (gapS (ybxr_0l8, ybxr_1l8, ybxr_2l8)).2.2.1, (gapS (ybxr_0l8, ybxr_1l8, ybxr_2l8)).1) ([42] : Bs)).1) rfl (fun hc23 => ?_) (fun hc23 => ?_)))
    ·replace hF := hF.1 hc23
     refine Ok.region (Ok.bat 1 [0, 2, 3] [(4, .int .i64 4)] ?_)
     refine Ok.nil (Ok.blockN (Ok.thenN (Ok.reval 4 rfl (show (.int .i64 4 : Value) = .int .i64 (prdV4 ybxr_0l8 ybxr_1l8 ybxr_2l8) from congrArg (Value.int .i64) ((if_t hc23).symm)) (Ok.heapEq (H' := [.blk bxr (.cells #[.slice a22_0 (prdV5 ybxr_0l8 ybxr_1l8 ybxr_2l8).length c22_0, .int .i64 (prdV6 ybxr_0l8 ybxr_1l8 ybxr_2l8), .bool (prdV7 ybxr_0l8 ybxr_1l8 ybxr_2l8)] 53), .blk bs3 (.cells #[.int .i64 ybs3_0l8, .int .i64 ybs3_1l8, sv ybs3_2l8, .slice aybs3_3l8 ybs3_3l8.length cybs3_3l8] 26), .blk bs2 (.cells #[.int .i64 0, .int .i64 0, sv ([] : Bs), .slice none 0 0] 26)]) (econs (congrArg (fun l : List Value => Ent.blk bxr (.cells ⟨l⟩ 53)) (lcons (congrArg (fun l : List (Int × Bs × Bs × Int) => Value.slice a22_0 l.length c22_0) ((if_t hc23).symm)) (lcons (congrArg (Value.int .i64) ((if_t hc23).symm)) (lcons (congrArg (Value.bool) ((if_t hc23).symm)) rfl)))) (econs (rfl) (econs (rfl) rfl))) ?_))))
     exact fun a W hA hW => ⟨g22, hx22, a22_0, c22_0, (Eq.mp (congrArg (fun l : List (Int × Bs × Bs × Int) => Rep g22 (.slice (.pair (.int .i64) (.pair (.str) (.pair (.str) (.int .i64))))) [.slice a22_0 l.length c22_0] l) ((if_t hc23).symm)) hR22_0), hA.sub (by kernel_rfl), hW, hF⟩
    ·replace hF := hF.2 hc23
     refine Ok.seq (Ok.region (Ok.bat 1 [0, 2, 3] [(19, pv bxr 0)] ?_))
     refine Ok.op rfl (OpOk.callH [_] _ enr rfl (raw_c (rwS ((gapS (ybxr_0l8, ybxr_1l8, ybxr_2l8)).2.1, (gapS (ybxr_0l8, ybxr_1l8, ybxr_2l8)).2.2.1, (gapS (ybxr_0l8, ybxr_1l8, ybxr_2l8)).1) ([42] : Bs)).2 ([47] : Bs) hR22_0) rfl fun g24 _ _ hx24 hV24 => ?_)
     obtain ⟨a24_0, c24_0, rfl, hR24_0, rfl⟩ := hV24
     replace hRybs3_3l8 := hRybs3_3l8.mono hx24.1
     replace hG0 := hG0.mono hx24.1
     replace hG1 := hG1.mono hx24.1
     refine Ok.bat 1 [0, 2, 3] [(18, .bool (rwS (rwS ((gapS (ybxr_0l8, ybxr_1l8, ybxr_2l8)).2.1, (gapS (ybxr_0l8, ybxr_1l8, ybxr_2l8)).2.2.1, (gapS (ybxr_0l8, ybxr_1l8, ybxr_2l8)).1) ([42] : Bs)).2 ([47] : Bs)).1)] ?_
     refine Ok.nil (Ok.thenN (Ok.cond (b := (rwS (rwS ((gapS (ybxr_0l8, ybxr_1l8, ybxr_2l8)).2.1, (gapS (ybxr_0l8, ybxr_1l8, ybxr_2l8)).2.2.1, (gapS (ybxr_0l8, ybxr_1l8, ybxr_2l8)).1) ([42] : Bs)).2 ([47] : Bs)).1) rfl (fun hc25 => ?_) (fun hc25 => ?_)))
     ·replace hF := hF.1 hc25
      refine Ok.region (Ok.bat 1 [0, 2, 3] [(4, .int .i64 5)] ?_)
      refine Ok.nil (Ok.blockN (Ok.thenN (Ok.reval 4 rfl (show (.int .i64 5 : Value) = .int .i64 (prdV4 ybxr_0l8 ybxr_1l8 ybxr_2l8) from congrArg (Value.int .i64) ((if_f hc23).symm)) (Ok.heapEq (H' := [.blk bxr (.cells #[.slice a24_0 (prdV5 ybxr_0l8 ybxr_1l8 ybxr_2l8).length c24_0, .int .i64 (prdV6 ybxr_0l8 ybxr_1l8 ybxr_2l8), .bool (prdV7 ybxr_0l8 ybxr_1l8 ybxr_2l8)] 53), .blk bs3 (.cells #[.int .i64 ybs3_0l8, .int .i64 ybs3_1l8, sv ybs3_2l8, .slice aybs3_3l8 ybs3_3l8.length cybs3_3l8] 26), .blk bs2 (.cells #[.int .i64 0, .int .i64 0, sv ([] : Bs), .slice none 0 0] 26)]) (econs (congrArg (fun l : List Value => Ent.blk bxr (.cells ⟨l⟩ 53)) (lcons (congrArg (fun l : List (Int × Bs × Bs × Int) => Value.slice a24_0 l.length c24_0) ((if_f hc23).symm)) (lcons (congrArg (Value.int .i64) ((if_f hc23).symm)) (lcons (congrArg (Value.bool) ((if_f hc23).symm)) rfl)))) (econs (rfl) (econs (rfl) rfl))) ?_))))
      exact fun a W hA hW => ⟨g24, (hx22.trans hx24), a24_0, c24_0, (Eq.mp (congrArg (fun l : List (Int × Bs × Bs × Int) => Rep g24 (.slice (.pair (.int .i64) (.pair (.str) (.pair (.str) (.int .i64))))) [.slice a24_0 l.length c24_0] l) ((if_f hc23).symm)) hR24_0), hA.sub (by kernel_rfl), hW, hF⟩
     ·replace hF := hF.2 hc25
      refine Ok.seq (Ok.region (Ok.op rfl (OpOk.step (v := .agg #[.int .i64 ybs3_0l8, .int .i64 ybs3_1l8, sv ybs3_2l8, .slice aybs3_3l8 ybs3_3l8.length cybs3_3l8]) (Yields.loadAgg 1 4 #[.int .i64 ybs3_0l8, .int .i64 ybs3_1l8, sv ybs3_2l8, .slice aybs3_3l8 ybs3_3l8.length cybs3_3l8] rfl rfl Tryz.underlying26 rfl (by kernel_rfl) (by kernel_rfl) (by kernel_rfl)) rfl rfl (Ok.op rfl (OpOk.sto (k := 4) (v := .agg #[.int .i64 ybs3_0l8, .int .i64 ybs3_1l8, sv ybs3_2l8, .slice aybs3_3l8 ybs3_3l8.length cybs3_3l8]) 2 #[.int .i64 ybs3_0l8, .int .i64 ybs3_1l8, sv ybs3_2l8, .slice aybs3_3l8 ybs3_3l8.length cybs3_3l8] rfl rfl rfl ?_)))))
      refine Ok.nil (Ok.thenN (Ok.ret (Ok.blockR (Ok.thenR (Ok.blockR (Ok.thenR (Ok.blockR ?_)))))))
      exact Ok.resP (vs := [.agg #[.int .i64 ybs3_0l8, .int .i64 ybs3_1l8, sv ybs3_2l8, .slice aybs3_3l8 ybs3_3l8.length cybs3_3l8]]) [0] [.blk bxr (.cells #[.slice a24_0 ((rwS (rwS ((gapS (ybxr_0l8, ybxr_1l8, ybxr_2l8)).2.1, (gapS (ybxr_0l8, ybxr_1l8, ybxr_2l8)).2.2.1, (gapS (ybxr_0l8, ybxr_1l8, ybxr_2l8)).1) ([42] : Bs)).2 ([47] : Bs)).2.1).length c24_0, .int .i64 (rwS (rwS ((gapS (ybxr_0l8, ybxr_1l8, ybxr_2l8)).2.1, (gapS (ybxr_0l8, ybxr_1l8, ybxr_2l8)).2.2.1, (gapS (ybxr_0l8, ybxr_1l8, ybxr_2l8)).1) ([42] : Bs)).2 ([47] : Bs)).2.2.1, .bool (rwS (rwS ((gapS (ybxr_0l8, ybxr_1l8, ybxr_2l8)).2.1, (gapS (ybxr_0l8, ybxr_1l8, ybxr_2l8)).2.2.1, (gapS (ybxr_0l8, ybxr_1l8, ybxr_2l8)).1) ([42] : Bs)).2 ([47] : Bs)).2.2.2] 53)] (by decide) rfl (.inl rfl) rfl (.cons (.cellAgg 2 4 #[.int .i64 ybs3_0l8, .int .i64 ybs3_1l8, sv ybs3_2l8, .slice aybs3_3l8 ybs3_3l8.length cybs3_3l8] rfl rfl Tryz.underlying26 rfl (by kernel_rfl) (by kernel_rfl) (by kernel_rfl)) .nil) (((((hx2.trans hx4).trans hxl8).trans hx6).trans hx22).trans hx24) ⟨(Tree.mk (ybs3_0l8, (ybs3_1l8, ybs3_2l8)) ybs3_3l8), (rwS ((rwS ((gapS (ybxr_0l8, ybxr_1l8, ybxr_2l8)).2.1, (gapS (ybxr_0l8, ybxr_1l8, ybxr_2l8)).2.2.1, (gapS (ybxr_0l8, ybxr_1l8, ybxr_2l8)).1) ([42] : Bs)).2.1, (rwS ((gapS (ybxr_0l8, ybxr_1l8, ybxr_2l8)).2.1, (gapS (ybxr_0l8, ybxr_1l8, ybxr_2l8)).2.2.1, (gapS (ybxr_0l8, ybxr_1l8, ybxr_2l8)).1) ([42] : Bs)).2.2.1, (rwS ((gapS (ybxr_0l8, ybxr_1l8, ybxr_2l8)).2.1, (gapS (ybxr_0l8, ybxr_1l8, ybxr_2l8)).2.2.1, (gapS (ybxr_0l8, ybxr_1l8, ybxr_2l8)).1) ([42] : Bs)).2.2.2) ([47] : Bs)).2, aybs3_3l8, cybs3_3l8, a24_0, c24_0, rfl, hRybs3_3l8, hR24_0, rfl, hF⟩
   ·
    clear hF
    rintro a W ⟨gj14, hxj14, aybxr_0j14, cybxr_0j14, hRybxr_0j14, hA, hW, hF⟩
    refine (?_ : Ok _ _ _ _ _ _) a W hA hW
    clear hA hW
    replace hRybs3_3l8 := hRybs3_3l8.mono hxj14.1
    replace hG0 := hG0.mono hxj14.1
    replace hG1 := hG1.mono hxj14.1
    refine Ok.seq (Ok.region (Ok.bat 1 [0, 2, 3, 4] [(21, pv bxr 0)] ?_))
    refine Ok.op rfl (OpOk.callH [_] _ enr rfl (gap_c ((prdV5 ybxr_0l8 ybxr_1l8 ybxr_2l8), (prdV6 ybxr_0l8 ybxr_1l8 ybxr_2l8), (prdV7 ybxr_0l8 ybxr_1l8 ybxr_2l8)) hRybxr_0j14) rfl fun g7 _ _ hx7 hV7 => ?_)
    obtain ⟨a7_0, c7_0, rfl, hR7_0, rfl⟩ := hV7
    replace hRybs3_3l8 := hRybs3_3l8.mono hx7.1
    replace hG0 := hG0.mono hx7.1
    replace hG1 := hG1.mono hx7.1
    refine Ok.nil (Ok.thenN (Ok.fork [] [] [.blk bs2 (.cells #[.int .i64 0, .int .i64 0, sv ([] : Bs), .slice none 0 0] 26)] [(0, true), (1, true), (3, true)] 2 [(4, false), (5, false), (6, true), (7, false), (8, false)] 4 [(2, false), (5, false), (6, true), (7, false), (8, false)] (by kernel_rfl) (by kernel_rfl) (.cons _ (.cons _ (.cons_cons _ .slnil))) (OkM.bat 3 [0, 2, 3] [(23, pv bxr 0), (24, .int .i64 (prdV4 ybxr_0l8 ybxr_1l8 ybxr_2l8)), (26, pv bxr 0)] ?_)))
    refine OkM.nil (Ok.both ?_ ?_)
    ·replace hF := hF.1
     refine OkM.tail rfl rfl (OpOk.step (v := .agg #[.int .i64 ybs3_0l8, .int .i64 ybs3_1l8, sv ybs3_2l8, .slice aybs3_3l8 ybs3_3l8.length cybs3_3l8]) (Yields.loadAgg 1 4 #[.int .i64 ybs3_0l8, .int .i64 ybs3_1l8, sv ybs3_2l8, .slice aybs3_3l8 ybs3_3l8.length cybs3_3l8] rfl rfl Tryz.underlying26 rfl (by kernel_rfl) (by kernel_rfl) (by kernel_rfl)) rfl rfl (OkM.leaf (i := 2) (show _ = [.blk bs2 (.cells #[.int .i64 0, .int .i64 0, sv ([] : Bs), .slice none 0 0] 26)] from rfl) (Gle.refl _) (.cons _ (.cons _ (.cons_cons _ .slnil))) ?_))
     obtain ⟨hp8, hF⟩ := hF
     refine OkM.tail rfl rfl (OpOk.callH [_] _ enr rfl (val_c (gapS ((prdV5 ybxr_0l8 ybxr_1l8 ybxr_2l8), (prdV6 ybxr_0l8 ybxr_1l8 ybxr_2l8), (prdV7 ybxr_0l8 ybxr_1l8 ybxr_2l8))).2 true hR7_0 hG0 hG1 hp8) rfl fun g9 _ _ hx9 hV9 => ?_)
     obtain ⟨a9_0, c9_0, a9_2, c9_2, rfl, hR9_0, hR9_2, rfl⟩ := hV9
     replace hRybs3_3l8 := hRybs3_3l8.mono hx9.1
     replace hG0 := hG0.mono hx9.1
     replace hG1 := hG1.mono hx9.1
     refine OkM.leaf (i := 4) (show _ = [.blk bs2 (.cells #[.int .i64 0, .int .i64 0, sv ([] : Bs), .slice none 0 0] 26)] from rfl) hx9.1 (.cons _ (.cons _ (.cons_cons _ .slnil))) ?_
     have hL10 : RepL g9 (.tree (.pair (.int .i64) (.pair (.int .i64) (.str)))) ([.int .i64 ybs3_0l8, .int .i64 ybs3_1l8, sv ybs3_2l8, .slice aybs3_3l8 ybs3_3l8.length cybs3_3l8, .int .i64 (((numR (gapS ((prdV5 ybxr_0l8 ybxr_1l8 ybxr_2l8), (prdV6 ybxr_0l8 ybxr_1l8 ybxr_2l8), (prdV7 ybxr_0l8 ybxr_1l8 ybxr_2l8))).2 true).1).lab.1), .int .i64 (((numR (gapS ((prdV5 ybxr_0l8 ybxr_1l8 ybxr_2l8), (prdV6 ybxr_0l8 ybxr_1l8 ybxr_2l8), (prdV7 ybxr_0l8 ybxr_1l8 ybxr_2l8))).2 true).1).lab.2).1, sv ((((numR (gapS ((prdV5 ybxr_0l8 ybxr_1l8 ybxr_2l8), (prdV6 ybxr_0l8 ybxr_1l8 ybxr_2l8), (prdV7 ybxr_0l8 ybxr_1l8 ybxr_2l8))).2 true).1).lab.2).2), .slice a9_0 (((numR (gapS ((prdV5 ybxr_0l8 ybxr_1l8 ybxr_2l8), (prdV6 ybxr_0l8 ybxr_1l8 ybxr_2l8), (prdV7 ybxr_0l8 ybxr_1l8 ybxr_2l8))).2 true).1).kids).length c9_0] : List Value) ([(Tree.mk (ybs3_0l8, (ybs3_1l8, ybs3_2l8)) ybs3_3l8), (numR (gapS ((prdV5 ybxr_0l8 ybxr_1l8 ybxr_2l8), (prdV6 ybxr_0l8 ybxr_1l8 ybxr_2l8), (prdV7 ybxr_0l8 ybxr_1l8 ybxr_2l8))).2 true).1] : List (Tree (Int × Int × Bs))) := (RepL.consN (c := [.int .i64 ybs3_0l8, .int .i64 ybs3_1l8, sv ybs3_2l8, .slice aybs3_3l8 ybs3_3l8.length cybs3_3l8]) (Rep.tree.2 ⟨[.int .i64 ybs3_0l8, .int .i64 ybs3_1l8, sv ybs3_2l8], [.slice aybs3_3l8 ybs3_3l8.length cybs3_3l8], rfl, ⟨[.int .i64 ybs3_0l8], [.int .i64 ybs3_1l8, sv ybs3_2l8], rfl, rfl, ⟨[.int .i64 ybs3_1l8], [sv ybs3_2l8], rfl, rfl, rfl⟩⟩, hRybs3_3l8⟩) (RepL.consN (c := [.int .i64 (((numR (gapS ((prdV5 ybxr_0l8 ybxr_1l8 ybxr_2l8), (prdV6 ybxr_0l8 ybxr_1l8 ybxr_2l8), (prdV7 ybxr_0l8 ybxr_1l8 ybxr_2l8))).2 true).1).lab.1), .int .i64 (((numR (gapS ((prdV5 ybxr_0l8 ybxr_1l8 ybxr_2l8), (prdV6 ybxr_0l8 ybxr_1l8 ybxr_2l8), (prdV7 ybxr_0l8 ybxr_1l8 ybxr_2l8))).2 true).1).lab.2).1, sv ((((numR (gapS ((prdV5 ybxr_0l8 ybxr_1l8 ybxr_2l8), (prdV6 ybxr_0l8 ybxr_1l8 ybxr_2l8), (prdV7 ybxr_0l8 ybxr_1l8 ybxr_2l8))).2 true).1).lab.2).2), .slice a9_0 (((numR (gapS ((prdV5 ybxr_0l8 ybxr_1l8 ybxr_2l8), (prdV6 ybxr_0l8 ybxr_1l8 ybxr_2l8), (prdV7 ybxr_0l8 ybxr_1l8 ybxr_2l8))).2 true).1).kids).length c9_0]) (Rep.tree.2 ⟨[.int .i64 (((numR (gapS ((prdV5 ybxr_0l8 ybxr_1l8 ybxr_2l8), (prdV6 ybxr_0l8 ybxr_1l8 ybxr_2l8), (prdV7 ybxr_0l8 ybxr_1l8 ybxr_2l8))).2 true).1).lab.1), .int .i64 (((numR (gapS ((prdV5 ybxr_0l8 ybxr_1l8 ybxr_2l8), (prdV6 ybxr_0l8 ybxr_1l8 ybxr_2l8), (prdV7 ybxr_0l8 ybxr_1l8 ybxr_2l8))).2 true).1).lab.2).1, sv ((((numR (gapS ((prdV5 ybxr_0l8 ybxr_1l8 ybxr_2l8), (prdV6 ybxr_0l8 ybxr_1l8 ybxr_2l8), (prdV7 ybxr_0l8 ybxr_1l8 ybxr_2l8))).2 true).1).lab.2).2)], [.slice a9_0 (((numR (gapS ((prdV5 ybxr_0l8 ybxr_1l8 ybxr_2l8), (prdV6 ybxr_0l8 ybxr_1l8 ybxr_2l8), (prdV7 ybxr_0l8 ybxr_1l8 ybxr_2l8))).2 true).1).kids).length c9_0], rfl, ⟨[.int .i64 (((numR (gapS ((prdV5 ybxr_0l8 ybxr_1l8 ybxr_2l8), (prdV6 ybxr_0l8 ybxr_1l8 ybxr_2l8), (prdV7 ybxr_0l8 ybxr_1l8 ybxr_2l8))).2 true).1).lab.1)], [.int .i64 (((numR (gapS ((prdV5 ybxr_0l8 ybxr_1l8 ybxr_2l8), (prdV6 ybxr_0l8 ybxr_1l8 ybxr_2l8), (prdV7 ybxr_0l8 ybxr_1l8 ybxr_2l8))).2 true).1).lab.2).1, sv ((((numR (gapS ((prdV5 ybxr_0l8 ybxr_1l8 ybxr_2l8), (prdV6 ybxr_0l8 ybxr_1l8 ybxr_2l8), (prdV7 ybxr_0l8 ybxr_1l8 ybxr_2l8))).2 true).1).lab.2).2)], rfl, rfl, ⟨[.int .i64 (((numR (gapS ((prdV5 ybxr_0l8 ybxr_1l8 ybxr_2l8), (prdV6 ybxr_0l8 ybxr_1l8 ybxr_2l8), (prdV7 ybxr_0l8 ybxr_1l8 ybxr_2l8))).2 true).1).lab.2).1], [sv ((((numR (gapS ((prdV5 ybxr_0l8 ybxr_1l8 ybxr_2l8), (prdV6 ybxr_0l8 ybxr_1l8 ybxr_2l8), (prdV7 ybxr_0l8 ybxr_1l8 ybxr_2l8))).2 true).1).lab.2).2)], rfl, rfl, rfl⟩⟩, hR9_0⟩) rfl))
     refine OkM.tail rfl rfl (OpOk.lit (E := 26) (.tree (.pair (.int .i64) (.pair (.int .i64) (.str)))) ([(Tree.mk (ybs3_0l8, (ybs3_1l8, ybs3_2l8)) ybs3_3l8), (numR (gapS ((prdV5 ybxr_0l8 ybxr_1l8 ybxr_2l8), (prdV6 ybxr_0l8 ybxr_1l8 ybxr_2l8), (prdV7 ybxr_0l8 ybxr_1l8 ybxr_2l8))).2 true).1] : List (Tree (Int × Int × Bs))) ([.int .i64 ybs3_0l8, .int .i64 ybs3_1l8, sv ybs3_2l8, .slice aybs3_3l8 ybs3_3l8.length cybs3_3l8, .int .i64 (((numR (gapS ((prdV5 ybxr_0l8 ybxr_1l8 ybxr_2l8), (prdV6 ybxr_0l8 ybxr_1l8 ybxr_2l8), (prdV7 ybxr_0l8 ybxr_1l8 ybxr_2l8))).2 true).1).lab.1), .int .i64 (((numR (gapS ((prdV5 ybxr_0l8 ybxr_1l8 ybxr_2l8), (prdV6 ybxr_0l8 ybxr_1l8 ybxr_2l8), (prdV7 ybxr_0l8 ybxr_1l8 ybxr_2l8))).2 true).1).lab.2).1, sv ((((numR (gapS ((prdV5 ybxr_0l8 ybxr_1l8 ybxr_2l8), (prdV6 ybxr_0l8 ybxr_1l8 ybxr_2l8), (prdV7 ybxr_0l8 ybxr_1l8 ybxr_2l8))).2 true).1).lab.2).2), .slice a9_0 (((numR (gapS ((prdV5 ybxr_0l8 ybxr_1l8 ybxr_2l8), (prdV6 ybxr_0l8 ybxr_1l8 ybxr_2l8), (prdV7 ybxr_0l8 ybxr_1l8 ybxr_2l8))).2 true).1).kids).length c9_0] : List Value) (by kernel_rfl) (by kernel_rfl) rfl (by kernel_rfl) hL10 rfl fun b10 => ?_)
     refine OkM.leaf (i := 5) (show _ = [.blk bs2 (.cells #[.int .i64 0, .int .i64 0, sv ([] : Bs), .slice none 0 0] 26)] from rfl) hx9.1 (.cons _ (.cons _ (.cons _ (.cons_cons _ .slnil)))) (OkM.bat 1 [0, 2, 3, 23] [(29, .agg #[.int .i64 (prdV4 ybxr_0l8 ybxr_1l8 ybxr_2l8), .int .i64 0, sv ([] : Bs), .slice (some ⟨b10, 0, none⟩) ([(Tree.mk (ybs3_0l8, (ybs3_1l8, ybs3_2l8)) ybs3_3l8), (numR (gapS ((prdV5 ybxr_0l8 ybxr_1l8 ybxr_2l8), (prdV6 ybxr_0l8 ybxr_1l8 ybxr_2l8), (prdV7 ybxr_0l8 ybxr_1l8 ybxr_2l8))).2 true).1] : List (Tree (Int × Int × Bs))).length 2])] ?_)
     refine OkM.tail rfl rfl (OpOk.inline (args := #[pv bxr 0, .agg #[.int .i64 (prdV4 ybxr_0l8 ybxr_1l8 ybxr_2l8), .int .i64 0, sv ([] : Bs), .slice (some ⟨b10, 0, none⟩) ([(Tree.mk (ybs3_0l8, (ybs3_1l8, ybs3_2l8)) ybs3_3l8), (numR (gapS ((prdV5 ybxr_0l8 ybxr_1l8 ybxr_2l8), (prdV6 ybxr_0l8 ybxr_1l8 ybxr_2l8), (prdV7 ybxr_0l8 ybxr_1l8 ybxr_2l8))).2 true).1] : List (Tree (Int × Int × Bs))).length 2]]) 20 [(0, pv bxr 0), (1, .agg #[.int .i64 (prdV4 ybxr_0l8 ybxr_1l8 ybxr_2l8), .int .i64 0, sv ([] : Bs), .slice (some ⟨b10, 0, none⟩) ([(Tree.mk (ybs3_0l8, (ybs3_1l8, ybs3_2l8)) ybs3_3l8), (numR (gapS ((prdV5 ybxr_0l8 ybxr_1l8 ybxr_2l8), (prdV6 ybxr_0l8 ybxr_1l8 ybxr_2l8), (prdV7 ybxr_0l8 ybxr_1l8 ybxr_2l8))).2 true).1] : List (Tree (Int × Int × Bs))).length 2])] enr Tryz.func35 rfl rfl rfl rfl (Ok.seq (Ok.region (Ok.op rfl (OpOk.box (v := .agg #[.int .i64 (prdV4 ybxr_0l8 ybxr_1l8 ybxr_2l8), .int .i64 0, sv ([] : Bs), .slice (some ⟨b10, 0, none⟩) ([(Tree.mk (ybs3_0l8, (ybs3_1l8, ybs3_2l8)) ybs3_3l8), (numR (gapS ((prdV5 ybxr_0l8 ybxr_1l8 ybxr_2l8), (prdV6 ybxr_0l8 ybxr_1l8 ybxr_2l8), (prdV7 ybxr_0l8 ybxr_1l8 ybxr_2l8))).2 true).1] : List (Tree (Int × Int × Bs))).length 2]) (cs := #[.int .i64 (prdV4 ybxr_0l8 ybxr_1l8 ybxr_2l8), .int .i64 0, sv ([] : Bs), .slice (some ⟨b10, 0, none⟩) ([(Tree.mk (ybs3_0l8, (ybs3_1l8, ybs3_2l8)) ybs3_3l8), (numR (gapS ((prdV5 ybxr_0l8 ybxr_1l8 ybxr_2l8), (prdV6 ybxr_0l8 ybxr_1l8 ybxr_2l8), (prdV7 ybxr_0l8 ybxr_1l8 ybxr_2l8))).2 true).1] : List (Tree (Int × Int × Bs))).length 2]) rfl (by kernel_rfl) rfl fun bs3i30 => ?_)))))
     refine Ok.op rfl (OpOk.alloc (z := .agg #[.int .i64 0, .int .i64 0, sv ([] : Bs), .slice none 0 0]) (cs := #[.int .i64 0, .int .i64 0, sv ([] : Bs), .slice none 0 0]) (by kernel_rfl) (by kernel_rfl) rfl fun bs4i30 => ?_)
     refine Ok.nil (Ok.frz 2 rfl hL10 fun g13 hx13 hRf13 => ?_)
     replace hR9_2 := hR9_2.mono hx13.1
     replace hRybs3_3l8 := hRybs3_3l8.mono hx13.1
     replace hG0 := hG0.mono hx13.1
     replace hG1 := hG1.mono hx13.1
     refine Ok.thenN (Ok.seq (Ok.seq (Ok.region (Ok.bat 3 [0] [(3, pv bs3i30 0), (4, pv bs4i30 0), (5, pv bxr 0), (7, pv bxr 1)] ?_))))
     refine Ok.op rfl (OpOk.step (v := .int .i64 (numR (gapS ((prdV5 ybxr_0l8 ybxr_1l8 ybxr_2l8), (prdV6 ybxr_0l8 ybxr_1l8 ybxr_2l8), (prdV7 ybxr_0l8 ybxr_1l8 ybxr_2l8))).2 true).2.2.1) (Yields.load 2 rfl rfl Tryz.underlying3 rfl (by kernel_rfl)) rfl rfl (Ok.bat 3 [0, 3, 4] [(9, .int .i64 (w6 ((numR (gapS ((prdV5 ybxr_0l8 ybxr_1l8 ybxr_2l8), (prdV6 ybxr_0l8 ybxr_1l8 ybxr_2l8), (prdV7 ybxr_0l8 ybxr_1l8 ybxr_2l8))).2 true).2.2.1 + 1))), (11, pv bxr 1)] ?_))
     refine Ok.op rfl (OpOk.sto (k := 1) (v := .int .i64 (w6 ((numR (gapS ((prdV5 ybxr_0l8 ybxr_1l8 ybxr_2l8), (prdV6 ybxr_0l8 ybxr_1l8 ybxr_2l8), (prdV7 ybxr_0l8 ybxr_1l8 ybxr_2l8))).2 true).2.2.1 + 1))) 2 #[.slice a9_2 ((numR (gapS ((prdV5 ybxr_0l8 ybxr_1l8 ybxr_2l8), (prdV6 ybxr_0l8 ybxr_1l8 ybxr_2l8), (prdV7 ybxr_0l8 ybxr_1l8 ybxr_2l8))).2 true).2.1).length c9_2, .int .i64 (w6 ((numR (gapS ((prdV5 ybxr_0l8 ybxr_1l8 ybxr_2l8), (prdV6 ybxr_0l8 ybxr_1l8 ybxr_2l8), (prdV7 ybxr_0l8 ybxr_1l8 ybxr_2l8))).2 true).2.2.1 + 1)), .bool (numR (gapS ((prdV5 ybxr_0l8 ybxr_1l8 ybxr_2l8), (prdV6 ybxr_0l8 ybxr_1l8 ybxr_2l8), (prdV7 ybxr_0l8 ybxr_1l8 ybxr_2l8))).2 true).2.2.2] rfl rfl rfl ?_)
     refine Ok.nil (Ok.thenN (Ok.seq (Ok.region (Ok.bat 3 [3, 4] [(14, pv bxr 1)] ?_))))
     refine Ok.op rfl (OpOk.step (v := .int .i64 (w6 ((numR (gapS ((prdV5 ybxr_0l8 ybxr_1l8 ybxr_2l8), (prdV6 ybxr_0l8 ybxr_1l8 ybxr_2l8), (prdV7 ybxr_0l8 ybxr_1l8 ybxr_2l8))).2 true).2.2.1 + 1))) (Yields.load 2 rfl rfl Tryz.underlying3 rfl (by kernel_rfl)) rfl rfl (Ok.bat 1 [3, 4] [(16, .bool (decide ((w6 ((numR (gapS ((prdV5 ybxr_0l8 ybxr_1l8 ybxr_2l8), (prdV6 ybxr_0l8 ybxr_1l8 ybxr_2l8), (prdV7 ybxr_0l8 ybxr_1l8 ybxr_2l8))).2 true).2.2.1 + 1)) > 30)))] ?_))
     refine Ok.nil (Ok.thenN (Ok.cond (b := decide ((w6 ((numR (gapS ((prdV5 ybxr_0l8 ybxr_1l8 ybxr_2l8), (prdV6 ybxr_0l8 ybxr_1l8 ybxr_2l8), (prdV7 ybxr_0l8 ybxr_1l8 ybxr_2l8))).2 true).2.2.1 + 1)) > 30)) rfl (fun hc14 => ?_) (fun hc14 => ?_)))
     ·replace hF := hF.1 hc14
      exact False.elim hF
     ·replace hF := hF.2 hc14
      refine Ok.skip (Ok.thenN (Ok.seq (Ok.region (Ok.op rfl (OpOk.step (v := .agg #[.int .i64 (prdV4 ybxr_0l8 ybxr_1l8 ybxr_2l8), .int .i64 0, sv ([] : Bs), .slice (some ⟨b10, 0, none⟩) ([(Tree.mk (ybs3_0l8, (ybs3_1l8, ybs3_2l8)) ybs3_3l8), (numR (gapS ((prdV5 ybxr_0l8 ybxr_1l8 ybxr_2l8), (prdV6 ybxr_0l8 ybxr_1l8 ybxr_2l8), (prdV7 ybxr_0l8 ybxr_1l8 ybxr_2l8))).2 true).1] : List (Tree (Int × Int × Bs))).length 2]) (Yields.loadAgg 1 4 #[.int .i64 (prdV4 ybxr_0l8 ybxr_1l8 ybxr_2l8), .int .i64 0, sv ([] : Bs), .slice (some ⟨b10, 0, none⟩) ([(Tree.mk (ybs3_0l8, (ybs3_1l8, ybs3_2l8)) ybs3_3l8), (numR (gapS ((prdV5 ybxr_0l8 ybxr_1l8 ybxr_2l8), (prdV6 ybxr_0l8 ybxr_1l8 ybxr_2l8), (prdV7 ybxr_0l8 ybxr_1l8 ybxr_2l8))).2 true).1] : List (Tree (Int × Int × Bs))).length 2] rfl rfl Tryz.underlying26 rfl (by kernel_rfl) (by kernel_rfl) (by kernel_rfl)) rfl rfl (Ok.op rfl (OpOk.sto (k := 4) (v := .agg #[.int .i64 (prdV4 ybxr_0l8 ybxr_1l8 ybxr_2l8), .int .i64 0, sv ([] : Bs), .slice (some ⟨b10, 0, none⟩) ([(Tree.mk (ybs3_0l8, (ybs3_1l8, ybs3_2l8)) ybs3_3l8), (numR (gapS ((prdV5 ybxr_0l8 ybxr_1l8 ybxr_2l8), (prdV6 ybxr_0l8 ybxr_1l8 ybxr_2l8), (prdV7 ybxr_0l8 ybxr_1l8 ybxr_2l8))).2 true).1] : List (Tree (Int × Int × Bs))).length 2]) 0 #[.int .i64 (prdV4 ybxr_0l8 ybxr_1l8 ybxr_2l8), .int .i64 0, sv ([] : Bs), .slice (some ⟨b10, 0, none⟩) ([(Tree.mk (ybs3_0l8, (ybs3_1l8, ybs3_2l8)) ybs3_3l8), (numR (gapS ((prdV5 ybxr_0l8 ybxr_1l8 ybxr_2l8), (prdV6 ybxr_0l8 ybxr_1l8 ybxr_2l8), (prdV7 ybxr_0l8 ybxr_1l8 ybxr_2l8))).2 true).1] : List (Tree (Int × Int × Bs))).length 2] rfl rfl rfl ?_)))))))
      refine Ok.nil (Ok.thenN (Ok.ret (Ok.back (vs := [.agg #[.int .i64 (prdV4 ybxr_0l8 ybxr_1l8 ybxr_2l8), .int .i64 0, sv ([] : Bs), .slice (some ⟨b10, 0, none⟩) ([(Tree.mk (ybs3_0l8, (ybs3_1l8, ybs3_2l8)) ybs3_3l8), (numR (gapS ((prdV5 ybxr_0l8 ybxr_1l8 ybxr_2l8), (prdV6 ybxr_0l8 ybxr_1l8 ybxr_2l8), (prdV7 ybxr_0l8 ybxr_1l8 ybxr_2l8))).2 true).1] : List (Tree (Int × Int × Bs))).length 2]]) (.inl rfl) rfl (.cons (.cellAgg 0 4 #[.int .i64 (prdV4 ybxr_0l8 ybxr_1l8 ybxr_2l8), .int .i64 0, sv ([] : Bs), .slice (some ⟨b10, 0, none⟩) ([(Tree.mk (ybs3_0l8, (ybs3_1l8, ybs3_2l8)) ybs3_3l8), (numR (gapS ((prdV5 ybxr_0l8 ybxr_1l8 ybxr_2l8), (prdV6 ybxr_0l8 ybxr_1l8 ybxr_2l8), (prdV7 ybxr_0l8 ybxr_1l8 ybxr_2l8))).2 true).1] : List (Tree (Int × Int × Bs))).length 2] rfl rfl Tryz.underlying26 rfl (by kernel_rfl) (by kernel_rfl) (by kernel_rfl)) .nil) rfl (OkM.leaf (i := 7) (show _ = [.blk bs2 (.cells #[.int .i64 0, .int .i64 0, sv ([] : Bs), .slice none 0 0] 26)] from rfl) (hx9.trans hx13).1 (.cons _ (.cons _ (.cons _ (.cons _ (.cons_cons _ .slnil))))) (OkM.tail rfl rfl (OpOk.sto (k := 4) (v := .agg #[.int .i64 (prdV4 ybxr_0l8 ybxr_1l8 ybxr_2l8), .int .i64 0, sv ([] : Bs), .slice (some ⟨b10, 0, none⟩) ([(Tree.mk (ybs3_0l8, (ybs3_1l8, ybs3_2l8)) ybs3_3l8), (numR (gapS ((prdV5 ybxr_0l8 ybxr_1l8 ybxr_2l8), (prdV6 ybxr_0l8 ybxr_1l8 ybxr_2l8), (prdV7 ybxr_0l8 ybxr_1l8 ybxr_2l8))).2 true).1] : List (Tree (Int × Int × Bs))).length 2]) 3 #[.int .i64 (prdV4 ybxr_0l8 ybxr_1l8 ybxr_2l8), .int .i64 0, sv ([] : Bs), .slice (some ⟨b10, 0, none⟩) ([(Tree.mk (ybs3_0l8, (ybs3_1l8, ybs3_2l8)) ybs3_3l8), (numR (gapS ((prdV5 ybxr_0l8 ybxr_1l8 ybxr_2l8), (prdV6 ybxr_0l8 ybxr_1l8 ybxr_2l8), (prdV7 ybxr_0l8 ybxr_1l8 ybxr_2l8))).2 true).1] : List (Tree (Int × Int × Bs))).length 2] rfl rfl rfl ?_))))))
      refine OkM.leaf (i := 8) (show _ = [.blk bs2 (.cells #[.int .i64 0, .int .i64 0, sv ([] : Bs), .slice none 0 0] 26)] from rfl) (hx9.trans hx13).1 (.cons _ (.cons _ (.cons _ (.cons _ (.cons_cons _ .slnil))))) (OkM.nil (Ok.blockN (Ok.thenN ?_)))
      exact fun a W hA hW => ⟨k8, Nat.lt_succ_self _, g13, (((((hxl8.trans hx6).trans hxj14).trans hx7).trans hx9).trans hx13), (prdV4 ybxr_0l8 ybxr_1l8 ybxr_2l8), 0, ([] : Bs), (some ⟨b10, 0, none⟩), 2, ([(Tree.mk (ybs3_0l8, (ybs3_1l8, ybs3_2l8)) ybs3_3l8), (numR (gapS ((prdV5 ybxr_0l8 ybxr_1l8 ybxr_2l8), (prdV6 ybxr_0l8 ybxr_1l8 ybxr_2l8), (prdV7 ybxr_0l8 ybxr_1l8 ybxr_2l8))).2 true).1] : List (Tree (Int × Int × Bs))), a9_2, c9_2, (numR (gapS ((prdV5 ybxr_0l8 ybxr_1l8 ybxr_2l8), (prdV6 ybxr_0l8 ybxr_1l8 ybxr_2l8), (prdV7 ybxr_0l8 ybxr_1l8 ybxr_2l8))).2 true).2.1, w6 ((numR (gapS ((prdV5 ybxr_0l8 ybxr_1l8 ybxr_2l8), (prdV6 ybxr_0l8 ybxr_1l8 ybxr_2l8), (prdV7 ybxr_0l8 ybxr_1l8 ybxr_2l8))).2 true).2.2.1 + 1), (numR (gapS ((prdV5 ybxr_0l8 ybxr_1l8 ybxr_2l8), (prdV6 ybxr_0l8 ybxr_1l8 ybxr_2l8), (prdV7 ybxr_0l8 ybxr_1l8 ybxr_2l8))).2 true).2.2.2, hRf13, hR9_2, hA.sub (by kernel_rfl), hW.pick [3, 2, 4] _ (by decide) rfl, hF⟩
    ·replace hF := hF.2
     obtain ⟨hp15, hF⟩ := hF
     refine OkM.tail rfl rfl (OpOk.callH [_] _ enr rfl (val_c (gapS ((prdV5 ybxr_0l8 ybxr_1l8 ybxr_2l8), (prdV6 ybxr_0l8 ybxr_1l8 ybxr_2l8), (prdV7 ybxr_0l8 ybxr_1l8 ybxr_2l8))).2 true hR7_0 hG0 hG1 hp15) rfl fun g16 _ _ hx16 hV16 => ?_)
     obtain ⟨a16_0, c16_0, a16_2, c16_2, rfl, hR16_0, hR16_2, rfl⟩ := hV16
     replace hRybs3_3l8 := hRybs3_3l8.mono hx16.1
     replace hG0 := hG0.mono hx16.1
     replace hG1 := hG1.mono hx16.1
     refine OkM.leaf (i := 4) (show _ = [.blk bs2 (.cells #[.int .i64 0, .int .i64 0, sv ([] : Bs), .slice none 0 0] 26)] from rfl) hx16.1 (.cons _ (.cons _ (.cons_cons _ .slnil))) (OkM.tail rfl rfl (OpOk.step (v := .agg #[.int .i64 ybs3_0l8, .int .i64 ybs3_1l8, sv ybs3_2l8, .slice aybs3_3l8 ybs3_3l8.length cybs3_3l8]) (Yields.loadAgg 1 4 #[.int .i64 ybs3_0l8, .int .i64 ybs3_1l8, sv ybs3_2l8, .slice aybs3_3l8 ybs3_3l8.length cybs3_3l8] rfl rfl Tryz.underlying26 rfl (by kernel_rfl) (by kernel_rfl) (by kernel_rfl)) rfl rfl (OkM.leaf (i := 2) (show _ = [.blk bs2 (.cells #[.int .i64 0, .int .i64 0, sv ([] : Bs), .slice none 0 0] 26)] from rfl) hx16.1 (.cons _ (.cons _ (.cons_cons _ .slnil))) ?_)))
     have hL17 : RepL g16 (.tree (.pair (.int .i64) (.pair (.int .i64) (.str)))) ([.int .i64 ybs3_0l8, .int .i64 ybs3_1l8, sv ybs3_2l8, .slice aybs3_3l8 ybs3_3l8.length cybs3_3l8, .int .i64 (((numR (gapS ((prdV5 ybxr_0l8 ybxr_1l8 ybxr_2l8), (prdV6 ybxr_0l8 ybxr_1l8 ybxr_2l8), (prdV7 ybxr_0l8 ybxr_1l8 ybxr_2l8))).2 true).1).lab.1), .int .i64 (((numR (gapS ((prdV5 ybxr_0l8 ybxr_1l8 ybxr_2l8), (prdV6 ybxr_0l8 ybxr_1l8 ybxr_2l8), (prdV7 ybxr_0l8 ybxr_1l8 ybxr_2l8))).2 true).1).lab.2).1, sv ((((numR (gapS ((prdV5 ybxr_0l8 ybxr_1l8 ybxr_2l8), (prdV6 ybxr_0l8 ybxr_1l8 ybxr_2l8), (prdV7 ybxr_0l8 ybxr_1l8 ybxr_2l8))).2 true).1).lab.2).2), .slice a16_0 (((numR (gapS ((prdV5 ybxr_0l8 ybxr_1l8 ybxr_2l8), (prdV6 ybxr_0l8 ybxr_1l8 ybxr_2l8), (prdV7 ybxr_0l8 ybxr_1l8 ybxr_2l8))).2 true).1).kids).length c16_0] : List Value) ([(Tree.mk (ybs3_0l8, (ybs3_1l8, ybs3_2l8)) ybs3_3l8), (numR (gapS ((prdV5 ybxr_0l8 ybxr_1l8 ybxr_2l8), (prdV6 ybxr_0l8 ybxr_1l8 ybxr_2l8), (prdV7 ybxr_0l8 ybxr_1l8 ybxr_2l8))).2 true).1] : List (Tree (Int × Int × Bs))) := (RepL.consN (c := [.int .i64 ybs3_0l8, .int .i64 ybs3_1l8, sv ybs3_2l8, .slice aybs3_3l8 ybs3_3l8.length cybs3_3l8]) (Rep.tree.2 ⟨[.int .i64 ybs3_0l8, .int .i64 ybs3_1l8, sv ybs3_2l8], [.slice aybs3_3l8 ybs3_3l8.length cybs3_3l8], rfl, ⟨[.int .i64 ybs3_0l8], [.int .i64 ybs3_1l8, sv ybs3_2l8], rfl, rfl, ⟨[.int .i64 ybs3_1l8], [sv ybs3_2l8], rfl, rfl, rfl⟩⟩, hRybs3_3l8⟩) (RepL.consN (c := [.int .i64 (((numR (gapS ((prdV5 ybxr_0l8 ybxr_1l8 ybxr_2l8), (prdV6 ybxr_0l8 ybxr_1l8 ybxr_2l8), (prdV7 ybxr_0l8 ybxr_1l8 ybxr_2l8))).2 true).1).lab.1), .int .i64 (((numR (gapS ((prdV5 ybxr_0l8 ybxr_1l8 ybxr_2l8), (prdV6 ybxr_0l8 ybxr_1l8 ybxr_2l8), (prdV7 ybxr_0l8 ybxr_1l8 ybxr_2l8))).2 true).1).lab.2).1, sv ((((numR (gapS ((prdV5 ybxr_0l8 ybxr_1l8 ybxr_2l8), (prdV6 ybxr_0l8 ybxr_1l8 ybxr_2l8), (prdV7 ybxr_0l8 ybxr_1l8 ybxr_2l8))).2 true).1).lab.2).2), .slice a16_0 (((numR (gapS ((prdV5 ybxr_0l8 ybxr_1l8 ybxr_2l8), (prdV6 ybxr_0l8 ybxr_1l8 ybxr_2l8), (prdV7 ybxr_0l8 ybxr_1l8 ybxr_2l8))).2 true).1).kids).length c16_0]) (Rep.tree.2 ⟨[.int .i64 (((numR (gapS ((prdV5 ybxr_0l8 ybxr_1l8 ybxr_2l8), (prdV6 ybxr_0l8 ybxr_1l8 ybxr_2l8), (prdV7 ybxr_0l8 ybxr_1l8 ybxr_2l8))).2 true).1).lab.1), .int .i64 (((numR (gapS ((prdV5 ybxr_0l8 ybxr_1l8 ybxr_2l8), (prdV6 ybxr_0l8 ybxr_1l8 ybxr_2l8), (prdV7 ybxr_0l8 ybxr_1l8 ybxr_2l8))).2 true).1).lab.2).1, sv ((((numR (gapS ((prdV5 ybxr_0l8 ybxr_1l8 ybxr_2l8), (prdV6 ybxr_0l8 ybxr_1l8 ybxr_2l8), (prdV7 ybxr_0l8 ybxr_1l8 ybxr_2l8))).2 true).1).lab.2).2)], [.slice a16_0 (((numR (gapS ((prdV5 ybxr_0l8 ybxr_1l8 ybxr_2l8), (prdV6 ybxr_0l8 ybxr_1l8 ybxr_2l8), (prdV7 ybxr_0l8 ybxr_1l8 ybxr_2l8))).2 true).1).kids).length c16_0], rfl, ⟨[.int .i64 (((numR (gapS ((prdV5 ybxr_0l8 ybxr_1l8 ybxr_2l8), (prdV6 ybxr_0l8 ybxr_1l8 ybxr_2l8), (prdV7 ybxr_0l8 ybxr_1l8 ybxr_2l8))).2 true).1).lab.1)], [.int .i64 (((numR (gapS ((prdV5 ybxr_0l8 ybxr_1l8 ybxr_2l8), (prdV6 ybxr_0l8 ybxr_1l8 ybxr_2l8), (prdV7 ybxr_0l8 ybxr_1l8 ybxr_2l8))).2 true).1).lab.2).1, sv ((((numR (gapS ((prdV5 ybxr_0l8 ybxr_1l8 ybxr_2l8), (prdV6 ybxr_0l8 ybxr_1l8 ybxr_2l8), (prdV7 ybxr_0l8 ybxr_1l8 ybxr_2l8))).2 true).1).lab.2).2)], rfl, rfl, ⟨[.int .i64 (((numR (gapS ((prdV5 ybxr_0l8 ybxr_1l8 ybxr_2l8), (prdV6 ybxr_0l8 ybxr_1l8 ybxr_2l8), (prdV7 ybxr_0l8 ybxr_1l8 ybxr_2l8))).2 true).1).lab.2).1], [sv ((((numR (gapS ((prdV5 ybxr_0l8 ybxr_1l8 ybxr_2l8), (prdV6 ybxr_0l8 ybxr_1l8 ybxr_2l8), (prdV7 ybxr_0l8 ybxr_1l8 ybxr_2l8))).2 true).1).lab.2).2)], rfl, rfl, rfl⟩⟩, hR16_0⟩) rfl))
     refine OkM.tail rfl rfl (OpOk.lit (E := 26) (.tree (.pair (.int .i64) (.pair (.int .i64) (.str)))) ([(Tree.mk (ybs3_0l8, (ybs3_1l8, ybs3_2l8)) ybs3_3l8), (numR (gapS ((prdV5 ybxr_0l8 ybxr_1l8 ybxr_2l8), (prdV6 ybxr_0l8 ybxr_1l8 ybxr_2l8), (prdV7 ybxr_0l8 ybxr_1l8 ybxr_2l8))).2 true).1] : List (Tree (Int × Int × Bs))) ([.int .i64 ybs3_0l8, .int .i64 ybs3_1l8, sv ybs3_2l8, .slice aybs3_3l8 ybs3_3l8.length cybs3_3l8, .int .i64 (((numR (gapS ((prdV5 ybxr_0l8 ybxr_1l8 ybxr_2l8), (prdV6 ybxr_0l8 ybxr_1l8 ybxr_2l8), (prdV7 ybxr_0l8 ybxr_1l8 ybxr_2l8))).2 true).1).lab.1), .int .i64 (((numR (gapS ((prdV5 ybxr_0l8 ybxr_1l8 ybxr_2l8), (prdV6 ybxr_0l8 ybxr_1l8 ybxr_2l8), (prdV7 ybxr_0l8 ybxr_1l8 ybxr_2l8))).2 true).1).lab.2).1, sv ((((numR (gapS ((prdV5 ybxr_0l8 ybxr_1l8 ybxr_2l8), (prdV6 ybxr_0l8 ybxr_1l8 ybxr_2l8), (prdV7 ybxr_0l8 ybxr_1l8 ybxr_2l8))).2 true).1).lab.2).2), .slice a16_0 (((numR (gapS ((prdV5 ybxr_0l8 ybxr_1l8 ybxr_2l8), (prdV6 ybxr_0l8 ybxr_1l8 ybxr_2l8), (prdV7 ybxr_0l8 ybxr_1l8 ybxr_2l8))).2 true).1).kids).length c16_0] : List Value) (by kernel_rfl) (by kernel_rfl) rfl (by kernel_rfl) hL17 rfl fun b17 => ?_)
     refine OkM.leaf (i := 5) (show _ = [.blk bs2 (.cells #[.int .i64 0, .int .i64 0, sv ([] : Bs), .slice none 0 0] 26)] from rfl) hx16.1 (.cons _ (.cons _ (.cons _ (.cons_cons _ .slnil)))) (OkM.bat 1 [0, 2, 3, 23] [(29, .agg #[.int .i64 (prdV4 ybxr_0l8 ybxr_1l8 ybxr_2l8), .int .i64 0, sv ([] : Bs), .slice (some ⟨b17, 0, none⟩) ([(Tree.mk (ybs3_0l8, (ybs3_1l8, ybs3_2l8)) ybs3_3l8), (numR (gapS ((prdV5 ybxr_0l8 ybxr_1l8 ybxr_2l8), (prdV6 ybxr_0l8 ybxr_1l8 ybxr_2l8), (prdV7 ybxr_0l8 ybxr_1l8 ybxr_2l8))).2 true).1] : List (Tree (Int × Int × Bs))).length 2])] ?_)
     refine OkM.tail rfl rfl (OpOk.inline (args := #[pv bxr 0, .agg #[.int .i64 (prdV4 ybxr_0l8 ybxr_1l8 ybxr_2l8), .int .i64 0, sv ([] : Bs), .slice (some ⟨b17, 0, none⟩) ([(Tree.mk (ybs3_0l8, (ybs3_1l8, ybs3_2l8)) ybs3_3l8), (numR (gapS ((prdV5 ybxr_0l8 ybxr_1l8 ybxr_2l8), (prdV6 ybxr_0l8 ybxr_1l8 ybxr_2l8), (prdV7 ybxr_0l8 ybxr_1l8 ybxr_2l8))).2 true).1] : List (Tree (Int × Int × Bs))).length 2]]) 20 [(0, pv bxr 0), (1, .agg #[.int .i64 (prdV4 ybxr_0l8 ybxr_1l8 ybxr_2l8), .int .i64 0, sv ([] : Bs), .slice (some ⟨b17, 0, none⟩) ([(Tree.mk (ybs3_0l8, (ybs3_1l8, ybs3_2l8)) ybs3_3l8), (numR (gapS ((prdV5 ybxr_0l8 ybxr_1l8 ybxr_2l8), (prdV6 ybxr_0l8 ybxr_1l8 ybxr_2l8), (prdV7 ybxr_0l8 ybxr_1l8 ybxr_2l8))).2 true).1] : List (Tree (Int × Int × Bs))).length 2])] enr Tryz.func35 rfl rfl rfl rfl (Ok.seq (Ok.region (Ok.op rfl (OpOk.box (v := .agg #[.int .i64 (prdV4 ybxr_0l8 ybxr_1l8 ybxr_2l8), .int .i64 0, sv ([] : Bs), .slice (some ⟨b17, 0, none⟩) ([(Tree.mk (ybs3_0l8, (ybs3_1l8, ybs3_2l8)) ybs3_3l8), (numR (gapS ((prdV5 ybxr_0l8 ybxr_1l8 ybxr_2l8), (prdV6 ybxr_0l8 ybxr_1l8 ybxr_2l8), (prdV7 ybxr_0l8 ybxr_1l8 ybxr_2l8))).2 true).1] : List (Tree (Int × Int × Bs))).length 2]) (cs := #[.int .i64 (prdV4 ybxr_0l8 ybxr_1l8 ybxr_2l8), .int .i64 0, sv ([] : Bs), .slice (some ⟨b17, 0, none⟩) ([(Tree.mk (ybs3_0l8, (ybs3_1l8, ybs3_2l8)) ybs3_3l8), (numR (gapS ((prdV5 ybxr_0l8 ybxr_1l8 ybxr_2l8), (prdV6 ybxr_0l8 ybxr_1l8 ybxr_2l8), (prdV7 ybxr_0l8 ybxr_1l8 ybxr_2l8))).2 true).1] : List (Tree (Int × Int × Bs))).length 2]) rfl (by kernel_rfl) rfl fun bs3i30 => ?_)))))
     refine Ok.op rfl (OpOk.alloc (z := .agg #[.int .i64 0, .int .i64 0, sv ([] : Bs), .slice none 0 0]) (cs := #[.int .i64 0, .int .i64 0, sv ([] : Bs), .slice none 0 0]) (by kernel_rfl) (by kernel_rfl) rfl fun bs4i30 => ?_)
     refine Ok.nil (Ok.frz 2 rfl hL17 fun g20 hx20 hRf20 => ?_)
     replace hR16_2 := hR16_2.mono hx20.1
     replace hRybs3_3l8 := hRybs3_3l8.mono hx20.1
     replace hG0 := hG0.mono hx20.1
     replace hG1 := hG1.mono hx20.1
     refine Ok.thenN (Ok.seq (Ok.seq (Ok.region (Ok.bat 3 [0] [(3, pv bs3i30 0), (4, pv bs4i30 0), (5, pv bxr 0), (7, pv bxr 1)] ?_))))
     refine Ok.op rfl (OpOk.step (v := .int .i64 (numR (gapS ((prdV5 ybxr_0l8 ybxr_1l8 ybxr_2l8), (prdV6 ybxr_0l8 ybxr_1l8 ybxr_2l8), (prdV7 ybxr_0l8 ybxr_1l8 ybxr_2l8))).2 true).2.2.1) (Yields.load 2 rfl rfl Tryz.underlying3 rfl (by kernel_rfl)) rfl rfl (Ok.bat 3 [0, 3, 4] [(9, .int .i64 (w6 ((numR (gapS ((prdV5 ybxr_0l8 ybxr_1l8 ybxr_2l8), (prdV6 ybxr_0l8 ybxr_1l8 ybxr_2l8), (prdV7 ybxr_0l8 ybxr_1l8 ybxr_2l8))).2 true).2.2.1 + 1))), (11, pv bxr 1)] ?_))
     refine Ok.op rfl (OpOk.sto (k := 1) (v := .int .i64 (w6 ((numR (gapS ((prdV5 ybxr_0l8 ybxr_1l8 ybxr_2l8), (prdV6 ybxr_0l8 ybxr_1l8 ybxr_2l8), (prdV7 ybxr_0l8 ybxr_1l8 ybxr_2l8))).2 true).2.2.1 + 1))) 2 #[.slice a16_2 ((numR (gapS ((prdV5 ybxr_0l8 ybxr_1l8 ybxr_2l8), (prdV6 ybxr_0l8 ybxr_1l8 ybxr_2l8), (prdV7 ybxr_0l8 ybxr_1l8 ybxr_2l8))).2 true).2.1).length c16_2, .int .i64 (w6 ((numR (gapS ((prdV5 ybxr_0l8 ybxr_1l8 ybxr_2l8), (prdV6 ybxr_0l8 ybxr_1l8 ybxr_2l8), (prdV7 ybxr_0l8 ybxr_1l8 ybxr_2l8))).2 true).2.2.1 + 1)), .bool (numR (gapS ((prdV5 ybxr_0l8 ybxr_1l8 ybxr_2l8), (prdV6 ybxr_0l8 ybxr_1l8 ybxr_2l8), (prdV7 ybxr_0l8 ybxr_1l8 ybxr_2l8))).2 true).2.2.2] rfl rfl rfl ?_)
     refine Ok.nil (Ok.thenN (Ok.seq (Ok.region (Ok.bat 3 [3, 4] [(14, pv bxr 1)] ?_))))
     refine Ok.op rfl (OpOk.step (v := .int .i64 (w6 ((numR (gapS ((prdV5 ybxr_0l8 ybxr_1l8 ybxr_2l8), (prdV6 ybxr_0l8 ybxr_1l8 ybxr_2l8), (prdV7 ybxr_0l8 ybxr_1l8 ybxr_2l8))).2 true).2.2.1 + 1))) (Yields.load 2 rfl rfl Tryz.underlying3 rfl (by kernel_rfl)) rfl rfl (Ok.bat 1 [3, 4] [(16, .bool (decide ((w6 ((numR (gapS ((prdV5 ybxr_0l8 ybxr_1l8 ybxr_2l8), (prdV6 ybxr_0l8 ybxr_1l8 ybxr_2l8), (prdV7 ybxr_0l8 ybxr_1l8 ybxr_2l8))).2 true).2.2.1 + 1)) > 30)))] ?_))
     refine Ok.nil (Ok.thenN (Ok.cond (b := decide ((w6 ((numR (gapS ((prdV5 ybxr_0l8 ybxr_1l8 ybxr_2l8), (prdV6 ybxr_0l8 ybxr_1l8 ybxr_2l8), (prdV7 ybxr_0l8 ybxr_1l8 ybxr_2l8))).2 true).2.2.1 + 1)) > 30)) rfl (fun hc21 => ?_) (fun hc21 => ?_)))
     ·replace hF := hF.1 hc21
      exact False.elim hF
     ·replace hF := hF.2 hc21
      refine Ok.skip (Ok.thenN (Ok.seq (Ok.region (Ok.op rfl (OpOk.step (v := .agg #[.int .i64 (prdV4 ybxr_0l8 ybxr_1l8 ybxr_2l8), .int .i64 0, sv ([] : Bs), .slice (some ⟨b17, 0, none⟩) ([(Tree.mk (ybs3_0l8, (ybs3_1l8, ybs3_2l8)) ybs3_3l8), (numR (gapS ((prdV5 ybxr_0l8 ybxr_1l8 ybxr_2l8), (prdV6 ybxr_0l8 ybxr_1l8 ybxr_2l8), (prdV7 ybxr_0l8 ybxr_1l8 ybxr_2l8))).2 true).1] : List (Tree (Int × Int × Bs))).length 2]) (Yields.loadAgg 1 4 #[.int .i64 (prdV4 ybxr_0l8 ybxr_1l8 ybxr_2l8), .int .i64 0, sv ([] : Bs), .slice (some ⟨b17, 0, none⟩) ([(Tree.mk (ybs3_0l8, (ybs3_1l8, ybs3_2l8)) ybs3_3l8), (numR (gapS ((prdV5 ybxr_0l8 ybxr_1l8 ybxr_2l8), (prdV6 ybxr_0l8 ybxr_1l8 ybxr_2l8), (prdV7 ybxr_0l8 ybxr_1l8 ybxr_2l8))).2 true).1] : List (Tree (Int × Int × Bs))).length 2] rfl rfl Tryz.underlying26 rfl (by kernel_rfl) (by kernel_rfl) (by kernel_rfl)) rfl rfl (Ok.op rfl (OpOk.sto (k := 4) (v := .agg #[.int .i64 (prdV4 ybxr_0l8 ybxr_1l8 ybxr_2l8), .int .i64 0, sv ([] : Bs), .slice (some ⟨b17, 0, none⟩) ([(Tree.mk (ybs3_0l8, (ybs3_1l8, ybs3_2l8)) ybs3_3l8), (numR (gapS ((prdV5 ybxr_0l8 ybxr_1l8 ybxr_2l8), (prdV6 ybxr_0l8 ybxr_1l8 ybxr_2l8), (prdV7 ybxr_0l8 ybxr_1l8 ybxr_2l8))).2 true).1] : List (Tree (Int × Int × Bs))).length 2]) 0 #[.int .i64 (prdV4 ybxr_0l8 ybxr_1l8 ybxr_2l8), .int .i64 0, sv ([] : Bs), .slice (some ⟨b17, 0, none⟩) ([(Tree.mk (ybs3_0l8, (ybs3_1l8, ybs3_2l8)) ybs3_3l8), (numR (gapS ((prdV5 ybxr_0l8 ybxr_1l8 ybxr_2l8), (prdV6 ybxr_0l8 ybxr_1l8 ybxr_2l8), (prdV7 ybxr_0l8 ybxr_1l8 ybxr_2l8))).2 true).1] : List (Tree (Int × Int × Bs))).length 2] rfl rfl rfl ?_)))))))
      refine Ok.nil (Ok.thenN (Ok.ret (Ok.back (vs := [.agg #[.int .i64 (prdV4 ybxr_0l8 ybxr_1l8 ybxr_2l8), .int .i64 0, sv ([] : Bs), .slice (some ⟨b17, 0, none⟩) ([(Tree.mk (ybs3_0l8, (ybs3_1l8, ybs3_2l8)) ybs3_3l8), (numR (gapS ((prdV5 ybxr_0l8 ybxr_1l8 ybxr_2l8), (prdV6 ybxr_0l8 ybxr_1l8 ybxr_2l8), (prdV7 ybxr_0l8 ybxr_1l8 ybxr_2l8))).2 true).1] : List (Tree (Int × Int × Bs))).length 2]]) (.inl rfl) rfl (.cons (.cellAgg 0 4 #[.int .i64 (prdV4 ybxr_0l8 ybxr_1l8 ybxr_2l8), .int .i64 0, sv ([] : Bs), .slice (some ⟨b17, 0, none⟩) ([(Tree.mk (ybs3_0l8, (ybs3_1l8, ybs3_2l8)) ybs3_3l8), (numR (gapS ((prdV5 ybxr_0l8 ybxr_1l8 ybxr_2l8), (prdV6 ybxr_0l8 ybxr_1l8 ybxr_2l8), (prdV7 ybxr_0l8 ybxr_1l8 ybxr_2l8))).2 true).1] : List (Tree (Int × Int × Bs))).length 2] rfl rfl Tryz.underlying26 rfl (by kernel_rfl) (by kernel_rfl) (by kernel_rfl)) .nil) rfl (OkM.leaf (i := 7) (show _ = [.blk bs2 (.cells #[.int .i64 0, .int .i64 0, sv ([] : Bs), .slice none 0 0] 26)] from rfl) (hx16.trans hx20).1 (.cons _ (.cons _ (.cons _ (.cons _ (.cons_cons _ .slnil))))) (OkM.tail rfl rfl (OpOk.sto (k := 4) (v := .agg #[.int .i64 (prdV4 ybxr_0l8 ybxr_1l8 ybxr_2l8), .int .i64 0, sv ([] : Bs), .slice (some ⟨b17, 0, none⟩) ([(Tree.mk (ybs3_0l8, (ybs3_1l8, ybs3_2l8)) ybs3_3l8), (numR (gapS ((prdV5 ybxr_0l8 ybxr_1l8 ybxr_2l8), (prdV6 ybxr_0l8 ybxr_1l8 ybxr_2l8), (prdV7 ybxr_0l8 ybxr_1l8 ybxr_2l8))).2 true).1] : List (Tree (Int × Int × Bs))).length 2]) 3 #[.int .i64 (prdV4 ybxr_0l8 ybxr_1l8 ybxr_2l8), .int .i64 0, sv ([] : Bs), .slice (some ⟨b17, 0, none⟩) ([(Tree.mk (ybs3_0l8, (ybs3_1l8, ybs3_2l8)) ybs3_3l8), (numR (gapS ((prdV5 ybxr_0l8 ybxr_1l8 ybxr_2l8), (prdV6 ybxr_0l8 ybxr_1l8 ybxr_2l8), (prdV7 ybxr_0l8 ybxr_1l8 ybxr_2l8))).2 true).1] : List (Tree (Int × Int × Bs))).length 2] rfl rfl rfl ?_))))))
      refine OkM.leaf (i := 8) (show _ = [.blk bs2 (.cells #[.int .i64 0, .int .i64 0, sv ([] : Bs), .slice none 0 0] 26)] from rfl) (hx16.trans hx20).1 (.cons _ (.cons _ (.cons _ (.cons _ (.cons_cons _ .slnil))))) (OkM.nil (Ok.blockN (Ok.thenN ?_)))
      exact fun a W hA hW => ⟨k8, Nat.lt_succ_self _, g20, (((((hxl8.trans hx6).trans hxj14).trans hx7).trans hx16).trans hx20), (prdV4 ybxr_0l8 ybxr_1l8 ybxr_2l8), 0, ([] : Bs), (some ⟨b17, 0, none⟩), 2, ([(Tree.mk (ybs3_0l8, (ybs3_1l8, ybs3_2l8)) ybs3_3l8), (numR (gapS ((prdV5 ybxr_0l8 ybxr_1l8 ybxr_2l8), (prdV6 ybxr_0l8 ybxr_1l8 ybxr_2l8), (prdV7 ybxr_0l8 ybxr_1l8 ybxr_2l8))).2 true).1] : List (Tree (Int × Int × Bs))), a16_2, c16_2, (numR (gapS ((prdV5 ybxr_0l8 ybxr_1l8 ybxr_2l8), (prdV6 ybxr_0l8 ybxr_1l8 ybxr_2l8), (prdV7 ybxr_0l8 ybxr_1l8 ybxr_2l8))).2 true).2.1, w6 ((numR (gapS ((prdV5 ybxr_0l8 ybxr_1l8 ybxr_2l8), (prdV6 ybxr_0l8 ybxr_1l8 ybxr_2l8), (prdV7 ybxr_0l8 ybxr_1l8 ybxr_2l8))).2 true).2.2.1 + 1), (numR (gapS ((prdV5 ybxr_0l8 ybxr_1l8 ybxr_2l8), (prdV6 ybxr_0l8 ybxr_1l8 ybxr_2l8), (prdV7 ybxr_0l8 ybxr_1l8 ybxr_2l8))).2 true).2.2.2, hRf20, hR16_2, hA.sub (by kernel_rfl), hW.pick [3, 2, 4] _ (by decide) rfl, hF⟩
theorem prd_F (r : Rd) (hp : r = R0) : prdF r (fun a c => (a, c) = (T1, R1)) := by
 subst hp
 have L : ∀ V4 V5 V6 V7, (V4 = 4 ∧ (V5, V6, V7) = (([tkC], 3, true) : Rd)) → prdl8 (fun a c => (a, c) = (T1, R1)) 2 V4 0 [] [.mk (1, (1000, [112, 120])) [], .mk (1, (2000, [])) []] V5 V6 V7 := by
  rintro V4 V5 V6 V7 ⟨rfl, h⟩
  injection h with h5 h6
  injection h6 with h6 h7
  subst h5 h6 h7
  exact ⟨fun h => absurd h (by decide +kernel), fun _ => ⟨fun h => absurd h (by decide +kernel), fun _ => by show _ = _; kernel_rfl⟩⟩
 have N : numP ([tkN2, tkC], 1, true) true := ⟨rfl, .inr rfl⟩
 have J : prdj14 1 1000 [112, 120] [] [tkB, tkS, tkB, tkN2, tkC] 1 false (prdl8 (fun a c => (a, c) = (T1, R1)) 2) :=
  ⟨⟨N, fun h => absurd h (by decide +kernel), fun _ => L _ _ _ _ ⟨by kernel_rfl, by kernel_rfl⟩⟩, ⟨N, fun h => absurd h (by decide +kernel), fun _ => L _ _ _ _ ⟨by kernel_rfl, by kernel_rfl⟩⟩⟩
 exact ⟨⟨rfl, .inl rfl⟩, 3, ⟨fun _ => J, fun h => absurd h (by decide +kernel)⟩⟩
def prdP (r : Rd) : Prop := r = R0
def prdR (r : Rd) : Tm × Rd := (T1, R1)
theorem prd_c {g : Ghost} {bxr : Nat} {axr_0 : Option Addr} {cxr_0 : Nat} (xr : (List (Int × Bs × Bs × Int)) × Int × Bool) (hRxr_0 : Rep g (.slice (.pair (.int .i64) (.pair (.str) (.pair (.str) (.int .i64))))) [.slice axr_0 xr.1.length cxr_0] xr.1) (hG0 : Glob g 0 (.slice (.str)) DUnits) (hG1 : SomeInt g 1)  (hp : prdP xr) : CallsH Tryz.prog 62 #[pv bxr 0] g [.blk bxr (.cells #[.slice axr_0 xr.1.length cxr_0, .int .i64 xr.2.1, .bool xr.2.2] 53)] (fun g' H' v => ∃ (ar0_0 : Option Addr) (cr0_0 : Nat), ∃ (afxr_0 : Option Addr) (cfxr_0 : Nat), v = .agg #[.int .i64 ((prdR xr).1).lab.1, .int .i64 ((prdR xr).1).lab.2.1, sv (((prdR xr).1).lab.2.2), .slice ar0_0 ((prdR xr).1).kids.length cr0_0] ∧ Rep g' (.slice (.tree (.pair (.int .i64) (.pair (.int .i64) (.str))))) [.slice ar0_0 ((prdR xr).1).kids.length cr0_0] ((prdR xr).1).kids ∧ Rep g' (.slice (.pair (.int .i64) (.pair (.str) (.pair (.str) (.int .i64))))) [.slice afxr_0 (prdR xr).2.1.length cfxr_0] (prdR xr).2.1 ∧ H' = [.blk bxr (.cells #[.slice afxr_0 (prdR xr).2.1.length cfxr_0, .int .i64 (prdR xr).2.2.1, .bool (prdR xr).2.2.2] 53)]) :=
 (prd_ok xr hRxr_0 hG0 hG1 _ (prd_F xr hp)).mono (by rintro g' H' v _ ⟨r0, fxr, ar0_0, cr0_0, afxr_0, cfxr_0, rfl, hRr0_0, hRfxr_0, rfl, hK⟩; obtain ⟨rfl, rfl⟩ : r0 = (prdR xr).1 ∧ fxr = (prdR xr).2 := ⟨congrArg (fun z => z.1) hK, congrArg (fun z => z.2) hK⟩; exact ⟨ar0_0, cr0_0, afxr_0, cfxr_0, rfl, hRr0_0, hRfxr_0, rfl⟩)
def smV2 (ybxr_0l6 : List (Int × Bs × Bs × Int)) : Bool :=
 ((decide ((ybxr_0l6.length : Int) > 0)) && ((ybxr_0l6.getD (Int.toNat 0) default).2.1 == ([43] : Bs)))
def smV3 (ybxr_0l6 : List (Int × Bs × Bs × Int)) : Bool :=
 ((decide ((ybxr_0l6.length : Int) > 0)) && ((ybxr_0l6.getD (Int.toNat 0) default).2.1 == ([45] : Bs)))
def smj12 (ybs3_0l6 : Int) (ybs3_1l6 : Int) (ybs3_2l6 : Bs) (ybs3_3l6 : List (Tree (Int × Int × Bs))) (ybxr_0l6 : List (Int × Bs × Bs × Int)) (ybxr_1l6 : Int) (ybxr_2l6 : Bool) (C6 : Int → Int → Bs → (List (Tree (Int × Int × Bs))) → (List (Int × Bs × Bs × Int)) → Int → Bool → Prop) : Prop :=
 (0 : Int) ≤ 1 ∧ (1 : Int) ≤ (ybxr_0l6.length : Int) ∧ (ybxr_0l6.length : Int) ≤ (ybxr_0l6.length : Int) ∧ ((ybxr_2l6) = true → ((!((gapS ((ybxr_0l6.drop (Int.toNat 1)), ybxr_1l6, ybxr_2l6)).1)) = true → False) ∧ ((!((gapS ((ybxr_0l6.drop (Int.toNat 1)), ybxr_1l6, ybxr_2l6)).1)) = false → (prdP (gapS ((ybxr_0l6.drop (Int.toNat 1)), ybxr_1l6, ybxr_2l6)).2 ∧ ((decide ((w6 ((prdR (gapS ((ybxr_0l6.drop (Int.toNat 1)), ybxr_1l6, ybxr_2l6)).2).2.2.1 + 1)) > 30)) = true → False) ∧ ((decide ((w6 ((prdR (gapS ((ybxr_0l6.drop (Int.toNat 1)), ybxr_1l6, ybxr_2l6)).2).2.2.1 + 1)) > 30)) = false → C6 (if (smV2 ybxr_0l6) = true then 2 else 3) 0 ([] : Bs) ([(Tree.mk (ybs3_0l6, (ybs3_1l6, ybs3_2l6)) ybs3_3l6), (prdR (gapS ((ybxr_0l6.drop (Int.toNat 1)), ybxr_1l6, ybxr_2l6)).2).1] : List (Tree (Int × Int × Bs))) (prdR (gapS ((ybxr_0l6.drop (Int.toNat 1)), ybxr_1l6, ybxr_2l6)).2).2.1 (w6 ((prdR (gapS ((ybxr_0l6.drop (Int.toNat 1)), ybxr_1l6, ybxr_2l6)).2).2.2.1 + 1)) (prdR (gapS ((ybxr_0l6.drop (Int.toNat 1)), ybxr_1l6, ybxr_2l6)).2).2.2.2)) ∧ (prdP (gapS ((ybxr_0l6.drop (Int.toNat 1)), ybxr_1l6, ybxr_2l6)).2 ∧ ((decide ((w6 ((prdR (gapS ((ybxr_0l6.drop (Int.toNat 1)), ybxr_1l6, ybxr_2l6)).2).2.2.1 + 1)) > 30)) = true → False) ∧ ((decide ((w6 ((prdR (gapS ((ybxr_0l6.drop (Int.toNat 1)), ybxr_1l6, ybxr_2l6)).2).2.2.1 + 1)) > 30)) = false → C6 (if (smV2 ybxr_0l6) = true then 2 else 3) 0 ([] : Bs) ([(Tree.mk (ybs3_0l6, (ybs3_1l6, ybs3_2l6)) ybs3_3l6), (prdR (gapS ((ybxr_0l6.drop (Int.toNat 1)), ybxr_1l6, ybxr_2l6)).2).1] : List (Tree (Int × Int × Bs))) (prdR (gapS ((ybxr_0l6.drop (Int.toNat 1)), ybxr_1l6, ybxr_2l6)).2).2.1 (w6 ((prdR (gapS ((ybxr_0l6.drop (Int.toNat 1)), ybxr_1l6, ybxr_2l6)).2).2.2.1 + 1)) (prdR (gapS ((ybxr_0l6.drop (Int.toNat 1)), ybxr_1l6, ybxr_2l6)).2).2.2.2)))) ∧ ((ybxr_2l6) = false → False)
def smj18 (K : (Tree (Int × Int × Bs)) → ((List (Int × Bs × Bs × Int)) × Int × Bool) → Prop) (ybs3_0l6 : Int) (ybs3_1l6 : Int) (ybs3_2l6 : Bs) (ybs3_3l6 : List (Tree (Int × Int × Bs))) (ybxr_0l6 : List (Int × Bs × Bs × Int)) (ybxr_1l6 : Int) (ybxr_2l6 : Bool) (C6 : Int → Int → Bs → (List (Tree (Int × Int × Bs))) → (List (Int × Bs × Bs × Int)) → Int → Bool → Prop) : Prop :=
 (((smV3 ybxr_0l6)) = true → smj12 ybs3_0l6 ybs3_1l6 ybs3_2l6 ybs3_3l6 ybxr_0l6 ybxr_1l6 ybxr_2l6 C6) ∧ (((smV3 ybxr_0l6)) = false → K (Tree.mk (ybs3_0l6, (ybs3_1l6, ybs3_2l6)) ybs3_3l6) (ybxr_0l6, ybxr_1l6, ybxr_2l6))
def smj14 (K : (Tree (Int × Int × Bs)) → ((List (Int × Bs × Bs × Int)) × Int × Bool) → Prop) (ybs3_0l6 : Int) (ybs3_1l6 : Int) (ybs3_2l6 : Bs) (ybs3_3l6 : List (Tree (Int × Int × Bs))) (ybxr_0l6 : List (Int × Bs × Bs × Int)) (ybxr_1l6 : Int) (ybxr_2l6 : Bool) (C6 : Int → Int → Bs → (List (Tree (Int × Int × Bs))) → (List (Int × Bs × Bs × Int)) → Int → Bool → Prop) : Prop :=
 (((smV2 ybxr_0l6)) = true → smj12 ybs3_0l6 ybs3_1l6 ybs3_2l6 ybs3_3l6 ybxr_0l6 ybxr_1l6 ybxr_2l6 C6) ∧ (((smV2 ybxr_0l6)) = false → ((decide ((ybxr_0l6.length : Int) > 0)) = true → (0 : Int) ≤ 0 ∧ Int.toNat 0 < ybxr_0l6.length ∧ smj18 K ybs3_0l6 ybs3_1l6 ybs3_2l6 ybs3_3l6 ybxr_0l6 ybxr_1l6 ybxr_2l6 C6) ∧ ((decide ((ybxr_0l6.length : Int) > 0)) = false → smj18 K ybs3_0l6 ybs3_1l6 ybs3_2l6 ybs3_3l6 ybxr_0l6 ybxr_1l6 ybxr_2l6 C6))
def sml6b (K : (Tree (Int × Int × Bs)) → ((List (Int × Bs × Bs × Int)) × Int × Bool) → Prop) (ybs3_0l6 : Int) (ybs3_1l6 : Int) (ybs3_2l6 : Bs) (ybs3_3l6 : List (Tree (Int × Int × Bs))) (ybxr_0l6 : List (Int × Bs × Bs × Int)) (ybxr_1l6 : Int) (ybxr_2l6 : Bool) (C6 : Int → Int → Bs → (List (Tree (Int × Int × Bs))) → (List (Int × Bs × Bs × Int)) → Int → Bool → Prop) : Prop :=
 ((decide ((ybxr_0l6.length : Int) > 0)) = true → (0 : Int) ≤ 0 ∧ Int.toNat 0 < ybxr_0l6.length ∧ smj14 K ybs3_0l6 ybs3_1l6 ybs3_2l6 ybs3_3l6 ybxr_0l6 ybxr_1l6 ybxr_2l6 C6) ∧ ((decide ((ybxr_0l6.length : Int) > 0)) = false → smj14 K ybs3_0l6 ybs3_1l6 ybs3_2l6 ybs3_3l6 ybxr_0l6 ybxr_1l6 ybxr_2l6 C6)
def sml6 (K : (Tree (Int × Int × Bs)) → ((List (Int × Bs × Bs × Int)) × Int × Bool) → Prop) : Nat → Int → Int → Bs → (List (Tree (Int × Int × Bs))) → (List (Int × Bs × Bs × Int)) → Int → Bool → Prop
 | 0, _, _, _, _, _, _, _ => False
 | k + 1, ybs3_0l6, ybs3_1l6, ybs3_2l6, ybs3_3l6, ybxr_0l6, ybxr_1l6, ybxr_2l6 => sml6b K ybs3_0l6 ybs3_1l6 ybs3_2l6 ybs3_3l6 ybxr_0l6 ybxr_1l6 ybxr_2l6 (sml6 K k)
def smF (xr : (List (Int × Bs × Bs × Int)) × Int × Bool) (K : (Tree (Int × Int × Bs)) → ((List (Int × Bs × Bs × Int)) × Int × Bool) → Prop) : Prop :=
 prdP xr ∧ ∃ k, sml6 K k (((prdR xr).1).lab.1) (((prdR xr).1).lab.2).1 (((prdR xr).1).lab.2).2 (((prdR xr).1).kids) (prdR xr).2.1 (prdR xr).2.2.1 (prdR xr).2.2.2
theorem sm_ok {g : Ghost} {bxr : Nat} {axr_0 : Option Addr} {cxr_0 : Nat} (xr : (List (Int × Bs × Bs × Int)) × Int × Bool) (hRxr_0 : Rep g (.slice (.pair (.int .i64) (.pair (.str) (.pair (.str) (.int .i64))))) [.slice axr_0 xr.1.length cxr_0] xr.1) (hG0 : Glob g 0 (.slice (.str)) DUnits) (hG1 : SomeInt g 1) (K : (Tree (Int × Int × Bs)) → ((List (Int × Bs × Bs × Int)) × Int × Bool) → Prop)
  (hF : smF xr K) : CallsH Tryz.prog 36 #[pv bxr 0] g [.blk bxr (.cells #[.slice axr_0 xr.1.length cxr_0, .int .i64 xr.2.1, .bool xr.2.2] 53)] (fun g' H' v => ∃ (r0 : Tree (Int × Int × Bs)), ∃ (fxr : (List (Int × Bs × Bs × Int)) × Int × Bool), ∃ (ar0_0 : Option Addr) (cr0_0 : Nat), ∃ (afxr_0 : Option Addr) (cfxr_0 : Nat), v = .agg #[.int .i64 r0.lab.1, .int .i64 r0.lab.2.1, sv r0.lab.2.2, .slice ar0_0 r0.kids.length cr0_0] ∧ Rep g' (.slice (.tree (.pair (.int .i64) (.pair (.int .i64) (.str))))) [.slice ar0_0 r0.kids.length cr0_0] r0.kids ∧ Rep g' (.slice (.pair (.int .i64) (.pair (.str) (.pair (.str) (.int .i64))))) [.slice afxr_0 fxr.1.length cfxr_0] fxr.1 ∧ H' = [.blk bxr (.cells #[.slice afxr_0 fxr.1.length cfxr_0, .int .i64 fxr.2.1, .bool fxr.2.2] 53)] ∧ K r0 fxr) := by
 refine CallsH.enter 70 [(0, pv bxr 0)] Tryz.func36 rfl (by kernel_rfl) (by kernel_rfl) (by kernel_rfl) fun w0 => ?_
 refine Ok.seq (Ok.region (Ok.op rfl (OpOk.alloc (z := .agg #[.int .i64 0, .int .i64 0, sv ([] : Bs), .slice none 0 0]) (cs := #[.int .i64 0, .int .i64 0, sv ([] : Bs), .slice none 0 0]) (by kernel_rfl) (by kernel_rfl) rfl fun bs2 => ?_)))
 refine Ok.nil (Ok.thenN (Ok.seq (Ok.region (Ok.batch 1 [(0, pv bxr 0), (2, pv bs2 0), (6, pv bxr 0)] (by kernel_rfl) ?_))))
 obtain ⟨hp2, hF⟩ := hF
 refine Ok.entries [1, 0] [.blk bxr (.cells #[.slice axr_0 xr.1.length cxr_0, .int .i64 xr.2.1, .bool xr.2.2] 53), .blk bs2 (.cells #[.int .i64 0, .int .i64 0, sv ([] : Bs), .slice none 0 0] 26)] (by decide) rfl (Ok.op rfl (OpOk.callH [_] _ enr rfl (prd_c xr hRxr_0 hG0 hG1 hp2) rfl fun g3 _ _ hx3 hV3 => ?_))
 obtain ⟨a3_0, c3_0, a3_2, c3_2, rfl, hR3_0, hR3_2, rfl⟩ := hV3
 replace hG0 := hG0.mono hx3.1
 replace hG1 := hG1.mono hx3.1
 refine Ok.op rfl (OpOk.alloc (z := .agg #[.int .i64 0, .int .i64 0, sv ([] : Bs), .slice none 0 0]) (cs := #[.int .i64 0, .int .i64 0, sv ([] : Bs), .slice none 0 0]) (by kernel_rfl) (by kernel_rfl) rfl fun bs3 => ?_)
 refine Ok.op rfl (OpOk.sto (k := 4) (v := .agg #[.int .i64 (((prdR xr).1).lab.1), .int .i64 (((prdR xr).1).lab.2).1, sv ((((prdR xr).1).lab.2).2), .slice a3_0 (((prdR xr).1).kids).length c3_0]) 0 #[.int .i64 (((prdR xr).1).lab.1), .int .i64 (((prdR xr).1).lab.2).1, sv ((((prdR xr).1).lab.2).2), .slice a3_0 (((prdR xr).1).kids).length c3_0] rfl rfl rfl ?_)
 refine Ok.nil (Ok.thenN (Ok.block ?_))
 obtain ⟨k, hF⟩ := hF
 refine Ok.loop (fun k a W => ∃ gl6 : Ghost, Gext w0 g3 gl6 ∧ ∃ (ybs3_0l6 : Int) (ybs3_1l6 : Int) (ybs3_2l6 : Bs) (aybs3_3l6 : Option Addr) (cybs3_3l6 : Nat) (ybs3_3l6 : List (Tree (Int × Int × Bs))) (aybxr_0l6 : Option Addr) (cybxr_0l6 : Nat) (ybxr_0l6 : List (Int × Bs × Bs × Int)) (ybxr_1l6 : Int) (ybxr_2l6 : Bool), Rep gl6 (.slice (.tree (.pair (.int .i64) (.pair (.int .i64) (.str))))) [.slice aybs3_3l6 ybs3_3l6.length cybs3_3l6] ybs3_3l6 ∧ Rep gl6 (.slice (.pair (.int .i64) (.pair (.str) (.pair (.str) (.int .i64))))) [.slice aybxr_0l6 ybxr_0l6.length cybxr_0l6] ybxr_0l6 ∧ StA 70 [(0, pv bxr 0), (2, pv bs2 0), (3, pv bs3 0)] a ∧ StW w0 [.blk bs3 (.cells #[.int .i64 ybs3_0l6, .int .i64 ybs3_1l6, sv ybs3_2l6, .slice aybs3_3l6 ybs3_3l6.length cybs3_3l6] 26), .blk bxr (.cells #[.slice aybxr_0l6 ybxr_0l6.length cybxr_0l6, .int .i64 ybxr_1l6, .bool ybxr_2l6] 53), .blk bs2 (.cells #[.int .i64 0, .int .i64 0, sv ([] : Bs), .slice none 0 0] 26)] gl6 W ∧ sml6 K k ybs3_0l6 ybs3_1l6 ybs3_2l6 ybs3_3l6 ybxr_0l6 ybxr_1l6 ybxr_2l6) k ?_ ?_
 ·
  exact fun a W hA hW => ⟨g3, (Gext.refl w0 g3), ((prdR xr).1).lab.1, (((prdR xr).1).lab.2).1, (((prdR xr).1).lab.2).2, a3_0, c3_0, ((prdR xr).1).kids, a3_2, c3_2, (prdR xr).2.1, (prdR xr).2.2.1, (prdR xr).2.2.2, hR3_0, hR3_2, hA.sub (by kernel_rfl), hW, hF⟩
 ·
  clear hF
  rintro k6 a W ⟨gl6, hxl6, ybs3_0l6, ybs3_1l6, ybs3_2l6, aybs3_3l6, cybs3_3l6, ybs3_3l6, aybxr_0l6, cybxr_0l6, ybxr_0l6, ybxr_1l6, ybxr_2l6, hRybs3_3l6, hRybxr_0l6, hA, hW, hF⟩
  cases k6 with
  | zero => exact (hF : False).elim
  | succ k6 =>
   refine (?_ : Ok _ _ _ _ _ _) a W hA hW
   clear hA hW
   replace hG0 := hG0.mono hxl6.1
   replace hG1 := hG1.mono hxl6.1
   refine Ok.block (Ok.seq (Ok.region (Ok.bat 3 [0, 2, 3] [(10, pv bxr 2)] ?_)))
   refine Ok.op rfl (OpOk.step (v := .bool ybxr_2l6) (Yields.load 1 rfl rfl Tryz.underlying4 rfl (by kernel_rfl)) rfl rfl (Ok.bat 1 [0, 2, 3] [(4, .bool ybxr_2l6)] ?_))
   refine Ok.nil (Ok.thenN (Ok.seq (Ok.region (Ok.bat 1 [0, 2, 3, 4] [] ?_))))
   refine Ok.nil (Ok.thenN (Ok.cut (fun a W => ∃ gj12 : Ghost, Gext w0 gl6 gj12 ∧ StA 70 [(0, pv bxr 0), (2, pv bs2 0), (3, pv bs3 0), (4, .bool ybxr_2l6), (5, .int .i64 (if (smV2 ybxr_0l6) = true then 2 else 3))] a ∧ StW w0 [.blk bs3 (.cells #[.int .i64 ybs3_0l6, .int .i64 ybs3_1l6, sv ybs3_2l6, .slice aybs3_3l6 ybs3_3l6.length cybs3_3l6] 26), .blk bxr (.cells #[.slice aybxr_0l6 ybxr_0l6.length cybxr_0l6, .int .i64 ybxr_1l6, .bool ybxr_2l6] 53), .blk bs2 (.cells #[.int .i64 0, .int .i64 0, sv ([] : Bs), .slice none 0 0] 26)] gj12 W ∧ smj12 ybs3_0l6 ybs3_1l6 ybs3_2l6 ybs3_3l6 ybxr_0l6 ybxr_1l6 ybxr_2l6 (sml6 K k6)) ?_ ?_))
   ·
    refine Ok.block (Ok.cut (fun a W => ∃ gj14 : Ghost, Gext w0 gl6 gj14 ∧ StA 70 [(0, pv bxr 0), (2, pv bs2 0), (3, pv bs3 0), (4, .bool ybxr_2l6), (13, .bool (smV2 ybxr_0l6))] a ∧ StW w0 [.blk bs3 (.cells #[.int .i64 ybs3_0l6, .int .i64 ybs3_1l6, sv ybs3_2l6, .slice aybs3_3l6 ybs3_3l6.length cybs3_3l6] 26), .blk bxr (.cells #[.slice aybxr_0l6 ybxr_0l6.length cybxr_0l6, .int .i64 ybxr_1l6, .bool ybxr_2l6] 53), .blk bs2 (.cells #[.int .i64 0, .int .i64 0, sv ([] : Bs), .slice none 0 0] 26)] gj14 W ∧ smj14 K ybs3_0l6 ybs3_1l6 ybs3_2l6 ybs3_3l6 ybxr_0l6 ybxr_1l6 ybxr_2l6 (sml6 K k6)) ?_ ?_)
    ·
     refine Ok.region (Ok.bat 3 [0, 2, 3, 4] [(16, pv bxr 0)] ?_)
     refine Ok.op rfl (OpOk.step (v := .slice aybxr_0l6 ybxr_0l6.length cybxr_0l6) (Yields.load 1 rfl rfl Tryz.underlying50 rfl (by kernel_rfl)) rfl rfl (Ok.bat 3 [0, 2, 3, 4] [(20, .bool (decide ((ybxr_0l6.length : Int) > 0)))] ?_))
     refine Ok.boolAt 20 (decide ((ybxr_0l6.length : Int) > 0)) rfl (fun hc28 => ?_) (fun hc28 => ?_)
     ·replace hF := hF.1 hc28
      refine Ok.bat 3 [0, 2, 3, 4] [(20, .bool true), (23, pv bxr 0)] ?_
      refine Ok.opYes (j := 6) (d := 20) (want := true) (b := true) rfl (by kernel_rfl) (by kernel_rfl) rfl (OpOk.step (v := .slice aybxr_0l6 ybxr_0l6.length cybxr_0l6) (Yields.load 1 rfl rfl Tryz.underlying50 rfl (by kernel_rfl)) rfl rfl ?_)
      obtain ⟨h030, h130, hF⟩ := hF
      have he30 := get_of (l := ybxr_0l6) (default : Int × Bs × Bs × Int) h130
      generalize hg30 : (ybxr_0l6.getD (Int.toNat 0) default) = e30 at he30 hF ⊢
      refine Ok.opYes (j := 6) (d := 20) (want := true) (b := true) rfl (by kernel_rfl) (by kernel_rfl) rfl (OpOk.indexRo (e := .pair (.int .i64) (.pair (.str) (.pair (.str) (.int .i64)))) (i := 0) (el := e30) rfl rfl Tryz.underlying50 (by kernel_rfl) hRybxr_0l6 h030 he30 rfl fun q29 o29 cs29 _ hat29 hr29 => ?_)
      obtain ⟨_, _, rfl, rfl, ⟨_, _, rfl, rfl, ⟨_, _, rfl, rfl, rfl⟩⟩⟩ := hr29
      replace hat29 : At gl6 q29 o29 [.int .i64 e30.1, sv e30.2.1, sv e30.2.2.1, .int .i64 e30.2.2.2] := hat29
      refine Ok.bat 1 [0, 2, 3, 4, 20] [(26, .pointer (some ⟨q29, o29 + 1, none⟩))] ?_
      refine Ok.opYes (j := 6) (d := 20) (want := true) (b := true) rfl (by kernel_rfl) (by kernel_rfl) rfl (OpOk.step (v := sv e30.2.1) (Yields.loadRo 1 hat29 (by kernel_rfl) Tryz.underlying9 rfl (by kernel_rfl)) rfl rfl (Ok.opYes (j := 6) (d := 20) (want := true) (b := true) rfl (by kernel_rfl) (by kernel_rfl) rfl (OpOk.step (v := .bool (e30.2.1 == ([43] : Bs))) (Yields.strCmp (f := .eql) (a := e30.2.1) (b := ([43] : Bs)) (by kernel_rfl) (by kernel_rfl) rfl) rfl rfl (Ok.bat 2 [0, 2, 3, 4] [(13, .bool (e30.2.1 == ([43] : Bs)))] ?_))))
      refine Ok.nil (Ok.thenN ?_)
      subst hg30
      refine Ok.reval 13 rfl (show (.bool ((ybxr_0l6.getD (Int.toNat 0) default).2.1 == ([43] : Bs)) : Value) = .bool (smV2 ybxr_0l6) from congrArg (Value.bool) (mand_t hc28)) ?_
      exact fun a W hA hW => ⟨gl6, (Gext.refl w0 gl6), hA.sub (by kernel_rfl), hW, hF⟩
     ·replace hF := hF.2 hc28
      refine Ok.bat 10 [0, 2, 3, 4] [(13, .bool false)] ?_
      refine Ok.nil (Ok.thenN (Ok.reval 13 rfl (show (.bool false : Value) = .bool (smV2 ybxr_0l6) from congrArg (Value.bool) (mand_f hc28)) ?_))
      exact fun a W hA hW => ⟨gl6, (Gext.refl w0 gl6), hA.sub (by kernel_rfl), hW, hF⟩
    ·
     clear hF
     rintro a W ⟨gj14, hxj14, hA, hW, hF⟩
     refine (?_ : Ok _ _ _ _ _ _) a W hA hW
     clear hA hW
     replace hRybs3_3l6 := hRybs3_3l6.mono hxj14.1
     replace hRybxr_0l6 := hRybxr_0l6.mono hxj14.1
     replace hG0 := hG0.mono hxj14.1
     replace hG1 := hG1.mono hxj14.1
     refine Ok.cond (b := (smV2 ybxr_0l6)) rfl (fun hc23 => ?_) (fun hc23 => ?_)
     ·replace hF := hF.1 hc23
      refine Ok.region (Ok.bat 1 [0, 2, 3, 4] [(5, .int .i64 2)] ?_)
      refine Ok.nil (Ok.blockN (Ok.thenN (Ok.reval 5 rfl (show (.int .i64 2 : Value) = .int .i64 (if (smV2 ybxr_0l6) = true then 2 else 3) from congrArg (Value.int .i64) ((if_t hc23).symm)) ?_)))
      exact fun a W hA hW => ⟨gj14, hxj14, hA.sub (by kernel_rfl), hW, hF⟩
     ·replace hF := hF.2 hc23
      refine Ok.cut (fun a W => ∃ gj18 : Ghost, Gext w0 gj14 gj18 ∧ StA 70 [(0, pv bxr 0), (2, pv bs2 0), (3, pv bs3 0), (4, .bool ybxr_2l6), (30, .bool (smV3 ybxr_0l6))] a ∧ StW w0 [.blk bs3 (.cells #[.int .i64 ybs3_0l6, .int .i64 ybs3_1l6, sv ybs3_2l6, .slice aybs3_3l6 ybs3_3l6.length cybs3_3l6] 26), .blk bxr (.cells #[.slice aybxr_0l6 ybxr_0l6.length cybxr_0l6, .int .i64 ybxr_1l6, .bool ybxr_2l6] 53), .blk bs2 (.cells #[.int .i64 0, .int .i64 0, sv ([] : Bs), .slice none 0 0] 26)] gj18 W ∧ smj18 K ybs3_0l6 ybs3_1l6 ybs3_2l6 ybs3_3l6 ybxr_0l6 ybxr_1l6 ybxr_2l6 (sml6 K k6)) ?_ ?_
      ·
       refine Ok.region (Ok.bat 3 [0, 2, 3, 4] [(33, pv bxr 0)] ?_)
       refine Ok.op rfl (OpOk.step (v := .slice aybxr_0l6 ybxr_0l6.length cybxr_0l6) (Yields.load 1 rfl rfl Tryz.underlying50 rfl (by kernel_rfl)) rfl rfl (Ok.bat 3 [0, 2, 3, 4] [(37, .bool (decide ((ybxr_0l6.length : Int) > 0)))] ?_))
       refine Ok.boolAt 37 (decide ((ybxr_0l6.length : Int) > 0)) rfl (fun hc25 => ?_) (fun hc25 => ?_)
       ·replace hF := hF.1 hc25
        refine Ok.bat 3 [0, 2, 3, 4] [(37, .bool true), (40, pv bxr 0)] ?_
        refine Ok.opYes (j := 6) (d := 37) (want := true) (b := true) rfl (by kernel_rfl) (by kernel_rfl) rfl (OpOk.step (v := .slice aybxr_0l6 ybxr_0l6.length cybxr_0l6) (Yields.load 1 rfl rfl Tryz.underlying50 rfl (by kernel_rfl)) rfl rfl ?_)
        obtain ⟨h027, h127, hF⟩ := hF
        have he27 := get_of (l := ybxr_0l6) (default : Int × Bs × Bs × Int) h127
        generalize hg27 : (ybxr_0l6.getD (Int.toNat 0) default) = e27 at he27 hF ⊢
        refine Ok.opYes (j := 6) (d := 37) (want := true) (b := true) rfl (by kernel_rfl) (by kernel_rfl) rfl (OpOk.indexRo (e := .pair (.int .i64) (.pair (.str) (.pair (.str) (.int .i64)))) (i := 0) (el := e27) rfl rfl Tryz.underlying50 (by kernel_rfl) hRybxr_0l6 h027 he27 rfl fun q26 o26 cs26 _ hat26 hr26 => ?_)
        obtain ⟨_, _, rfl, rfl, ⟨_, _, rfl, rfl, ⟨_, _, rfl, rfl, rfl⟩⟩⟩ := hr26
        replace hat26 : At gj14 q26 o26 [.int .i64 e27.1, sv e27.2.1, sv e27.2.2.1, .int .i64 e27.2.2.2] := hat26
        refine Ok.bat 1 [0, 2, 3, 4, 37] [(43, .pointer (some ⟨q26, o26 + 1, none⟩))] ?_
        refine Ok.opYes (j := 6) (d := 37) (want := true) (b := true) rfl (by kernel_rfl) (by kernel_rfl) rfl (OpOk.step (v := sv e27.2.1) (Yields.loadRo 1 hat26 (by kernel_rfl) Tryz.underlying9 rfl (by kernel_rfl)) rfl rfl (Ok.opYes (j := 6) (d := 37) (want := true) (b := true) rfl (by kernel_rfl) (by kernel_rfl) rfl (OpOk.step (v := .bool (e27.2.1 == ([45] : Bs))) (Yields.strCmp (f := .eql) (a := e27.2.1) (b := ([45] : Bs)) (by kernel_rfl) (by kernel_rfl) rfl) rfl rfl (Ok.bat 2 [0, 2, 3, 4] [(30, .bool (e27.2.1 == ([45] : Bs)))] ?_))))
        refine Ok.nil (Ok.thenN ?_)
        subst hg27
        refine Ok.reval 30 rfl (show (.bool ((ybxr_0l6.getD (Int.toNat 0) default).2.1 == ([45] : Bs)) : Value) = .bool (smV3 ybxr_0l6) from congrArg (Value.bool) (mand_t hc25)) ?_
        exact fun a W hA hW => ⟨gj14, (Gext.refl w0 gj14), hA.sub (by kernel_rfl), hW, hF⟩
       ·replace hF := hF.2 hc25
        refine Ok.bat 10 [0, 2, 3, 4] [(30, .bool false)] ?_
        refine Ok.nil (Ok.thenN (Ok.reval 30 rfl (show (.bool false : Value) = .bool (smV3 ybxr_0l6) from congrArg (Value.bool) (mand_f hc25)) ?_))
        exact fun a W hA hW => ⟨gj14, (Gext.refl w0 gj14), hA.sub (by kernel_rfl), hW, hF⟩
      ·
       clear hF
       rintro a W ⟨gj18, hxj18, hA, hW, hF⟩
       refine (?_ : Ok _ _ _ _ _ _) a W hA hW
       clear hA hW
       replace hRybs3_3l6 := hRybs3_3l6.mono hxj18.1
       replace hRybxr_0l6 := hRybxr_0l6.mono hxj18.1
       replace hG0 := hG0.mono hxj18.1
       replace hG1 := hG1.mono hxj18.1
       refine Ok.cond (b := (smV3 ybxr_0l6)) rfl (fun hc24 => ?_) (fun hc24 => ?_)
       ·replace hF := hF.1 hc24
        refine Ok.region (Ok.bat 1 [0, 2, 3, 4] [(5, .int .i64 3)] ?_)
        refine Ok.nil (Ok.blockN (Ok.thenN (Ok.reval 5 rfl (show (.int .i64 3 : Value) = .int .i64 (if (smV2 ybxr_0l6) = true then 2 else 3) from congrArg (Value.int .i64) ((if_f hc23).symm)) ?_)))
        exact fun a W hA hW => ⟨gj18, (hxj14.trans hxj18), hA.sub (by kernel_rfl), hW, hF⟩
       ·replace hF := hF.2 hc24
        refine Ok.seq (Ok.region (Ok.op rfl (OpOk.step (v := .agg #[.int .i64 ybs3_0l6, .int .i64 ybs3_1l6, sv ybs3_2l6, .slice aybs3_3l6 ybs3_3l6.length cybs3_3l6]) (Yields.loadAgg 0 4 #[.int .i64 ybs3_0l6, .int .i64 ybs3_1l6, sv ybs3_2l6, .slice aybs3_3l6 ybs3_3l6.length cybs3_3l6] rfl rfl Tryz.underlying26 rfl (by kernel_rfl) (by kernel_rfl) (by kernel_rfl)) rfl rfl (Ok.op rfl (OpOk.sto (k := 4) (v := .agg #[.int .i64 ybs3_0l6, .int .i64 ybs3_1l6, sv ybs3_2l6, .slice aybs3_3l6 ybs3_3l6.length cybs3_3l6]) 2 #[.int .i64 ybs3_0l6, .int .i64 ybs3_1l6, sv ybs3_2l6, .slice aybs3_3l6 ybs3_3l6.length cybs3_3l6] rfl rfl rfl ?_)))))
        refine Ok.nil (Ok.thenN (Ok.ret (Ok.blockR (Ok.thenR (Ok.blockR (Ok.thenR (Ok.blockR ?_)))))))
        exact Ok.resP (vs := [.agg #[.int .i64 ybs3_0l6, .int .i64 ybs3_1l6, sv ybs3_2l6, .slice aybs3_3l6 ybs3_3l6.length cybs3_3l6]]) [1] [.blk bxr (.cells #[.slice aybxr_0l6 ybxr_0l6.length cybxr_0l6, .int .i64 ybxr_1l6, .bool ybxr_2l6] 53)] (by decide) rfl (.inl rfl) rfl (.cons (.cellAgg 2 4 #[.int .i64 ybs3_0l6, .int .i64 ybs3_1l6, sv ybs3_2l6, .slice aybs3_3l6 ybs3_3l6.length cybs3_3l6] rfl rfl Tryz.underlying26 rfl (by kernel_rfl) (by kernel_rfl) (by kernel_rfl)) .nil) (((hx3.trans hxl6).trans hxj14).trans hxj18) ⟨(Tree.mk (ybs3_0l6, (ybs3_1l6, ybs3_2l6)) ybs3_3l6), (ybxr_0l6, ybxr_1l6, ybxr_2l6), aybs3_3l6, cybs3_3l6, aybxr_0l6, cybxr_0l6, rfl, hRybs3_3l6, hRybxr_0l6, rfl, hF⟩
   ·
    clear hF
    rintro a W ⟨gj12, hxj12, hA, hW, hF⟩
    refine (?_ : Ok _ _ _ _ _ _) a W hA hW
    clear hA hW
    replace hRybs3_3l6 := hRybs3_3l6.mono hxj12.1
    replace hRybxr_0l6 := hRybxr_0l6.mono hxj12.1
    replace hG0 := hG0.mono hxj12.1
    replace hG1 := hG1.mono hxj12.1
    refine Ok.seq (Ok.region (Ok.bat 4 [0, 2, 3, 4, 5] [(47, pv bxr 0), (50, pv bxr 0)] ?_))
    refine Ok.op rfl (OpOk.step (v := .slice aybxr_0l6 ybxr_0l6.length cybxr_0l6) (Yields.load 1 rfl rfl Tryz.underlying50 rfl (by kernel_rfl)) rfl rfl ?_)
    obtain ⟨h05, h15, h25, hF⟩ := hF
    refine Ok.op rfl (OpOk.sliceRo (e := .pair (.int .i64) (.pair (.str) (.pair (.str) (.int .i64)))) (l := 1) (h := (ybxr_0l6.length : Int)) rfl Tryz.underlying50 (by kernel_rfl) (.inl ⟨_, _, rfl, rfl⟩) (.inr ⟨rfl, rfl⟩) hRybxr_0l6 h05 h15 h25 rfl (ybxr_0l6.drop (Int.toNat 1)) (by rw [show ((ybxr_0l6.length : Int)).toNat = ybxr_0l6.length from Int.toNat_natCast _, List.take_length]) fun a5 c5 hR5 => ?_)
    refine Ok.bat 2 [0, 2, 3, 4, 5] [(52, .slice a5 (ybxr_0l6.drop (Int.toNat 1)).length c5), (54, pv bxr 0)] ?_
    refine Ok.op rfl (OpOk.sto (k := 1) (v := .slice a5 (ybxr_0l6.drop (Int.toNat 1)).length c5) 1 #[.slice a5 (ybxr_0l6.drop (Int.toNat 1)).length c5, .int .i64 ybxr_1l6, .bool ybxr_2l6] rfl rfl rfl ?_)
    refine Ok.nil (Ok.thenN (Ok.seq (Ok.region (Ok.bat 3 [0, 2, 3, 5] [(55, pv bxr 0), (57, .bool ybxr_2l6)] ?_))))
    refine Ok.boolAt 57 (ybxr_2l6) rfl (fun hc6 => ?_) (fun hc6 => ?_)
    ·replace hF := hF.1 hc6
     refine Ok.bat 1 [0, 2, 3, 5, 55] [(57, .bool true), (58, pv bxr 0)] ?_
     refine Ok.entries [1, 0, 2] [.blk bxr (.cells #[.slice a5 (ybxr_0l6.drop (Int.toNat 1)).length c5, .int .i64 ybxr_1l6, .bool ybxr_2l6] 53), .blk bs3 (.cells #[.int .i64 ybs3_0l6, .int .i64 ybs3_1l6, sv ybs3_2l6, .slice aybs3_3l6 ybs3_3l6.length cybs3_3l6] 26), .blk bs2 (.cells #[.int .i64 0, .int .i64 0, sv ([] : Bs), .slice none 0 0] 26)] (by decide) rfl (Ok.opYes (j := 2) (d := 57) (want := true) (b := true) rfl (by kernel_rfl) (by kernel_rfl) rfl (OpOk.callH [_] _ enr rfl (gap_c ((ybxr_0l6.drop (Int.toNat 1)), ybxr_1l6, ybxr_2l6) hR5) rfl fun g7 _ _ hx7 hV7 => ?_))
     obtain ⟨a7_0, c7_0, rfl, hR7_0, rfl⟩ := hV7
     replace hRybs3_3l6 := hRybs3_3l6.mono hx7.1
     replace hG0 := hG0.mono hx7.1
     replace hG1 := hG1.mono hx7.1
     refine Ok.batch 1 [(0, pv bxr 0), (2, pv bs2 0), (3, pv bs3 0), (5, .int .i64 (if (smV2 ybxr_0l6) = true then 2 else 3)), (55, pv bxr 0), (60, .bool (gapS ((ybxr_0l6.drop (Int.toNat 1)), ybxr_1l6, ybxr_2l6)).1)] (by kernel_rfl) (Ok.op rfl (OpOk.inline (args := #[pv bxr 0, .bool (gapS ((ybxr_0l6.drop (Int.toNat 1)), ybxr_1l6, ybxr_2l6)).1]) 8 [(0, pv bxr 0), (1, .bool (gapS ((ybxr_0l6.drop (Int.toNat 1)), ybxr_1l6, ybxr_2l6)).1)] enr Tryz.func19 rfl rfl rfl rfl (Ok.seq (Ok.region (Ok.batch 2 [(5, .bool (!((gapS ((ybxr_0l6.drop (Int.toNat 1)), ybxr_1l6, ybxr_2l6)).1)))] (by kernel_rfl) (Ok.nil (Ok.thenN (Ok.cond (b := !((gapS ((ybxr_0l6.drop (Int.toNat 1)), ybxr_1l6, ybxr_2l6)).1)) rfl (fun hc8 => ?_) (fun hc8 => ?_)))))))))
     ·replace hF := hF.1 hc8
      exact False.elim hF
     ·replace hF := hF.2 hc8
      refine Ok.skip (Ok.back (vs := []) (.inr rfl) rfl .nil rfl (Ok.nil (Ok.thenN (Ok.fork [] [] [.blk bs2 (.cells #[.int .i64 0, .int .i64 0, sv ([] : Bs), .slice none 0 0] 26)] [(0, true), (1, true), (3, true)] 2 [(4, false), (5, false), (6, true), (7, false), (8, false)] 4 [(2, false), (5, false), (6, true), (7, false), (8, false)] (by kernel_rfl) (by kernel_rfl) (.cons _ (.cons _ (.cons_cons _ .slnil))) (OkM.batch 3 [(0, pv bxr 0), (2, pv bs2 0), (3, pv bs3 0), (62, pv bxr 0), (63, .int .i64 (if (smV2 ybxr_0l6) = true then 2 else 3)), (65, pv bxr 0)] (by kernel_rfl) (OkM.nil (Ok.both ?_ ?_)))))))
      ·replace hF := hF.1
       refine OkM.tail rfl rfl (OpOk.step (v := .agg #[.int .i64 ybs3_0l6, .int .i64 ybs3_1l6, sv ybs3_2l6, .slice aybs3_3l6 ybs3_3l6.length cybs3_3l6]) (Yields.loadAgg 1 4 #[.int .i64 ybs3_0l6, .int .i64 ybs3_1l6, sv ybs3_2l6, .slice aybs3_3l6 ybs3_3l6.length cybs3_3l6] rfl rfl Tryz.underlying26 rfl (by kernel_rfl) (by kernel_rfl) (by kernel_rfl)) rfl rfl (OkM.leaf (i := 2) (show _ = [.blk bs2 (.cells #[.int .i64 0, .int .i64 0, sv ([] : Bs), .slice none 0 0] 26)] from rfl) (Gle.refl _) (.cons _ (.cons _ (.cons_cons _ .slnil))) ?_))
       obtain ⟨hp9, hF⟩ := hF
       refine OkM.tail rfl rfl (OpOk.callH [_] _ enr rfl (prd_c (gapS ((ybxr_0l6.drop (Int.toNat 1)), ybxr_1l6, ybxr_2l6)).2 hR7_0 hG0 hG1 hp9) rfl fun g10 _ _ hx10 hV10 => ?_)
       obtain ⟨a10_0, c10_0, a10_2, c10_2, rfl, hR10_0, hR10_2, rfl⟩ := hV10
       replace hRybs3_3l6 := hRybs3_3l6.mono hx10.1
       replace hG0 := hG0.mono hx10.1
       replace hG1 := hG1.mono hx10.1
       refine OkM.leaf (i := 4) (show _ = [.blk bs2 (.cells #[.int .i64 0, .int .i64 0, sv ([] : Bs), .slice none 0 0] 26)] from rfl) hx10.1 (.cons _ (.cons _ (.cons_cons _ .slnil))) ?_
       have hL11 : RepL g10 (.tree (.pair (.int .i64) (.pair (.int .i64) (.str)))) ([.int .i64 ybs3_0l6, .int .i64 ybs3_1l6, sv ybs3_2l6, .slice aybs3_3l6 ybs3_3l6.length cybs3_3l6, .int .i64 (((prdR (gapS ((ybxr_0l6.drop (Int.toNat 1)), ybxr_1l6, ybxr_2l6)).2).1).lab.1), .int .i64 (((prdR (gapS ((ybxr_0l6.drop (Int.toNat 1)), ybxr_1l6, ybxr_2l6)).2).1).lab.2).1, sv ((((prdR (gapS ((ybxr_0l6.drop (Int.toNat 1)), ybxr_1l6, ybxr_2l6)).2).1).lab.2).2), .slice a10_0 (((prdR (gapS ((ybxr_0l6.drop (Int.toNat 1)), ybxr_1l6, ybxr_2l6)).2).1).kids).length c10_0] : List Value) ([(Tree.mk (ybs3_0l6, (ybs3_1l6, ybs3_2l6)) ybs3_3l6), (prdR (gapS ((ybxr_0l6.drop (Int.toNat 1)), ybxr_1l6, ybxr_2l6)).2).1] : List (Tree (Int × Int × Bs))) := (RepL.consN (c := [.int .i64 ybs3_0l6, .int .i64 ybs3_1l6, sv ybs3_2l6, .slice aybs3_3l6 ybs3_3l6.length cybs3_3l6]) (Rep.tree.2 ⟨[.int .i64 ybs3_0l6, .int .i64 ybs3_1l6, sv ybs3_2l6], [.slice aybs3_3l6 ybs3_3l6.length cybs3_3l6], rfl, ⟨[.int .i64 ybs3_0l6], [.int .i64 ybs3_1l6, sv ybs3_2l6], rfl, rfl, ⟨[.int .i64 ybs3_1l6], [sv ybs3_2l6], rfl, rfl, rfl⟩⟩, hRybs3_3l6⟩) (RepL.consN (c := [.int .i64 (((prdR (gapS ((ybxr_0l6.drop (Int.toNat 1)), ybxr_1l6, ybxr_2l6)).2).1).lab.1), .int .i64 (((prdR (gapS ((ybxr_0l6.drop (Int.toNat 1)), ybxr_1l6, ybxr_2l6)).2).1).lab.2).1, sv ((((prdR (gapS ((ybxr_0l6.drop (Int.toNat 1)), ybxr_1l6, ybxr_2l6)).2).1).lab.2).2), .slice a10_0 (((prdR (gapS ((ybxr_0l6.drop (Int.toNat 1)), ybxr_1l6, ybxr_2l6)).2).1).kids).length c10_0]) (Rep.tree.2 ⟨[.int .i64 (((prdR (gapS ((ybxr_0l6.drop (Int.toNat 1)), ybxr_1l6, ybxr_2l6)).2).1).lab.1), .int .i64 (((prdR (gapS ((ybxr_0l6.drop (Int.toNat 1)), ybxr_1l6, ybxr_2l6)).2).1).lab.2).1, sv ((((prdR (gapS ((ybxr_0l6.drop (Int.toNat 1)), ybxr_1l6, ybxr_2l6)).2).1).lab.2).2)], [.slice a10_0 (((prdR (gapS ((ybxr_0l6.drop (Int.toNat 1)), ybxr_1l6, ybxr_2l6)).2).1).kids).length c10_0], rfl, ⟨[.int .i64 (((prdR (gapS ((ybxr_0l6.drop (Int.toNat 1)), ybxr_1l6, ybxr_2l6)).2).1).lab.1)], [.int .i64 (((prdR (gapS ((ybxr_0l6.drop (Int.toNat 1)), ybxr_1l6, ybxr_2l6)).2).1).lab.2).1, sv ((((prdR (gapS ((ybxr_0l6.drop (Int.toNat 1)), ybxr_1l6, ybxr_2l6)).2).1).lab.2).2)], rfl, rfl, ⟨[.int .i64 (((prdR (gapS ((ybxr_0l6.drop (Int.toNat 1)), ybxr_1l6, ybxr_2l6)).2).1).lab.2).1], [sv ((((prdR (gapS ((ybxr_0l6.drop (Int.toNat 1)), ybxr_1l6, ybxr_2l6)).2).1).lab.2).2)], rfl, rfl, rfl⟩⟩, hR10_0⟩) rfl))
       refine OkM.tail rfl rfl (OpOk.lit (E := 26) (.tree (.pair (.int .i64) (.pair (.int .i64) (.str)))) ([(Tree.mk (ybs3_0l6, (ybs3_1l6, ybs3_2l6)) ybs3_3l6), (prdR (gapS ((ybxr_0l6.drop (Int.toNat 1)), ybxr_1l6, ybxr_2l6)).2).1] : List (Tree (Int × Int × Bs))) ([.int .i64 ybs3_0l6, .int .i64 ybs3_1l6, sv ybs3_2l6, .slice aybs3_3l6 ybs3_3l6.length cybs3_3l6, .int .i64 (((prdR (gapS ((ybxr_0l6.drop (Int.toNat 1)), ybxr_1l6, ybxr_2l6)).2).1).lab.1), .int .i64 (((prdR (gapS ((ybxr_0l6.drop (Int.toNat 1)), ybxr_1l6, ybxr_2l6)).2).1).lab.2).1, sv ((((prdR (gapS ((ybxr_0l6.drop (Int.toNat 1)), ybxr_1l6, ybxr_2l6)).2).1).lab.2).2), .slice a10_0 (((prdR (gapS ((ybxr_0l6.drop (Int.toNat 1)), ybxr_1l6, ybxr_2l6)).2).1).kids).length c10_0] : List Value) (by kernel_rfl) (by kernel_rfl) rfl (by kernel_rfl) hL11 rfl fun b11 => ?_)
       refine OkM.leaf (i := 5) (show _ = [.blk bs2 (.cells #[.int .i64 0, .int .i64 0, sv ([] : Bs), .slice none 0 0] 26)] from rfl) hx10.1 (.cons _ (.cons _ (.cons _ (.cons_cons _ .slnil)))) (OkM.bat 1 [0, 2, 3, 62] [(68, .agg #[.int .i64 (if (smV2 ybxr_0l6) = true then 2 else 3), .int .i64 0, sv ([] : Bs), .slice (some ⟨b11, 0, none⟩) ([(Tree.mk (ybs3_0l6, (ybs3_1l6, ybs3_2l6)) ybs3_3l6), (prdR (gapS ((ybxr_0l6.drop (Int.toNat 1)), ybxr_1l6, ybxr_2l6)).2).1] : List (Tree (Int × Int × Bs))).length 2])] ?_)
       refine OkM.tail rfl rfl (OpOk.inline (args := #[pv bxr 0, .agg #[.int .i64 (if (smV2 ybxr_0l6) = true then 2 else 3), .int .i64 0, sv ([] : Bs), .slice (some ⟨b11, 0, none⟩) ([(Tree.mk (ybs3_0l6, (ybs3_1l6, ybs3_2l6)) ybs3_3l6), (prdR (gapS ((ybxr_0l6.drop (Int.toNat 1)), ybxr_1l6, ybxr_2l6)).2).1] : List (Tree (Int × Int × Bs))).length 2]]) 20 [(0, pv bxr 0), (1, .agg #[.int .i64 (if (smV2 ybxr_0l6) = true then 2 else 3), .int .i64 0, sv ([] : Bs), .slice (some ⟨b11, 0, none⟩) ([(Tree.mk (ybs3_0l6, (ybs3_1l6, ybs3_2l6)) ybs3_3l6), (prdR (gapS ((ybxr_0l6.drop (Int.toNat 1)), ybxr_1l6, ybxr_2l6)).2).1] : List (Tree (Int × Int × Bs))).length 2])] enr Tryz.func35 rfl rfl rfl rfl (Ok.seq (Ok.region (Ok.op rfl (OpOk.box (v := .agg #[.int .i64 (if (smV2 ybxr_0l6) = true then 2 else 3), .int .i64 0, sv ([] : Bs), .slice (some ⟨b11, 0, none⟩) ([(Tree.mk (ybs3_0l6, (ybs3_1l6, ybs3_2l6)) ybs3_3l6), (prdR (gapS ((ybxr_0l6.drop (Int.toNat 1)), ybxr_1l6, ybxr_2l6)).2).1] : List (Tree (Int × Int × Bs))).length 2]) (cs := #[.int .i64 (if (smV2 ybxr_0l6) = true then 2 else 3), .int .i64 0, sv ([] : Bs), .slice (some ⟨b11, 0, none⟩) ([(Tree.mk (ybs3_0l6, (ybs3_1l6, ybs3_2l6)) ybs3_3l6), (prdR (gapS ((ybxr_0l6.drop (Int.toNat 1)), ybxr_1l6, ybxr_2l6)).2).1] : List (Tree (Int × Int × Bs))).length 2]) rfl (by kernel_rfl) rfl fun bs3i69 => ?_)))))
       refine Ok.op rfl (OpOk.alloc (z := .agg #[.int .i64 0, .int .i64 0, sv ([] : Bs), .slice none 0 0]) (cs := #[.int .i64 0, .int .i64 0, sv ([] : Bs), .slice none 0 0]) (by kernel_rfl) (by kernel_rfl) rfl fun bs4i69 => ?_)
       refine Ok.nil (Ok.frz 2 rfl hL11 fun g14 hx14 hRf14 => ?_)
       replace hR10_2 := hR10_2.mono hx14.1
       replace hRybs3_3l6 := hRybs3_3l6.mono hx14.1
       replace hG0 := hG0.mono hx14.1
       replace hG1 := hG1.mono hx14.1
       refine Ok.thenN (Ok.seq (Ok.seq (Ok.region (Ok.bat 3 [0] [(3, pv bs3i69 0), (4, pv bs4i69 0), (5, pv bxr 0), (7, pv bxr 1)] ?_))))
       refine Ok.op rfl (OpOk.step (v := .int .i64 (prdR (gapS ((ybxr_0l6.drop (Int.toNat 1)), ybxr_1l6, ybxr_2l6)).2).2.2.1) (Yields.load 2 rfl rfl Tryz.underlying3 rfl (by kernel_rfl)) rfl rfl (Ok.bat 3 [0, 3, 4] [(9, .int .i64 (w6 ((prdR (gapS ((ybxr_0l6.drop (Int.toNat 1)), ybxr_1l6, ybxr_2l6)).2).2.2.1 + 1))), (11, pv bxr 1)] ?_))
       refine Ok.op rfl (OpOk.sto (k := 1) (v := .int .i64 (w6 ((prdR (gapS ((ybxr_0l6.drop (Int.toNat 1)), ybxr_1l6, ybxr_2l6)).2).2.2.1 + 1))) 2 #[.slice a10_2 ((prdR (gapS ((ybxr_0l6.drop (Int.toNat 1)), ybxr_1l6, ybxr_2l6)).2).2.1).length c10_2, .int .i64 (w6 ((prdR (gapS ((ybxr_0l6.drop (Int.toNat 1)), ybxr_1l6, ybxr_2l6)).2).2.2.1 + 1)), .bool (prdR (gapS ((ybxr_0l6.drop (Int.toNat 1)), ybxr_1l6, ybxr_2l6)).2).2.2.2] rfl rfl rfl ?_)
       refine Ok.nil (Ok.thenN (Ok.seq (Ok.region (Ok.bat 3 [3, 4] [(14, pv bxr 1)] ?_))))
       refine Ok.op rfl (OpOk.step (v := .int .i64 (w6 ((prdR (gapS ((ybxr_0l6.drop (Int.toNat 1)), ybxr_1l6, ybxr_2l6)).2).2.2.1 + 1))) (Yields.load 2 rfl rfl Tryz.underlying3 rfl (by kernel_rfl)) rfl rfl (Ok.bat 1 [3, 4] [(16, .bool (decide ((w6 ((prdR (gapS ((ybxr_0l6.drop (Int.toNat 1)), ybxr_1l6, ybxr_2l6)).2).2.2.1 + 1)) > 30)))] ?_))
       refine Ok.nil (Ok.thenN (Ok.cond (b := decide ((w6 ((prdR (gapS ((ybxr_0l6.drop (Int.toNat 1)), ybxr_1l6, ybxr_2l6)).2).2.2.1 + 1)) > 30)) rfl (fun hc15 => ?_) (fun hc15 => ?_)))
       ·replace hF := hF.1 hc15
        exact False.elim hF
       ·replace hF := hF.2 hc15
        refine Ok.skip (Ok.thenN (Ok.seq (Ok.region (Ok.op rfl (OpOk.step (v := .agg #[.int .i64 (if (smV2 ybxr_0l6) = true then 2 else 3), .int .i64 0, sv ([] : Bs), .slice (some ⟨b11, 0, none⟩) ([(Tree.mk (ybs3_0l6, (ybs3_1l6, ybs3_2l6)) ybs3_3l6), (prdR (gapS ((ybxr_0l6.drop (Int.toNat 1)), ybxr_1l6, ybxr_2l6)).2).1] : List (Tree (Int × Int × Bs))).length 2]) (Yields.loadAgg 1 4 #[.int .i64 (if (smV2 ybxr_0l6) = true then 2 else 3), .int .i64 0, sv ([] : Bs), .slice (some ⟨b11, 0, none⟩) ([(Tree.mk (ybs3_0l6, (ybs3_1l6, ybs3_2l6)) ybs3_3l6), (prdR (gapS ((ybxr_0l6.drop (Int.toNat 1)), ybxr_1l6, ybxr_2l6)).2).1] : List (Tree (Int × Int × Bs))).length 2] rfl rfl Tryz.underlying26 rfl (by kernel_rfl) (by kernel_rfl) (by kernel_rfl)) rfl rfl (Ok.op rfl (OpOk.sto (k := 4) (v := .agg #[.int .i64 (if (smV2 ybxr_0l6) = true then 2 else 3), .int .i64 0, sv ([] : Bs), .slice (some ⟨b11, 0, none⟩) ([(Tree.mk (ybs3_0l6, (ybs3_1l6, ybs3_2l6)) ybs3_3l6), (prdR (gapS ((ybxr_0l6.drop (Int.toNat 1)), ybxr_1l6, ybxr_2l6)).2).1] : List (Tree (Int × Int × Bs))).length 2]) 0 #[.int .i64 (if (smV2 ybxr_0l6) = true then 2 else 3), .int .i64 0, sv ([] : Bs), .slice (some ⟨b11, 0, none⟩) ([(Tree.mk (ybs3_0l6, (ybs3_1l6, ybs3_2l6)) ybs3_3l6), (prdR (gapS ((ybxr_0l6.drop (Int.toNat 1)), ybxr_1l6, ybxr_2l6)).2).1] : List (Tree (Int × Int × Bs))).length 2] rfl rfl rfl ?_)))))))
        refine Ok.nil (Ok.thenN (Ok.ret (Ok.back (vs := [.agg #[.int .i64 (if (smV2 ybxr_0l6) = true then 2 else 3), .int .i64 0, sv ([] : Bs), .slice (some ⟨b11, 0, none⟩) ([(Tree.mk (ybs3_0l6, (ybs3_1l6, ybs3_2l6)) ybs3_3l6), (prdR (gapS ((ybxr_0l6.drop (Int.toNat 1)), ybxr_1l6, ybxr_2l6)).2).1] : List (Tree (Int × Int × Bs))).length 2]]) (.inl rfl) rfl (.cons (.cellAgg 0 4 #[.int .i64 (if (smV2 ybxr_0l6) = true then 2 else 3), .int .i64 0, sv ([] : Bs), .slice (some ⟨b11, 0, none⟩) ([(Tree.mk (ybs3_0l6, (ybs3_1l6, ybs3_2l6)) ybs3_3l6), (prdR (gapS ((ybxr_0l6.drop (Int.toNat 1)), ybxr_1l6, ybxr_2l6)).2).1] : List (Tree (Int × Int × Bs))).length 2] rfl rfl Tryz.underlying26 rfl (by kernel_rfl) (by kernel_rfl) (by kernel_rfl)) .nil) rfl (OkM.leaf (i := 7) (show _ = [.blk bs2 (.cells #[.int .i64 0, .int .i64 0, sv ([] : Bs), .slice none 0 0] 26)] from rfl) (hx10.trans hx14).1 (.cons _ (.cons _ (.cons _ (.cons _ (.cons_cons _ .slnil))))) (OkM.tail rfl rfl (OpOk.sto (k := 4) (v := .agg #[.int .i64 (if (smV2 ybxr_0l6) = true then 2 else 3), .int .i64 0, sv ([] : Bs), .slice (some ⟨b11, 0, none⟩) ([(Tree.mk (ybs3_0l6, (ybs3_1l6, ybs3_2l6)) ybs3_3l6), (prdR (gapS ((ybxr_0l6.drop (Int.toNat 1)), ybxr_1l6, ybxr_2l6)).2).1] : List (Tree (Int × Int × Bs))).length 2]) 3 #[.int .i64 (if (smV2 ybxr_0l6) = true then 2 else 3), .int .i64 0, sv ([] : Bs), .slice (some ⟨b11, 0, none⟩) ([(Tree.mk (ybs3_0l6, (ybs3_1l6, ybs3_2l6)) ybs3_3l6), (prdR (gapS ((ybxr_0l6.drop (Int.toNat 1)), ybxr_1l6, ybxr_2l6)).2).1] : List (Tree (Int × Int × Bs))).length 2] rfl rfl rfl ?_))))))
        refine OkM.leaf (i := 8) (show _ = [.blk bs2 (.cells #[.int .i64 0, .int .i64 0, sv ([] : Bs), .slice none 0 0] 26)] from rfl) (hx10.trans hx14).1 (.cons _ (.cons _ (.cons _ (.cons _ (.cons_cons _ .slnil))))) (OkM.nil (Ok.blockN (Ok.thenN ?_)))
        exact fun a W hA hW => ⟨k6, Nat.lt_succ_self _, g14, ((((hxl6.trans hxj12).trans hx7).trans hx10).trans hx14), (if (smV2 ybxr_0l6) = true then 2 else 3), 0, ([] : Bs), (some ⟨b11, 0, none⟩), 2, ([(Tree.mk (ybs3_0l6, (ybs3_1l6, ybs3_2l6)) ybs3_3l6), (prdR (gapS ((ybxr_0l6.drop (Int.toNat 1)), ybxr_1l6, ybxr_2l6)).2).1] : List (Tree (Int × Int × Bs))), a10_2, c10_2, (prdR (gapS ((ybxr_0l6.drop (Int.toNat 1)), ybxr_1l6, ybxr_2l6)).2).2.1, w6 ((prdR (gapS ((ybxr_0l6.drop (Int.toNat 1)), ybxr_1l6, ybxr_2l6)).2).2.2.1 + 1), (prdR (gapS ((ybxr_0l6.drop (Int.toNat 1)), ybxr_1l6, ybxr_2l6)).2).2.2.2, hRf14, hR10_2, hA.sub (by kernel_rfl), hW.pick [3, 2, 4] _ (by decide) rfl, hF⟩
      ·replace hF := hF.2
       obtain ⟨hp16, hF⟩ := hF
       refine OkM.tail rfl rfl (OpOk.callH [_] _ enr rfl (prd_c (gapS ((ybxr_0l6.drop (Int.toNat 1)), ybxr_1l6, ybxr_2l6)).2 hR7_0 hG0 hG1 hp16) rfl fun g17 _ _ hx17 hV17 => ?_)
       obtain ⟨a17_0, c17_0, a17_2, c17_2, rfl, hR17_0, hR17_2, rfl⟩ := hV17
       replace hRybs3_3l6 := hRybs3_3l6.mono hx17.1
       replace hG0 := hG0.mono hx17.1
       replace hG1 := hG1.mono hx17.1
       refine OkM.leaf (i := 4) (show _ = [.blk bs2 (.cells #[.int .i64 0, .int .i64 0, sv ([] : Bs), .slice none 0 0] 26)] from rfl) hx17.1 (.cons _ (.cons _ (.cons_cons _ .slnil))) (OkM.tail rfl rfl (OpOk.step (v := .agg #[.int .i64 ybs3_0l6, .int .i64 ybs3_1l6, sv ybs3_2l6, .slice aybs3_3l6 ybs3_3l6.length cybs3_3l6]) (Yields.loadAgg 1 4 #[.int .i64 ybs3_0l6, .int .i64 ybs3_1l6, sv ybs3_2l6, .slice aybs3_3l6 ybs3_3l6.length cybs3_3l6] rfl rfl Tryz.underlying26 rfl (by kernel_rfl) (by kernel_rfl) (by kernel_rfl)) rfl rfl (OkM.leaf (i := 2) (show _ = [.blk bs2 (.cells #[.int .i64 0, .int .i64 0, sv ([] : Bs), .slice none 0 0] 26)] from rfl) hx17.1 (.cons _ (.cons _ (.cons_cons _ .slnil))) ?_)))
       have hL18 : RepL g17 (.tree (.pair (.int .i64) (.pair (.int .i64) (.str)))) ([.int .i64 ybs3_0l6, .int .i64 ybs3_1l6, sv ybs3_2l6, .slice aybs3_3l6 ybs3_3l6.length cybs3_3l6, .int .i64 (((prdR (gapS ((ybxr_0l6.drop (Int.toNat 1)), ybxr_1l6, ybxr_2l6)).2).1).lab.1), .int .i64 (((prdR (gapS ((ybxr_0l6.drop (Int.toNat 1)), ybxr_1l6, ybxr_2l6)).2).1).lab.2).1, sv ((((prdR (gapS ((ybxr_0l6.drop (Int.toNat 1)), ybxr_1l6, ybxr_2l6)).2).1).lab.2).2), .slice a17_0 (((prdR (gapS ((ybxr_0l6.drop (Int.toNat 1)), ybxr_1l6, ybxr_2l6)).2).1).kids).length c17_0] : List Value) ([(Tree.mk (ybs3_0l6, (ybs3_1l6, ybs3_2l6)) ybs3_3l6), (prdR (gapS ((ybxr_0l6.drop (Int.toNat 1)), ybxr_1l6, ybxr_2l6)).2).1] : List (Tree (Int × Int × Bs))) := (RepL.consN (c := [.int .i64 ybs3_0l6, .int .i64 ybs3_1l6, sv ybs3_2l6, .slice aybs3_3l6 ybs3_3l6.length cybs3_3l6]) (Rep.tree.2 ⟨[.int .i64 ybs3_0l6, .int .i64 ybs3_1l6, sv ybs3_2l6], [.slice aybs3_3l6 ybs3_3l6.length cybs3_3l6], rfl, ⟨[.int .i64 ybs3_0l6], [.int .i64 ybs3_1l6, sv ybs3_2l6], rfl, rfl, ⟨[.int .i64 ybs3_1l6], [sv ybs3_2l6], rfl, rfl, rfl⟩⟩, hRybs3_3l6⟩) (RepL.consN (c := [.int .i64 (((prdR (gapS ((ybxr_0l6.drop (Int.toNat 1)), ybxr_1l6, ybxr_2l6)).2).1).lab.1), .int .i64 (((prdR (gapS ((ybxr_0l6.drop (Int.toNat 1)), ybxr_1l6, ybxr_2l6)).2).1).lab.2).1, sv ((((prdR (gapS ((ybxr_0l6.drop (Int.toNat 1)), ybxr_1l6, ybxr_2l6)).2).1).lab.2).2), .slice a17_0 (((prdR (gapS ((ybxr_0l6.drop (Int.toNat 1)), ybxr_1l6, ybxr_2l6)).2).1).kids).length c17_0]) (Rep.tree.2 ⟨[.int .i64 (((prdR (gapS ((ybxr_0l6.drop (Int.toNat 1)), ybxr_1l6, ybxr_2l6)).2).1).lab.1), .int .i64 (((prdR (gapS ((ybxr_0l6.drop (Int.toNat 1)), ybxr_1l6, ybxr_2l6)).2).1).lab.2).1, sv ((((prdR (gapS ((ybxr_0l6.drop (Int.toNat 1)), ybxr_1l6, ybxr_2l6)).2).1).lab.2).2)], [.slice a17_0 (((prdR (gapS ((ybxr_0l6.drop (Int.toNat 1)), ybxr_1l6, ybxr_2l6)).2).1).kids).length c17_0], rfl, ⟨[.int .i64 (((prdR (gapS ((ybxr_0l6.drop (Int.toNat 1)), ybxr_1l6, ybxr_2l6)).2).1).lab.1)], [.int .i64 (((prdR (gapS ((ybxr_0l6.drop (Int.toNat 1)), ybxr_1l6, ybxr_2l6)).2).1).lab.2).1, sv ((((prdR (gapS ((ybxr_0l6.drop (Int.toNat 1)), ybxr_1l6, ybxr_2l6)).2).1).lab.2).2)], rfl, rfl, ⟨[.int .i64 (((prdR (gapS ((ybxr_0l6.drop (Int.toNat 1)), ybxr_1l6, ybxr_2l6)).2).1).lab.2).1], [sv ((((prdR (gapS ((ybxr_0l6.drop (Int.toNat 1)), ybxr_1l6, ybxr_2l6)).2).1).lab.2).2)], rfl, rfl, rfl⟩⟩, hR17_0⟩) rfl))
       refine OkM.tail rfl rfl (OpOk.lit (E := 26) (.tree (.pair (.int .i64) (.pair (.int .i64) (.str)))) ([(Tree.mk (ybs3_0l6, (ybs3_1l6, ybs3_2l6)) ybs3_3l6), (prdR (gapS ((ybxr_0l6.drop (Int.toNat 1)), ybxr_1l6, ybxr_2l6)).2).1] : List (Tree (Int × Int × Bs))) ([.int .i64 ybs3_0l6, .int .i64 ybs3_1l6, sv ybs3_2l6, .slice aybs3_3l6 ybs3_3l6.length cybs3_3l6, .int .i64 (((prdR (gapS ((ybxr_0l6.drop (Int.toNat 1)), ybxr_1l6, ybxr_2l6)).2).1).lab.1), .int .i64 (((prdR (gapS ((ybxr_0l6.drop (Int.toNat 1)), ybxr_1l6, ybxr_2l6)).2).1).lab.2).1, sv ((((prdR (gapS ((ybxr_0l6.drop (Int.toNat 1)), ybxr_1l6, ybxr_2l6)).2).1).lab.2).2), .slice a17_0 (((prdR (gapS ((ybxr_0l6.drop (Int.toNat 1)), ybxr_1l6, ybxr_2l6)).2).1).kids).length c17_0] : List Value) (by kernel_rfl) (by kernel_rfl) rfl (by kernel_rfl) hL18 rfl fun b18 => ?_)
       refine OkM.leaf (i := 5) (show _ = [.blk bs2 (.cells #[.int .i64 0, .int .i64 0, sv ([] : Bs), .slice none 0 0] 26)] from rfl) hx17.1 (.cons _ (.cons _ (.cons _ (.cons_cons _ .slnil)))) (OkM.bat 1 [0, 2, 3, 62] [(68, .agg #[.int .i64 (if (smV2 ybxr_0l6) = true then 2 else 3), .int .i64 0, sv ([] : Bs), .slice (some ⟨b18, 0, none⟩) ([(Tree.mk (ybs3_0l6, (ybs3_1l6, ybs3_2l6)) ybs3_3l6), (prdR (gapS ((ybxr_0l6.drop (Int.toNat 1)), ybxr_1l6, ybxr_2l6)).2).1] : List (Tree (Int × Int × Bs))).length 2])] ?_)
       refine OkM.tail rfl rfl (OpOk.inline (args := #[pv bxr 0, .agg #[.int .i64 (if (smV2 ybxr_0l6) = true then 2 else 3), .int .i64 0, sv ([] : Bs), .slice (some ⟨b18, 0, none⟩) ([(Tree.mk (ybs3_0l6, (ybs3_1l6, ybs3_2l6)) ybs3_3l6), (prdR (gapS ((ybxr_0l6.drop (Int.toNat 1)), ybxr_1l6, ybxr_2l6)).2).1] : List (Tree (Int × Int × Bs))).length 2]]) 20 [(0, pv bxr 0), (1, .agg #[.int .i64 (if (smV2 ybxr_0l6) = true then 2 else 3), .int .i64 0, sv ([] : Bs), .slice (some ⟨b18, 0, none⟩) ([(Tree.mk (ybs3_0l6, (ybs3_1l6, ybs3_2l6)) ybs3_3l6), (prdR (gapS ((ybxr_0l6.drop (Int.toNat 1)), ybxr_1l6, ybxr_2l6)).2).1] : List (Tree (Int × Int × Bs))).length 2])] enr Tryz.func35 rfl rfl rfl rfl (Ok.seq (Ok.region (Ok.op rfl (OpOk.box (v := .agg #[.int .i64 (if (smV2 ybxr_0l6) = true then 2 else 3), .int .i64 0, sv ([] : Bs), .slice (some ⟨b18, 0, none⟩) ([(Tree.mk (ybs3_0l6, (ybs3_1l6, ybs3_2l6)) ybs3_3l6), (prdR (gapS ((ybxr_0l6.drop (Int.toNat 1)), ybxr_1l6, ybxr_2l6)).2).1] : List (Tree (Int × Int × Bs))).length 2]) (cs := #[.int .i64 (if (smV2 ybxr_0l6) = true then 2 else 3), .int .i64 0, sv ([] : Bs), .slice (some ⟨b18, 0, none⟩) ([(Tree.mk (ybs3_0l6, (ybs3_1l6, ybs3_2l6)) ybs3_3l6), (prdR (gapS ((ybxr_0l6.drop (Int.toNat 1)), ybxr_1l6, ybxr_2l6)).2).1] : List (Tree (Int × Int × Bs))).length 2]) rfl (by kernel_rfl) rfl fun bs3i69 => ?_)))))
       refine Ok.op rfl (OpOk.alloc (z := .agg #[.int .i64 0, .int .i64 0, sv ([] : Bs), .slice none 0 0]) (cs := #[.int .i64 0, .int .i64 0, sv ([] : Bs), .slice none 0 0]) (by kernel_rfl) (by kernel_rfl) rfl fun bs4i69 => ?_)
       refine Ok.nil (Ok.frz 2 rfl hL18 fun g21 hx21 hRf21 => ?_)
       replace hR17_2 := hR17_2.mono hx21.1
       replace hRybs3_3l6 := hRybs3_3l6.mono hx21.1
       replace hG0 := hG0.mono hx21.1
       replace hG1 := hG1.mono hx21.1
       refine Ok.thenN (Ok.seq (Ok.seq (Ok.region (Ok.bat 3 [0] [(3, pv bs3i69 0), (4, pv bs4i69 0), (5, pv bxr 0), (7, pv bxr 1)] ?_))))
       refine Ok.op rfl (OpOk.step (v := .int .i64 (prdR (gapS ((ybxr_0l6.drop (Int.toNat 1)), ybxr_1l6, ybxr_2l6)).2).2.2.1) (Yields.load 2 rfl rfl Tryz.underlying3 rfl (by kernel_rfl)) rfl rfl (Ok.bat 3 [0, 3, 4] [(9, .int .i64 (w6 ((prdR (gapS ((ybxr_0l6.drop (Int.toNat 1)), ybxr_1l6, ybxr_2l6)).2).2.2.1 + 1))), (11, pv bxr 1)] ?_))
       refine Ok.op rfl (OpOk.sto (k := 1) (v := .int .i64 (w6 ((prdR (gapS ((ybxr_0l6.drop (Int.toNat 1)), ybxr_1l6, ybxr_2l6)).2).2.2.1 + 1))) 2 #[.slice a17_2 ((prdR (gapS ((ybxr_0l6.drop (Int.toNat 1)), ybxr_1l6, ybxr_2l6)).2).2.1).length c17_2, .int .i64 (w6 ((prdR (gapS ((ybxr_0l6.drop (Int.toNat 1)), ybxr_1l6, ybxr_2l6)).2).2.2.1 + 1)), .bool (prdR (gapS ((ybxr_0l6.drop (Int.toNat 1)), ybxr_1l6, ybxr_2l6)).2).2.2.2] rfl rfl rfl ?_)
       refine Ok.nil (Ok.thenN (Ok.seq (Ok.region (Ok.bat 3 [3, 4] [(14, pv bxr 1)] ?_))))
       refine Ok.op rfl (OpOk.step (v := .int .i64 (w6 ((prdR (gapS ((ybxr_0l6.drop (Int.toNat 1)), ybxr_1l6, ybxr_2l6)).2).2.2.1 + 1))) (Yields.load 2 rfl rfl Tryz.underlying3 rfl (by kernel_rfl)) rfl rfl (Ok.bat 1 [3, 4] [(16, .bool (decide ((w6 ((prdR (gapS ((ybxr_0l6.drop (Int.toNat 1)), ybxr_1l6, ybxr_2l6)).2).2.2.1 + 1)) > 30)))] ?_))
       refine Ok.nil (Ok.thenN (Ok.cond (b := decide ((w6 ((prdR (gapS ((ybxr_0l6.drop (Int.toNat 1)), ybxr_1l6, ybxr_2l6)).2).2.2.1 + 1)) > 30)) rfl (fun hc22 => ?_) (fun hc22 => ?_)))
       ·replace hF := hF.1 hc22
        exact False.elim hF
       ·replace hF := hF.2 hc22
        refine Ok.skip (Ok.thenN (Ok.seq (Ok.region (Ok.op rfl (OpOk.step (v := .agg #[.int .i64 (if (smV2 ybxr_0l6) = true then 2 else 3), .int .i64 0, sv ([] : Bs), .slice (some ⟨b18, 0, none⟩) ([(Tree.mk (ybs3_0l6, (ybs3_1l6, ybs3_2l6)) ybs3_3l6), (prdR (gapS ((ybxr_0l6.drop (Int.toNat 1)), ybxr_1l6, ybxr_2l6)).2).1] : List (Tree (Int × Int × Bs))).length 2]) (Yields.loadAgg 1 4 #[.int .i64 (if (smV2 ybxr_0l6) = true then 2 else 3), .int .i64 0, sv ([] : Bs), .slice (some ⟨b18, 0, none⟩) ([(Tree.mk (ybs3_0l6, (ybs3_1l6, ybs3_2l6)) ybs3_3l6), (prdR (gapS ((ybxr_0l6.drop (Int.toNat 1)), ybxr_1l6, ybxr_2l6)).2).1] : List (Tree (Int × Int × Bs))).length 2] rfl rfl Tryz.underlying26 rfl (by kernel_rfl) (by kernel_rfl) (by kernel_rfl)) rfl rfl (Ok.op rfl (OpOk.sto (k := 4) (v := .agg #[.int .i64 (if (smV2 ybxr_0l6) = true then 2 else 3), .int .i64 0, sv ([] : Bs), .slice (some ⟨b18, 0, none⟩) ([(Tree.mk (ybs3_0l6, (ybs3_1l6, ybs3_2l6)) ybs3_3l6), (prdR (gapS ((ybxr_0l6.drop (Int.toNat 1)), ybxr_1l6, ybxr_2l6)).2).1] : List (Tree (Int × Int × Bs))).length 2]) 0 #[.int .i64 (if (smV2 ybxr_0l6) = true then 2 else 3), .int .i64 0, sv ([] : Bs), .slice (some ⟨b18, 0, none⟩) ([(Tree.mk (ybs3_0l6, (ybs3_1l6, ybs3_2l6)) ybs3_3l6), (prdR (gapS ((ybxr_0l6.drop (Int.toNat 1)), ybxr_1l6, ybxr_2l6)).2).1] : List (Tree (Int × Int × Bs))).length 2] rfl rfl rfl ?_)))))))
        refine Ok.nil (Ok.thenN (Ok.ret (Ok.back (vs := [.agg #[.int .i64 (if (smV2 ybxr_0l6) = true then 2 else 3), .int .i64 0, sv ([] : Bs), .slice (some ⟨b18, 0, none⟩) ([(Tree.mk (ybs3_0l6, (ybs3_1l6, ybs3_2l6)) ybs3_3l6), (prdR (gapS ((ybxr_0l6.drop (Int.toNat 1)), ybxr_1l6, ybxr_2l6)).2).1] : List (Tree (Int × Int × Bs))).length 2]]) (.inl rfl) rfl (.cons (.cellAgg 0 4 #[.int .i64 (if (smV2 ybxr_0l6) = true then 2 else 3), .int .i64 0, sv ([] : Bs), .slice (some ⟨b18, 0, none⟩) ([(Tree.mk (ybs3_0l6, (ybs3_1l6, ybs3_2l6)) ybs3_3l6), (prdR (gapS ((ybxr_0l6.drop (Int.toNat 1)), ybxr_1l6, ybxr_2l6)).2).1] : List (Tree (Int × Int × Bs))).length 2] rfl rfl Tryz.underlying26 rfl (by kernel_rfl) (by kernel_rfl) (by kernel_rfl)) .nil) rfl (OkM.leaf (i := 7) (show _ = [.blk bs2 (.cells #[.int .i64 0, .int .i64 0, sv ([] : Bs), .slice none 0 0] 26)] from rfl) (hx17.trans hx21).1 (.cons _ (.cons _ (.cons _ (.cons _ (.cons_cons _ .slnil))))) (OkM.tail rfl rfl (OpOk.sto (k := 4) (v := .agg #[.int .i64 (if (smV2 ybxr_0l6) = true then 2 else 3), .int .i64 0, sv ([] : Bs), .slice (some ⟨b18, 0, none⟩) ([(Tree.mk (ybs3_0l6, (ybs3_1l6, ybs3_2l6)) ybs3_3l6), (prdR (gapS ((ybxr_0l6.drop (Int.toNat 1)), ybxr_1l6, ybxr_2l6)).2).1] : List (Tree (Int × Int × Bs))).length 2]) 3 #[.int .i64 (if (smV2 ybxr_0l6) = true then 2 else 3), .int .i64 0, sv ([] : Bs), .slice (some ⟨b18, 0, none⟩) ([(Tree.mk (ybs3_0l6, (ybs3_1l6, ybs3_2l6)) ybs3_3l6), (prdR (gapS ((ybxr_0l6.drop (Int.toNat 1)), ybxr_1l6, ybxr_2l6)).2).1] : List (Tree (Int × Int × Bs))).length 2] rfl rfl rfl ?_))))))
        refine OkM.leaf (i := 8) (show _ = [.blk bs2 (.cells #[.int .i64 0, .int .i64 0, sv ([] : Bs), .slice none 0 0] 26)] from rfl) (hx17.trans hx21).1 (.cons _ (.cons _ (.cons _ (.cons _ (.cons_cons _ .slnil))))) (OkM.nil (Ok.blockN (Ok.thenN ?_)))
        exact fun a W hA hW => ⟨k6, Nat.lt_succ_self _, g21, ((((hxl6.trans hxj12).trans hx7).trans hx17).trans hx21), (if (smV2 ybxr_0l6) = true then 2 else 3), 0, ([] : Bs), (some ⟨b18, 0, none⟩), 2, ([(Tree.mk (ybs3_0l6, (ybs3_1l6, ybs3_2l6)) ybs3_3l6), (prdR (gapS ((ybxr_0l6.drop (Int.toNat 1)), ybxr_1l6, ybxr_2l6)).2).1] : List (Tree (Int × Int × Bs))), a17_2, c17_2, (prdR (gapS ((ybxr_0l6.drop (Int.toNat 1)), ybxr_1l6, ybxr_2l6)).2).2.1, w6 ((prdR (gapS ((ybxr_0l6.drop (Int.toNat 1)), ybxr_1l6, ybxr_2l6)).2).2.2.1 + 1), (prdR (gapS ((ybxr_0l6.drop (Int.toNat 1)), ybxr_1l6, ybxr_2l6)).2).2.2.2, hRf21, hR17_2, hA.sub (by kernel_rfl), hW.pick [3, 2, 4] _ (by decide) rfl, hF⟩
    ·replace hF := hF.2 hc6
     refine Ok.bat 3 [0, 2, 3, 5, 55] [(60, .bool false)] ?_
     refine Ok.op rfl (OpOk.inline (args := #[pv bxr 0, .bool false]) 8 [(0, pv bxr 0), (1, .bool false)] enr Tryz.func19 rfl rfl rfl rfl (Ok.seq (Ok.region (Ok.batch 2 [(5, .bool true)] (by kernel_rfl) (Ok.nil (Ok.thenN (Ok.cond (b := true) rfl (fun _ => ?_) (fun h => by cases h))))))))
     exact False.elim hF
def smP (r : Rd) : Prop := r = R0
def smR (r : Rd) : Tm × Rd := (T1, R1)
theorem sm_F (r : Rd) (hp : smP r) : smF r (fun a c => (a, c) = smR r) := by
 obtain rfl : r = R0 := hp
 have J18 : smj18 (fun a c => (a, c) = smR R0) 4 0 [] T1.kids [tkC] 3 false (sml6 (fun a c => (a, c) = smR R0) 0) := ⟨fun h => absurd h (by decide +kernel), fun _ => by show _ = _; kernel_rfl⟩
 have J14 : smj14 (fun a c => (a, c) = smR R0) 4 0 [] T1.kids [tkC] 3 false (sml6 (fun a c => (a, c) = smR R0) 0) := ⟨fun h => absurd h (by decide +kernel), fun _ => ⟨fun _ => ⟨by decide, by decide, J18⟩, fun h => absurd h (by decide)⟩⟩
 exact ⟨rfl, 1, ⟨fun _ => ⟨by decide, by decide, J14⟩, fun h => absurd h (by decide)⟩⟩
theorem sm_c {g : Ghost} {bxr : Nat} {axr_0 : Option Addr} {cxr_0 : Nat} (xr : (List (Int × Bs × Bs × Int)) × Int × Bool) (hRxr_0 : Rep g (.slice (.pair (.int .i64) (.pair (.str) (.pair (.str) (.int .i64))))) [.slice axr_0 xr.1.length cxr_0] xr.1) (hG0 : Glob g 0 (.slice (.str)) DUnits) (hG1 : SomeInt g 1)  (hp : smP xr) : CallsH Tryz.prog 36 #[pv bxr 0] g [.blk bxr (.cells #[.slice axr_0 xr.1.length cxr_0, .int .i64 xr.2.1, .bool xr.2.2] 53)] (fun g' H' v => ∃ (ar0_0 : Option Addr) (cr0_0 : Nat), ∃ (afxr_0 : Option Addr) (cfxr_0 : Nat), v = .agg #[.int .i64 ((smR xr).1).lab.1, .int .i64 ((smR xr).1).lab.2.1, sv (((smR xr).1).lab.2.2), .slice ar0_0 ((smR xr).1).kids.length cr0_0] ∧ Rep g' (.slice (.tree (.pair (.int .i64) (.pair (.int .i64) (.str))))) [.slice ar0_0 ((smR xr).1).kids.length cr0_0] ((smR xr).1).kids ∧ Rep g' (.slice (.pair (.int .i64) (.pair (.str) (.pair (.str) (.int .i64))))) [.slice afxr_0 (smR xr).2.1.length cfxr_0] (smR xr).2.1 ∧ H' = [.blk bxr (.cells #[.slice afxr_0 (smR xr).2.1.length cfxr_0, .int .i64 (smR xr).2.2.1, .bool (smR xr).2.2.2] 53)]) :=
 (sm_ok xr hRxr_0 hG0 hG1 _ (sm_F xr hp)).mono (by rintro g' H' v _ ⟨r0, fxr, ar0_0, cr0_0, afxr_0, cfxr_0, rfl, hRr0_0, hRfxr_0, rfl, hK⟩; obtain ⟨rfl, rfl⟩ : r0 = (smR xr).1 ∧ fxr = (smR xr).2 := ⟨congrArg (fun z => z.1) hK, congrArg (fun z => z.2) hK⟩; exact ⟨ar0_0, cr0_0, afxr_0, cfxr_0, rfl, hRr0_0, hRfxr_0, rfl⟩)
def lowV2 (x10l9 : Int) (yownb1_0l9 : List (Int)) : List (Int) :=
 (if ((decide ((yownb1_0l9.getD (Int.toNat x10l9) default) ≥ 65)) && (decide ((yownb1_0l9.getD (Int.toNat x10l9) default) ≤ 90))) = true then (yownb1_0l9.set (Int.toNat x10l9) (IntKind.wrap .u8 ((yownb1_0l9.getD (Int.toNat x10l9) default) + 32))) else yownb1_0l9)
def lowj16 (x10l9 : Int) (yownb1_0l9 : List (Int)) (C9 : Int → (List (Int)) → Prop) : Prop :=
 C9 (w6 (x10l9 + 1)) (lowV2 x10l9 yownb1_0l9)
def lowl9b (xs : Bs) (K : Bs → Prop) (x10l9 : Int) (yownb1_0l9 : List (Int)) (C9 : Int → (List (Int)) → Prop) : Prop :=
 ((decide (x10l9 < ((intsOf xs).length : Int))) = true → (0 : Int) ≤ x10l9 ∧ Int.toNat x10l9 < yownb1_0l9.length ∧ ((((decide ((yownb1_0l9.getD (Int.toNat x10l9) default) ≥ 65)) && (decide ((yownb1_0l9.getD (Int.toNat x10l9) default) ≤ 90)))) = true → lowj16 x10l9 yownb1_0l9 C9) ∧ ((((decide ((yownb1_0l9.getD (Int.toNat x10l9) default) ≥ 65)) && (decide ((yownb1_0l9.getD (Int.toNat x10l9) default) ≤ 90)))) = false → lowj16 x10l9 yownb1_0l9 C9)) ∧ ((decide (x10l9 < ((intsOf xs).length : Int))) = false → K (bytesOf yownb1_0l9))
def lowl9 (xs : Bs) (K : Bs → Prop) : Nat → Int → (List (Int)) → Prop
 | 0, _, _ => False
 | k + 1, x10l9, yownb1_0l9 => lowl9b xs K x10l9 yownb1_0l9 (lowl9 xs K k)
def lowF (xs : Bs) (K : Bs → Prop) : Prop :=
 ∃ k, lowl9 xs K k 0 (intsOf xs)
theorem low_ok {g : Ghost} (xs : Bs) (K : Bs → Prop)
  (hF : lowF xs K) : CallsH Tryz.prog 38 #[sv xs] g [] (fun g' H' v => ∃ (r0 : Bs), v = sv r0 ∧ H' = [] ∧ K r0) := by
 refine CallsH.enter 29 [(0, sv xs)] Tryz.func38 rfl (by kernel_rfl) (by kernel_rfl) (by kernel_rfl) fun w0 => ?_
 refine Ok.seq (Ok.region (Ok.batch 1 [(0, sv xs)] (by kernel_rfl) (Ok.nil (Ok.thenN (Ok.seq (Ok.region (Ok.batch 1 [(6, sv xs)] (by kernel_rfl) (Ok.op rfl (OpOk.bytesB (s := xs) (by kernel_rfl) Tryz.underlying9 Tryz.underlying78 Tryz.underlying5 rfl fun a1 c1 xs1 hL1 => ?_)))))))))
 refine Ok.batch 1 [(3, .slice a1 (intsOf xs).length c1)] (by kernel_rfl) (Ok.nil (Ok.thenN (Ok.seq (Ok.seq (Ok.region (Ok.bat 3 [3] [(8, .slice a1 (intsOf xs).length c1), (9, .int .i64 ((intsOf xs).length : Int)), (10, .int .i64 0)] ?_))))))
 refine Ok.nil (Ok.thenN (Ok.block ?_))
 obtain ⟨k, hF⟩ := hF
 refine Ok.loop (fun k a W => ∃ gl9 : Ghost, Gext w0 g gl9 ∧ ∃ (x10l9 : Int) (ayownb1_0l9 : Option Addr) (cyownb1_0l9 : Nat) (yownb1_0l9 : List (Int)) (xsyownb1_0l9 : List Value), RepL gl9 (.int .u8) xsyownb1_0l9 yownb1_0l9 ∧ StA 29 [(3, .slice ayownb1_0l9 yownb1_0l9.length cyownb1_0l9), (8, .slice ayownb1_0l9 yownb1_0l9.length cyownb1_0l9), (9, .int .i64 ((intsOf xs).length : Int)), (10, .int .i64 x10l9)] a ∧ StW w0 [.ownb (.slice ayownb1_0l9 yownb1_0l9.length cyownb1_0l9) 5 yownb1_0l9.length xsyownb1_0l9] gl9 W ∧ lowl9 xs K k x10l9 yownb1_0l9) k ?_ ?_
 ·
  exact fun a W hA hW => ⟨g, (Gext.refl w0 g), 0, a1, c1, (intsOf xs), xs1, hL1, hA.sub (by kernel_rfl), hW, hF⟩
 ·
  clear hF
  rintro k9 a W ⟨gl9, hxl9, x10l9, ayownb1_0l9, cyownb1_0l9, yownb1_0l9, xsyownb1_0l9, hLyownb1_0l9, hA, hW, hF⟩
  cases k9 with
  | zero => exact (hF : False).elim
  | succ k9 =>
   refine (?_ : Ok _ _ _ _ _ _) a W hA hW
   clear hA hW
   refine Ok.seq (Ok.region (Ok.bat 1 [3, 8, 9, 10] [(11, .bool (decide (x10l9 < ((intsOf xs).length : Int))))] ?_))
   refine Ok.nil (Ok.thenN (Ok.seq (Ok.cond (b := decide (x10l9 < ((intsOf xs).length : Int))) rfl (fun hc2 => ?_) (fun hc2 => ?_))))
   ·replace hF := hF.1 hc2
    refine Ok.skip (Ok.thenN (Ok.cut (fun a W => ∃ gj16 : Ghost, Gext w0 gl9 gj16 ∧ ∃ (ayownb1_0j16 : Option Addr) (cyownb1_0j16 : Nat) (xsyownb1_0j16 : List Value), RepL gj16 (.int .u8) xsyownb1_0j16 (lowV2 x10l9 yownb1_0l9) ∧ StA 29 [(3, .slice ayownb1_0j16 (lowV2 x10l9 yownb1_0l9).length cyownb1_0j16), (8, .slice ayownb1_0j16 (lowV2 x10l9 yownb1_0l9).length cyownb1_0j16), (9, .int .i64 ((intsOf xs).length : Int)), (10, .int .i64 x10l9)] a ∧ StW w0 [.ownb (.slice ayownb1_0j16 (lowV2 x10l9 yownb1_0l9).length cyownb1_0j16) 5 (lowV2 x10l9 yownb1_0l9).length xsyownb1_0j16] gj16 W ∧ lowj16 x10l9 yownb1_0l9 (lowl9 xs K k9)) ?_ ?_))
    ·
     refine Ok.block (Ok.seq (Ok.region (Ok.bat 1 [3, 8, 9, 10] [(12, .int .i64 x10l9)] ?_)))
     obtain ⟨h04, h14, hF⟩ := hF
     have he4 := get_of (l := yownb1_0l9) (default : Int) h14
     generalize hg4 : (yownb1_0l9.getD (Int.toNat x10l9) default) = e4 at he4 hF ⊢
     refine Ok.op rfl (OpOk.indexB (q := x10l9) (el := e4) 0 rfl hLyownb1_0l9 rfl rfl Tryz.underlying78 (by kernel_rfl) h04 he4 rfl fun hc3 => ?_)
     refine Ok.op rfl (OpOk.step (v := .int .u8 e4) (Yields.loadB 0 0 rfl hc3 rfl Tryz.underlying5 rfl (by kernel_rfl)) rfl rfl (Ok.bat 2 [3, 8, 9, 10] [(4, .int .i64 x10l9), (5, .int .u8 e4)] ?_))
     refine Ok.nil (Ok.thenN (Ok.seq (Ok.region (Ok.bat 3 [3, 4, 5, 8, 9, 10] [(17, .bool (decide (e4 ≥ 65)))] ?_))))
     refine Ok.midway 3 [(3, .slice ayownb1_0l9 yownb1_0l9.length cyownb1_0l9), (4, .int .i64 x10l9), (5, .int .u8 e4), (8, .slice ayownb1_0l9 yownb1_0l9.length cyownb1_0l9), (9, .int .i64 ((intsOf xs).length : Int)), (10, .int .i64 x10l9), (20, .bool ((decide (e4 ≥ 65)) && (decide (e4 ≤ 90))))] (fun hR5 => ?_) ?_
     ·refine Ok.boolAt 17 (decide (e4 ≥ 65)) rfl (fun hc6 => ?_) (fun hc6 => ?_)
      ·skip
       refine Ok.bat 3 [3, 4, 5, 8, 9, 10] [(20, .bool (decide (e4 ≤ 90)))] ?_
       refine Ok.reval 20 rfl (show (.bool (decide (e4 ≤ 90)) : Value) = .bool ((decide (e4 ≥ 65)) && (decide (e4 ≤ 90))) from congrArg Value.bool (mand_t hc6)) (Ok.bat 0 [3, 4, 5, 8, 9, 10] [(20, .bool ((decide (e4 ≥ 65)) && (decide (e4 ≤ 90))))] ?_)
       exact hR5
      ·skip
       refine Ok.bat 3 [3, 4, 5, 8, 9, 10] [(20, .bool false)] ?_
       refine Ok.reval 20 rfl (show (.bool false : Value) = .bool ((decide (e4 ≥ 65)) && (decide (e4 ≤ 90))) from congrArg Value.bool (mand_f hc6)) (Ok.bat 0 [3, 4, 5, 8, 9, 10] [(20, .bool ((decide (e4 ≥ 65)) && (decide (e4 ≤ 90))))] ?_)
       exact hR5
     refine Ok.nil (Ok.thenN (Ok.cond (b := ((decide (e4 ≥ 65)) && (decide (e4 ≤ 90)))) rfl (fun hc7 => ?_) (fun hc7 => ?_)))
     ·replace hF := hF.1 hc7
      refine Ok.region (Ok.bat 4 [3, 8, 9, 10] [(21, .slice ayownb1_0l9 yownb1_0l9.length cyownb1_0l9), (22, .int .i64 x10l9), (24, .int .u8 (IntKind.wrap .u8 (e4 + 32)))] ?_)
      refine Ok.op rfl (OpOk.indexB (q := x10l9) (el := e4) 0 rfl hLyownb1_0l9 rfl rfl Tryz.underlying78 (by kernel_rfl) h04 he4 rfl fun hc8 => ?_)
      refine Ok.op rfl (OpOk.storeB (q := Int.toNat x10l9) (el' := IntKind.wrap .u8 (e4 + 32)) 0 rfl hLyownb1_0l9 hc8 rfl rfl (by kernel_rfl) fun xs9 hL9 => ?_)
      rw [show yownb1_0l9.length = (yownb1_0l9.set (Int.toNat x10l9) (IntKind.wrap .u8 (e4 + 32))).length from (List.length_set ..).symm]
      refine Ok.nil (Ok.blockN (Ok.thenN ?_))
      subst hg4
      refine Ok.reval 3 rfl (show (.slice ayownb1_0l9 (yownb1_0l9.set (Int.toNat x10l9) (IntKind.wrap .u8 ((yownb1_0l9.getD (Int.toNat x10l9) default) + 32))).length cyownb1_0l9 : Value) = .slice ayownb1_0l9 (lowV2 x10l9 yownb1_0l9).length cyownb1_0l9 from congrArg (fun l : List (Int) => Value.slice ayownb1_0l9 l.length cyownb1_0l9) ((if_t hc7).symm)) ?_
      refine Ok.reval 8 rfl (show (.slice ayownb1_0l9 (yownb1_0l9.set (Int.toNat x10l9) (IntKind.wrap .u8 ((yownb1_0l9.getD (Int.toNat x10l9) default) + 32))).length cyownb1_0l9 : Value) = .slice ayownb1_0l9 (lowV2 x10l9 yownb1_0l9).length cyownb1_0l9 from congrArg (fun l : List (Int) => Value.slice ayownb1_0l9 l.length cyownb1_0l9) ((if_t hc7).symm)) ?_
      refine Ok.heapEq (H' := [.ownb (.slice ayownb1_0l9 (lowV2 x10l9 yownb1_0l9).length cyownb1_0l9) 5 (lowV2 x10l9 yownb1_0l9).length xs9]) (econs (congrArg (fun l : List (Int) => Ent.ownb (.slice ayownb1_0l9 l.length cyownb1_0l9) 5  l.length xs9) ((if_t hc7).symm)) rfl) ?_
      exact fun a W hA hW => ⟨gl9, (Gext.refl w0 gl9), ayownb1_0l9, cyownb1_0l9, xs9, (Eq.mp (congrArg (fun l : List (Int) => RepL gl9 (.int .u8) xs9 l) ((if_t hc7).symm)) hL9), hA.sub (by kernel_rfl), hW, hF⟩
     ·replace hF := hF.2 hc7
      refine Ok.skip (Ok.blockN (Ok.thenN ?_))
      subst hg4
      refine Ok.reval 3 rfl (show (.slice ayownb1_0l9 yownb1_0l9.length cyownb1_0l9 : Value) = .slice ayownb1_0l9 (lowV2 x10l9 yownb1_0l9).length cyownb1_0l9 from congrArg (fun l : List (Int) => Value.slice ayownb1_0l9 l.length cyownb1_0l9) ((if_f hc7).symm)) ?_
      refine Ok.reval 8 rfl (show (.slice ayownb1_0l9 yownb1_0l9.length cyownb1_0l9 : Value) = .slice ayownb1_0l9 (lowV2 x10l9 yownb1_0l9).length cyownb1_0l9 from congrArg (fun l : List (Int) => Value.slice ayownb1_0l9 l.length cyownb1_0l9) ((if_f hc7).symm)) ?_
      refine Ok.heapEq (H' := [.ownb (.slice ayownb1_0l9 (lowV2 x10l9 yownb1_0l9).length cyownb1_0l9) 5 (lowV2 x10l9 yownb1_0l9).length xsyownb1_0l9]) (econs (congrArg (fun l : List (Int) => Ent.ownb (.slice ayownb1_0l9 l.length cyownb1_0l9) 5  l.length xsyownb1_0l9) ((if_f hc7).symm)) rfl) ?_
      exact fun a W hA hW => ⟨gl9, (Gext.refl w0 gl9), ayownb1_0l9, cyownb1_0l9, xsyownb1_0l9, (Eq.mp (congrArg (fun l : List (Int) => RepL gl9 (.int .u8) xsyownb1_0l9 l) ((if_f hc7).symm)) hLyownb1_0l9), hA.sub (by kernel_rfl), hW, hF⟩
    ·
     clear hF
     rintro a W ⟨gj16, hxj16, ayownb1_0j16, cyownb1_0j16, xsyownb1_0j16, hLyownb1_0j16, hA, hW, hF⟩
     refine (?_ : Ok _ _ _ _ _ _) a W hA hW
     clear hA hW
     refine Ok.region (Ok.bat 2 [3, 8, 9] [(10, .int .i64 (w6 (x10l9 + 1)))] ?_)
     refine Ok.nil (Ok.thenN ?_)
     exact fun a W hA hW => ⟨k9, Nat.lt_succ_self _, gj16, (hxl9.trans hxj16), w6 (x10l9 + 1), ayownb1_0j16, cyownb1_0j16, (lowV2 x10l9 yownb1_0l9), xsyownb1_0j16, hLyownb1_0j16, hA.sub (by kernel_rfl), hW, hF⟩
   ·replace hF := hF.2 hc2
    refine Ok.exit (Ok.thenE (Ok.thenE (Ok.blockHit (Ok.thenN (Ok.seq (Ok.region (Ok.batch 1 [(27, .slice ayownb1_0l9 yownb1_0l9.length cyownb1_0l9)] (by kernel_rfl) (Ok.op rfl (OpOk.step (v := sv (bytesOf yownb1_0l9)) (Yields.strOfB 0 (by kernel_rfl) rfl rfl hLyownb1_0l9 Tryz.underlying78 Tryz.underlying9 Tryz.underlying5) rfl rfl (Ok.batch 1 [(2, sv (bytesOf yownb1_0l9))] (by kernel_rfl) (Ok.nil (Ok.thenN (Ok.ret ?_)))))))))))))
    exact Ok.resP (vs := [sv (bytesOf yownb1_0l9)]) [] [] (by decide) rfl (.inl rfl) rfl (.cons (.tmp rfl) .nil) hxl9 ⟨(bytesOf yownb1_0l9), rfl, rfl, hF⟩
def lowP (s : Bs) : Prop := s = [99, 97, 108, 99]
def lowS (s : Bs) : Bs := [99, 97, 108, 99]
theorem low_F (s : Bs) (hp : lowP s) : lowF s (fun r => r = lowS s) := by
 obtain rfl : s = [99, 97, 108, 99] := hp
 have step : ∀ (k : Nat) (i : Int), (0 ≤ i ∧ i < 4) → lowl9 [99, 97, 108, 99] (fun r => r = lowS [99, 97, 108, 99]) k (i + 1) [99, 97, 108, 99] → lowl9 [99, 97, 108, 99] (fun r => r = lowS [99, 97, 108, 99]) (k + 1) i [99, 97, 108, 99] := by
  intro k i hi h
  obtain rfl | rfl | rfl | rfl : i = 0 ∨ i = 1 ∨ i = 2 ∨ i = 3 := by omega
  all_goals exact ⟨fun _ => ⟨by decide, by decide, fun h => absurd h (by decide +kernel), fun _ => h⟩, fun h => absurd h (by decide +kernel)⟩
 refine ⟨5, step 4 0 (by omega) (step 3 1 (by omega) (step 2 2 (by omega) (step 1 3 (by omega) ?_)))⟩
 exact ⟨fun h => absurd h (by decide +kernel), fun _ => by show _ = _; kernel_rfl⟩
theorem low_c {g : Ghost} (xs : Bs)  (hp : lowP xs) : CallsG Tryz.prog 38 #[sv xs] g (sv (lowS xs)) :=
 (low_ok xs _ (low_F xs hp)).gives (by rintro g' H' v _ ⟨r0, rfl, rfl, hK⟩; subst hK; rfl)
def vaj22 (xr : (List (Int × Bs × Bs × Int)) × Int × Bool) (xin : Bool) (K : (Tree (Int × Int × Bs)) → ((List (Int × Bs × Bs × Int)) × Int × Bool) → Prop) (e5 : Int × Bs × Bs × Int) : Prop :=
 (((xin && (e5.2.1 == ([40] : Bs)))) = true → smP ((xr.1.drop (Int.toNat 1)), xr.2.1, xr.2.2) ∧ ((!((rwS (smR ((xr.1.drop (Int.toNat 1)), xr.2.1, xr.2.2)).2 ([41] : Bs)).1)) = true → False) ∧ ((!((rwS (smR ((xr.1.drop (Int.toNat 1)), xr.2.1, xr.2.2)).2 ([41] : Bs)).1)) = false → K (smR ((xr.1.drop (Int.toNat 1)), xr.2.1, xr.2.2)).1 (rwS ((smR ((xr.1.drop (Int.toNat 1)), xr.2.1, xr.2.2)).2.1, (smR ((xr.1.drop (Int.toNat 1)), xr.2.1, xr.2.2)).2.2.1, (smR ((xr.1.drop (Int.toNat 1)), xr.2.1, xr.2.2)).2.2.2) ([41] : Bs)).2)) ∧ (((xin && (e5.2.1 == ([40] : Bs)))) = false → ((!(e5.1 == 2)) = true → False) ∧ ((!(e5.1 == 2)) = false → lowP e5.2.2.1 ∧ ((((lowS e5.2.2.1) == ([99, 97, 108, 99] : Bs))) = true → smP ((xr.1.drop (Int.toNat 1)), xr.2.1, xr.2.2) ∧ ((!((rwS (smR ((xr.1.drop (Int.toNat 1)), xr.2.1, xr.2.2)).2 ([41] : Bs)).1)) = true → False) ∧ ((!((rwS (smR ((xr.1.drop (Int.toNat 1)), xr.2.1, xr.2.2)).2 ([41] : Bs)).1)) = false → K (smR ((xr.1.drop (Int.toNat 1)), xr.2.1, xr.2.2)).1 (rwS ((smR ((xr.1.drop (Int.toNat 1)), xr.2.1, xr.2.2)).2.1, (smR ((xr.1.drop (Int.toNat 1)), xr.2.1, xr.2.2)).2.2.1, (smR ((xr.1.drop (Int.toNat 1)), xr.2.1, xr.2.2)).2.2.2) ([41] : Bs)).2)) ∧ ((((lowS e5.2.2.1) == ([99, 97, 108, 99] : Bs))) = false → False)))
def vaF (xr : (List (Int × Bs × Bs × Int)) × Int × Bool) (xin : Bool) (K : (Tree (Int × Int × Bs)) → ((List (Int × Bs × Bs × Int)) × Int × Bool) → Prop) : Prop :=
 ((!(decide ((xr.1.length : Int) > 0))) = true → False) ∧ ((!(decide ((xr.1.length : Int) > 0))) = false → (0 : Int) ≤ 0 ∧ Int.toNat 0 < xr.1.length ∧ (0 : Int) ≤ 1 ∧ (1 : Int) ≤ (xr.1.length : Int) ∧ (xr.1.length : Int) ≤ (xr.1.length : Int) ∧ ((((xr.1.getD (Int.toNat 0) default).1 == 7)) = true → False) ∧ ((((xr.1.getD (Int.toNat 0) default).1 == 7)) = false → ((xin) = true → vaj22 xr xin K (xr.1.getD (Int.toNat 0) default)) ∧ ((xin) = false → vaj22 xr xin K (xr.1.getD (Int.toNat 0) default))))
theorem va_ok {g : Ghost} {bxr : Nat} {axr_0 : Option Addr} {cxr_0 : Nat} (xr : (List (Int × Bs × Bs × Int)) × Int × Bool) (xin : Bool) (hRxr_0 : Rep g (.slice (.pair (.int .i64) (.pair (.str) (.pair (.str) (.int .i64))))) [.slice axr_0 xr.1.length cxr_0] xr.1) (hG0 : Glob g 0 (.slice (.str)) DUnits) (hG1 : SomeInt g 1) (K : (Tree (Int × Int × Bs)) → ((List (Int × Bs × Bs × Int)) × Int × Bool) → Prop)
  (hF : vaF xr xin K) : CallsH Tryz.prog 18 #[pv bxr 0, .bool xin] g [.blk bxr (.cells #[.slice axr_0 xr.1.length cxr_0, .int .i64 xr.2.1, .bool xr.2.2] 53)] (fun g' H' v => ∃ (r0 : Tree (Int × Int × Bs)), ∃ (fxr : (List (Int × Bs × Bs × Int)) × Int × Bool), ∃ (ar0_0 : Option Addr) (cr0_0 : Nat), ∃ (afxr_0 : Option Addr) (cfxr_0 : Nat), v = .agg #[.int .i64 r0.lab.1, .int .i64 r0.lab.2.1, sv r0.lab.2.2, .slice ar0_0 r0.kids.length cr0_0] ∧ Rep g' (.slice (.tree (.pair (.int .i64) (.pair (.int .i64) (.str))))) [.slice ar0_0 r0.kids.length cr0_0] r0.kids ∧ Rep g' (.slice (.pair (.int .i64) (.pair (.str) (.pair (.str) (.int .i64))))) [.slice afxr_0 fxr.1.length cfxr_0] fxr.1 ∧ H' = [.blk bxr (.cells #[.slice afxr_0 fxr.1.length cfxr_0, .int .i64 fxr.2.1, .bool fxr.2.2] 53)] ∧ K r0 fxr) := by
 refine CallsH.enter 111 [(0, pv bxr 0), (1, .bool xin)] Tryz.func18 rfl (by kernel_rfl) (by kernel_rfl) (by kernel_rfl) fun w0 => ?_
 refine Ok.seq (Ok.region ?_)
 have hL1 : RepL g (.tree (.pair (.int .i64) (.pair (.int .i64) (.str)))) [] [] := rfl
 refine Ok.ownNil 26 4 (Ok.op rfl (OpOk.alloc (z := .agg #[.int .i64 0, .int .i64 0, sv ([] : Bs), .slice none ([] : List (Tree (Int × Int × Bs))).length 0]) (cs := #[.int .i64 0, .int .i64 0, sv ([] : Bs), .slice none ([] : List (Tree (Int × Int × Bs))).length 0]) (by kernel_rfl) (by kernel_rfl) rfl fun bs4 => ?_))
 refine Ok.nil (Ok.thenN (Ok.seq (Ok.region (Ok.batch 4 [(0, pv bxr 0), (1, .bool xin), (4, pv bs4 0), (13, pv bxr 0), (16, pv bxr 0)] (by kernel_rfl) (Ok.op rfl (OpOk.step (v := .slice axr_0 xr.1.length cxr_0) (Yields.load 2 rfl rfl Tryz.underlying50 rfl (by kernel_rfl)) rfl rfl (Ok.bat 2 [0, 1, 4, 13] [(19, .bool (decide ((xr.1.length : Int) > 0)))] ?_)))))))
 refine Ok.op rfl (OpOk.inline (args := #[pv bxr 0, .bool (decide ((xr.1.length : Int) > 0))]) 8 [(0, pv bxr 0), (1, .bool (decide ((xr.1.length : Int) > 0)))] enr Tryz.func19 rfl rfl rfl rfl (Ok.seq (Ok.region (Ok.batch 2 [(5, .bool (!(decide ((xr.1.length : Int) > 0))))] (by kernel_rfl) (Ok.nil (Ok.thenN (Ok.cond (b := !(decide ((xr.1.length : Int) > 0))) rfl (fun hc3 => ?_) (fun hc3 => ?_))))))))
 ·replace hF := hF.1 hc3
  exact False.elim hF
 ·replace hF := hF.2 hc3
  refine Ok.skip (Ok.back (vs := []) (.inr rfl) rfl .nil rfl (Ok.nil (Ok.thenN (Ok.seq (Ok.region (Ok.batch 3 [(0, pv bxr 0), (1, .bool xin), (4, pv bs4 0), (23, pv bxr 0)] (by kernel_rfl) (Ok.op rfl (OpOk.step (v := .slice axr_0 xr.1.length cxr_0) (Yields.load 2 rfl rfl Tryz.underlying50 rfl (by kernel_rfl)) rfl rfl ?_))))))))
  obtain ⟨h05, h15, hF⟩ := hF
  have he5 := get_of (l := xr.1) (default : Int × Bs × Bs × Int) h15
  generalize hg5 : (xr.1.getD (Int.toNat 0) default) = e5 at he5 hF ⊢
  refine Ok.op rfl (OpOk.indexRo (e := .pair (.int .i64) (.pair (.str) (.pair (.str) (.int .i64)))) (i := 0) (el := e5) rfl rfl Tryz.underlying50 (by kernel_rfl) hRxr_0 h05 he5 rfl fun q4 o4 cs4 _ hat4 hr4 => ?_)
  obtain ⟨_, _, rfl, rfl, ⟨_, _, rfl, rfl, ⟨_, _, rfl, rfl, rfl⟩⟩⟩ := hr4
  replace hat4 : At g q4 o4 [.int .i64 e5.1, sv e5.2.1, sv e5.2.2.1, .int .i64 e5.2.2.2] := hat4
  refine Ok.op rfl (OpOk.step (v := .agg #[.int .i64 e5.1, sv e5.2.1, sv e5.2.2.1, .int .i64 e5.2.2.2]) (Yields.loadAggRo 0 4 #[.int .i64 e5.1, sv e5.2.1, sv e5.2.2.1, .int .i64 e5.2.2.2] hat4 (by kernel_rfl) Tryz.underlying67 rfl (by kernel_rfl) (by kernel_rfl) (by kernel_rfl)) rfl rfl (Ok.op rfl (OpOk.alloc (z := .agg #[.int .i64 0, sv ([] : Bs), sv ([] : Bs), .int .i64 0]) (cs := #[.int .i64 0, sv ([] : Bs), sv ([] : Bs), .int .i64 0]) (by kernel_rfl) (by kernel_rfl) rfl fun bs5 => ?_)))
  refine Ok.op rfl (OpOk.sto (k := 4) (v := .agg #[.int .i64 e5.1, sv e5.2.1, sv e5.2.2.1, .int .i64 e5.2.2.2]) 0 #[.int .i64 e5.1, sv e5.2.1, sv e5.2.2.1, .int .i64 e5.2.2.2] rfl rfl rfl ?_)
  refine Ok.nil (Ok.thenN (Ok.seq (Ok.region (Ok.bat 4 [0, 1, 4] [(5, pv bs5 0), (27, pv bxr 0), (30, pv bxr 0)] ?_))))
  refine Ok.op rfl (OpOk.step (v := .slice axr_0 xr.1.length cxr_0) (Yields.load 3 rfl rfl Tryz.underlying50 rfl (by kernel_rfl)) rfl rfl ?_)
  obtain ⟨h07, h17, h27, hF⟩ := hF
  refine Ok.op rfl (OpOk.sliceRo (e := .pair (.int .i64) (.pair (.str) (.pair (.str) (.int .i64)))) (l := 1) (h := (xr.1.length : Int)) rfl Tryz.underlying50 (by kernel_rfl) (.inl ⟨_, _, rfl, rfl⟩) (.inr ⟨rfl, rfl⟩) hRxr_0 h07 h17 h27 rfl (xr.1.drop (Int.toNat 1)) (by rw [show ((xr.1.length : Int)).toNat = xr.1.length from Int.toNat_natCast _, List.take_length]) fun a7 c7 hR7 => ?_)
  refine Ok.bat 2 [0, 1, 4, 5] [(32, .slice a7 (xr.1.drop (Int.toNat 1)).length c7), (34, pv bxr 0)] ?_
  refine Ok.op rfl (OpOk.sto (k := 1) (v := .slice a7 (xr.1.drop (Int.toNat 1)).length c7) 3 #[.slice a7 (xr.1.drop (Int.toNat 1)).length c7, .int .i64 xr.2.1, .bool xr.2.2] rfl rfl rfl ?_)
  refine Ok.nil (Ok.thenN (Ok.seq (Ok.seq (Ok.region (Ok.bat 1 [0, 1, 4, 5] [(35, pv bs5 0)] ?_)))))
  refine Ok.op rfl (OpOk.step (v := .int .i64 e5.1) (Yields.load 0 rfl rfl Tryz.underlying3 rfl (by kernel_rfl)) rfl rfl (Ok.bat 1 [0, 1, 4, 5] [(37, .bool (e5.1 == 7))] ?_))
  refine Ok.nil (Ok.thenN (Ok.cond (b := (e5.1 == 7)) rfl (fun hc8 => ?_) (fun hc8 => ?_)))
  ·replace hF := hF.1 hc8
   refine Ok.seq ?_
   exact False.elim hF
  ·replace hF := hF.2 hc8
   refine Ok.skip (Ok.thenN (Ok.seq (Ok.cut (fun a W => ∃ gj22 : Ghost, Gext w0 g gj22 ∧ StA 111 [(0, pv bxr 0), (4, pv bs4 0), (5, pv bs5 0), (57, .bool (xin && (e5.2.1 == ([40] : Bs))))] a ∧ StW w0 [.blk bs5 (.cells #[.int .i64 e5.1, sv e5.2.1, sv e5.2.2.1, .int .i64 e5.2.2.2] 67), .blk bs4 (.cells #[.int .i64 0, .int .i64 0, sv ([] : Bs), .slice none ([] : List (Tree (Int × Int × Bs))).length 0] 26), .own (.slice none ([] : List (Tree (Int × Int × Bs))).length 0) 26 4 ([] : List (Tree (Int × Int × Bs))).length ([]), .blk bxr (.cells #[.slice a7 (xr.1.drop (Int.toNat 1)).length c7, .int .i64 xr.2.1, .bool xr.2.2] 53)] gj22 W ∧ vaj22 xr xin K e5) ?_ ?_)))
   ·
    refine Ok.region (Ok.bat 2 [0, 4, 5] [(53, .bool xin)] ?_)
    refine Ok.boolAt 53 (xin) rfl (fun hc25 => ?_) (fun hc25 => ?_)
    ·replace hF := hF.1 hc25
     refine Ok.bat 1 [0, 4, 5] [(53, .bool true), (54, pv bs5 1)] ?_
     refine Ok.opYes (j := 1) (d := 53) (want := true) (b := true) rfl (by kernel_rfl) (by kernel_rfl) rfl (OpOk.step (v := sv e5.2.1) (Yields.load 0 rfl rfl Tryz.underlying9 rfl (by kernel_rfl)) rfl rfl (Ok.opYes (j := 1) (d := 53) (want := true) (b := true) rfl (by kernel_rfl) (by kernel_rfl) rfl (OpOk.step (v := .bool (e5.2.1 == ([40] : Bs))) (Yields.strCmp (f := .eql) (a := e5.2.1) (b := ([40] : Bs)) (by kernel_rfl) (by kernel_rfl) rfl) rfl rfl (Ok.bat 1 [0, 4, 5] [(57, .bool (e5.2.1 == ([40] : Bs)))] ?_))))
     refine Ok.nil (Ok.thenN (Ok.reval 57 rfl (show (.bool (e5.2.1 == ([40] : Bs)) : Value) = .bool (xin && (e5.2.1 == ([40] : Bs))) from congrArg (Value.bool) (mand_t hc25)) ?_))
     exact fun a W hA hW => ⟨g, (Gext.refl w0 g), hA.sub (by kernel_rfl), hW, hF⟩
    ·replace hF := hF.2 hc25
     refine Ok.bat 4 [0, 4, 5] [(57, .bool false)] ?_
     refine Ok.nil (Ok.thenN (Ok.reval 57 rfl (show (.bool false : Value) = .bool (xin && (e5.2.1 == ([40] : Bs))) from congrArg (Value.bool) (mand_f hc25)) ?_))
     exact fun a W hA hW => ⟨g, (Gext.refl w0 g), hA.sub (by kernel_rfl), hW, hF⟩
   ·
    clear hF
    rintro a W ⟨gj22, hxj22, hA, hW, hF⟩
    refine (?_ : Ok _ _ _ _ _ _) a W hA hW
    clear hA hW
    replace hL1 := hL1.mono hxj22.1
    replace hR7 := hR7.mono hxj22.1
    replace hG0 := hG0.mono hxj22.1
    replace hG1 := hG1.mono hxj22.1
    refine Ok.cond (b := (xin && (e5.2.1 == ([40] : Bs)))) rfl (fun hc9 => ?_) (fun hc9 => ?_)
    ·replace hF := hF.1 hc9
     refine Ok.seq (Ok.region (Ok.bat 1 [0, 4] [(58, pv bxr 0)] ?_))
     obtain ⟨hp10, hF⟩ := hF
     refine Ok.entries [3, 0, 1, 2] [.blk bxr (.cells #[.slice a7 (xr.1.drop (Int.toNat 1)).length c7, .int .i64 xr.2.1, .bool xr.2.2] 53), .blk bs5 (.cells #[.int .i64 e5.1, sv e5.2.1, sv e5.2.2.1, .int .i64 e5.2.2.2] 67), .blk bs4 (.cells #[.int .i64 0, .int .i64 0, sv ([] : Bs), .slice none ([] : List (Tree (Int × Int × Bs))).length 0] 26), .own (.slice none ([] : List (Tree (Int × Int × Bs))).length 0) 26 4 ([] : List (Tree (Int × Int × Bs))).length ([])] (by decide) rfl (Ok.op rfl (OpOk.callH [_] _ enr rfl (sm_c ((xr.1.drop (Int.toNat 1)), xr.2.1, xr.2.2) hR7 hG0 hG1 hp10) rfl fun g11 _ _ hx11 hV11 => ?_))
     obtain ⟨a11_0, c11_0, a11_2, c11_2, rfl, hR11_0, hR11_2, rfl⟩ := hV11
     replace hL1 := hL1.mono hx11.1
     replace hG0 := hG0.mono hx11.1
     replace hG1 := hG1.mono hx11.1
     have hL12 : RepL g11 (.tree (.pair (.int .i64) (.pair (.int .i64) (.str)))) [] [] := rfl
     refine Ok.ownNil 26 4 (Ok.op rfl (OpOk.alloc (z := .agg #[.int .i64 0, .int .i64 0, sv ([] : Bs), .slice none ([] : List (Tree (Int × Int × Bs))).length 0]) (cs := #[.int .i64 0, .int .i64 0, sv ([] : Bs), .slice none ([] : List (Tree (Int × Int × Bs))).length 0]) (by kernel_rfl) (by kernel_rfl) rfl fun bs8 => ?_))
     refine Ok.op rfl (OpOk.sto (k := 4) (v := .agg #[.int .i64 (((smR ((xr.1.drop (Int.toNat 1)), xr.2.1, xr.2.2)).1).lab.1), .int .i64 (((smR ((xr.1.drop (Int.toNat 1)), xr.2.1, xr.2.2)).1).lab.2).1, sv ((((smR ((xr.1.drop (Int.toNat 1)), xr.2.1, xr.2.2)).1).lab.2).2), .slice a11_0 (((smR ((xr.1.drop (Int.toNat 1)), xr.2.1, xr.2.2)).1).kids).length c11_0]) 0 #[.int .i64 (((smR ((xr.1.drop (Int.toNat 1)), xr.2.1, xr.2.2)).1).lab.1), .int .i64 (((smR ((xr.1.drop (Int.toNat 1)), xr.2.1, xr.2.2)).1).lab.2).1, sv ((((smR ((xr.1.drop (Int.toNat 1)), xr.2.1, xr.2.2)).1).lab.2).2), .slice a11_0 (((smR ((xr.1.drop (Int.toNat 1)), xr.2.1, xr.2.2)).1).kids).length c11_0] rfl rfl rfl ?_)
     refine Ok.nil (Ok.thenN (Ok.seq (Ok.region (Ok.batch 2 [(4, pv bs4 0), (8, pv bs8 0), (60, pv bxr 0), (61, pv bxr 0)] (by kernel_rfl) (Ok.entries [2, 0, 1, 3, 4, 5] [.blk bxr (.cells #[.slice a11_2 ((smR ((xr.1.drop (Int.toNat 1)), xr.2.1, xr.2.2)).2.1).length c11_2, .int .i64 (smR ((xr.1.drop (Int.toNat 1)), xr.2.1, xr.2.2)).2.2.1, .bool (smR ((xr.1.drop (Int.toNat 1)), xr.2.1, xr.2.2)).2.2.2] 53), .blk bs8 (.cells #[.int .i64 (((smR ((xr.1.drop (Int.toNat 1)), xr.2.1, xr.2.2)).1).lab.1), .int .i64 (((smR ((xr.1.drop (Int.toNat 1)), xr.2.1, xr.2.2)).1).lab.2).1, sv ((((smR ((xr.1.drop (Int.toNat 1)), xr.2.1, xr.2.2)).1).lab.2).2), .slice a11_0 (((smR ((xr.1.drop (Int.toNat 1)), xr.2.1, xr.2.2)).1).kids).length c11_0] 26), .own (.slice none ([] : List (Tree (Int × Int × Bs))).length 0) 26 4 ([] : List (Tree (Int × Int × Bs))).length ([]), .blk bs5 (.cells #[.int .i64 e5.1, sv e5.2.1, sv e5.2.2.1, .int .i64 e5.2.2.2] 67), .blk bs4 (.cells #[.int .i64 0, .int .i64 0, sv ([] : Bs), .slice none ([] : List (Tree (Int × Int × Bs))).length 0] 26), .own (.slice none ([] : List (Tree (Int × Int × Bs))).length 0) 26 4 ([] : List (Tree (Int × Int × Bs))).length ([])] (by decide) rfl (Ok.op rfl (OpOk.callH [_] _ enr rfl (raw_c (smR ((xr.1.drop (Int.toNat 1)), xr.2.1, xr.2.2)).2 ([41] : Bs) hR11_2) rfl fun g14 _ _ hx14 hV14 => ?_)))))))
     obtain ⟨a14_0, c14_0, rfl, hR14_0, rfl⟩ := hV14
     replace hR11_0 := hR11_0.mono hx14.1
     replace hL12 := hL12.mono hx14.1
     replace hL1 := hL1.mono hx14.1
     replace hG0 := hG0.mono hx14.1
     replace hG1 := hG1.mono hx14.1
     refine Ok.op rfl (OpOk.inline (args := #[pv bxr 0, .bool (rwS (smR ((xr.1.drop (Int.toNat 1)), xr.2.1, xr.2.2)).2 ([41] : Bs)).1]) 8 [(0, pv bxr 0), (1, .bool (rwS (smR ((xr.1.drop (Int.toNat 1)), xr.2.1, xr.2.2)).2 ([41] : Bs)).1)] enr Tryz.func19 rfl rfl rfl rfl (Ok.seq (Ok.region (Ok.batch 2 [(5, .bool (!((rwS (smR ((xr.1.drop (Int.toNat 1)), xr.2.1, xr.2.2)).2 ([41] : Bs)).1)))] (by kernel_rfl) (Ok.nil (Ok.thenN (Ok.cond (b := !((rwS (smR ((xr.1.drop (Int.toNat 1)), xr.2.1, xr.2.2)).2 ([41] : Bs)).1)) rfl (fun hc15 => ?_) (fun hc15 => ?_))))))))
     ·replace hF := hF.1 hc15
      exact False.elim hF
     ·replace hF := hF.2 hc15
      refine Ok.skip (Ok.back (vs := []) (.inr rfl) rfl .nil rfl (Ok.nil (Ok.thenN (Ok.seq (Ok.region (Ok.op rfl (OpOk.step (v := .agg #[.int .i64 (((smR ((xr.1.drop (Int.toNat 1)), xr.2.1, xr.2.2)).1).lab.1), .int .i64 (((smR ((xr.1.drop (Int.toNat 1)), xr.2.1, xr.2.2)).1).lab.2).1, sv ((((smR ((xr.1.drop (Int.toNat 1)), xr.2.1, xr.2.2)).1).lab.2).2), .slice a11_0 (((smR ((xr.1.drop (Int.toNat 1)), xr.2.1, xr.2.2)).1).kids).length c11_0]) (Yields.loadAgg 1 4 #[.int .i64 (((smR ((xr.1.drop (Int.toNat 1)), xr.2.1, xr.2.2)).1).lab.1), .int .i64 (((smR ((xr.1.drop (Int.toNat 1)), xr.2.1, xr.2.2)).1).lab.2).1, sv ((((smR ((xr.1.drop (Int.toNat 1)), xr.2.1, xr.2.2)).1).lab.2).2), .slice a11_0 (((smR ((xr.1.drop (Int.toNat 1)), xr.2.1, xr.2.2)).1).kids).length c11_0] rfl rfl Tryz.underlying26 rfl (by kernel_rfl) (by kernel_rfl) (by kernel_rfl)) rfl rfl (Ok.op rfl (OpOk.sto (k := 4) (v := .agg #[.int .i64 (((smR ((xr.1.drop (Int.toNat 1)), xr.2.1, xr.2.2)).1).lab.1), .int .i64 (((smR ((xr.1.drop (Int.toNat 1)), xr.2.1, xr.2.2)).1).lab.2).1, sv ((((smR ((xr.1.drop (Int.toNat 1)), xr.2.1, xr.2.2)).1).lab.2).2), .slice a11_0 (((smR ((xr.1.drop (Int.toNat 1)), xr.2.1, xr.2.2)).1).kids).length c11_0]) 4 #[.int .i64 (((smR ((xr.1.drop (Int.toNat 1)), xr.2.1, xr.2.2)).1).lab.1), .int .i64 (((smR ((xr.1.drop (Int.toNat 1)), xr.2.1, xr.2.2)).1).lab.2).1, sv ((((smR ((xr.1.drop (Int.toNat 1)), xr.2.1, xr.2.2)).1).lab.2).2), .slice a11_0 (((smR ((xr.1.drop (Int.toNat 1)), xr.2.1, xr.2.2)).1).kids).length c11_0] rfl rfl rfl ?_)))))))))
      refine Ok.nil (Ok.thenN (Ok.ret (Ok.thenR ?_)))
      exact Ok.resP (vs := [.agg #[.int .i64 (((smR ((xr.1.drop (Int.toNat 1)), xr.2.1, xr.2.2)).1).lab.1), .int .i64 (((smR ((xr.1.drop (Int.toNat 1)), xr.2.1, xr.2.2)).1).lab.2).1, sv ((((smR ((xr.1.drop (Int.toNat 1)), xr.2.1, xr.2.2)).1).lab.2).2), .slice a11_0 (((smR ((xr.1.drop (Int.toNat 1)), xr.2.1, xr.2.2)).1).kids).length c11_0]]) [0] [.blk bxr (.cells #[.slice a14_0 ((rwS (smR ((xr.1.drop (Int.toNat 1)), xr.2.1, xr.2.2)).2 ([41] : Bs)).2.1).length c14_0, .int .i64 (rwS (smR ((xr.1.drop (Int.toNat 1)), xr.2.1, xr.2.2)).2 ([41] : Bs)).2.2.1, .bool (rwS (smR ((xr.1.drop (Int.toNat 1)), xr.2.1, xr.2.2)).2 ([41] : Bs)).2.2.2] 53)] (by decide) rfl (.inl rfl) rfl (.cons (.cellAgg 4 4 #[.int .i64 (((smR ((xr.1.drop (Int.toNat 1)), xr.2.1, xr.2.2)).1).lab.1), .int .i64 (((smR ((xr.1.drop (Int.toNat 1)), xr.2.1, xr.2.2)).1).lab.2).1, sv ((((smR ((xr.1.drop (Int.toNat 1)), xr.2.1, xr.2.2)).1).lab.2).2), .slice a11_0 (((smR ((xr.1.drop (Int.toNat 1)), xr.2.1, xr.2.2)).1).kids).length c11_0] rfl rfl Tryz.underlying26 rfl (by kernel_rfl) (by kernel_rfl) (by kernel_rfl)) .nil) ((hxj22.trans hx11).trans hx14) ⟨(smR ((xr.1.drop (Int.toNat 1)), xr.2.1, xr.2.2)).1, (rwS ((smR ((xr.1.drop (Int.toNat 1)), xr.2.1, xr.2.2)).2.1, (smR ((xr.1.drop (Int.toNat 1)), xr.2.1, xr.2.2)).2.2.1, (smR ((xr.1.drop (Int.toNat 1)), xr.2.1, xr.2.2)).2.2.2) ([41] : Bs)).2, a11_0, c11_0, a14_0, c14_0, rfl, hR11_0, hR14_0, rfl, hF⟩
    ·replace hF := hF.2 hc9
     refine Ok.skip (Ok.thenN (Ok.seq (Ok.region (Ok.bat 2 [0, 4, 5] [(65, pv bxr 0), (66, pv bs5 0)] ?_))))
     refine Ok.op rfl (OpOk.step (v := .int .i64 e5.1) (Yields.load 0 rfl rfl Tryz.underlying3 rfl (by kernel_rfl)) rfl rfl (Ok.bat 1 [0, 4, 5, 65] [(68, .bool (e5.1 == 2))] ?_))
     refine Ok.op rfl (OpOk.inline (args := #[pv bxr 0, .bool (e5.1 == 2)]) 8 [(0, pv bxr 0), (1, .bool (e5.1 == 2))] enr Tryz.func19 rfl rfl rfl rfl (Ok.seq (Ok.region (Ok.batch 2 [(5, .bool (!(e5.1 == 2)))] (by kernel_rfl) (Ok.nil (Ok.thenN (Ok.cond (b := !(e5.1 == 2)) rfl (fun hc16 => ?_) (fun hc16 => ?_))))))))
     ·replace hF := hF.1 hc16
      exact False.elim hF
     ·replace hF := hF.2 hc16
      refine Ok.skip (Ok.back (vs := []) (.inr rfl) rfl .nil rfl (Ok.nil (Ok.thenN (Ok.seq (Ok.region (Ok.batch 1 [(0, pv bxr 0), (4, pv bs4 0), (70, pv bs5 2)] (by kernel_rfl) (Ok.op rfl (OpOk.step (v := sv e5.2.2.1) (Yields.load 0 rfl rfl Tryz.underlying9 rfl (by kernel_rfl)) rfl rfl ?_))))))))
      obtain ⟨hp17, hF⟩ := hF
      refine Ok.op rfl (OpOk.callG (v := sv (lowS e5.2.2.1)) enr (fun W hW => low_c e5.2.2.1 hp17) rfl ?_)
      refine Ok.bat 1 [0, 4] [(9, sv (lowS e5.2.2.1))] ?_
      refine Ok.nil (Ok.thenN (Ok.seq (Ok.seq (Ok.region (Ok.bat 1 [0, 4, 9] [(73, sv (lowS e5.2.2.1))] ?_)))))
      refine Ok.op rfl (OpOk.step (v := .bool ((lowS e5.2.2.1) == ([99, 97, 108, 99] : Bs))) (Yields.strCmp (f := .eql) (a := (lowS e5.2.2.1)) (b := ([99, 97, 108, 99] : Bs)) (by kernel_rfl) (by kernel_rfl) rfl) rfl rfl (Ok.nil (Ok.thenN (Ok.cond (b := ((lowS e5.2.2.1) == ([99, 97, 108, 99] : Bs))) rfl (fun hc18 => ?_) (fun hc18 => ?_)))))
      ·replace hF := hF.1 hc18
       refine Ok.seq (Ok.region (Ok.bat 1 [0, 4] [(75, pv bxr 0)] ?_))
       obtain ⟨hp19, hF⟩ := hF
       refine Ok.entries [3, 0, 1, 2] [.blk bxr (.cells #[.slice a7 (xr.1.drop (Int.toNat 1)).length c7, .int .i64 xr.2.1, .bool xr.2.2] 53), .blk bs5 (.cells #[.int .i64 e5.1, sv e5.2.1, sv e5.2.2.1, .int .i64 e5.2.2.2] 67), .blk bs4 (.cells #[.int .i64 0, .int .i64 0, sv ([] : Bs), .slice none ([] : List (Tree (Int × Int × Bs))).length 0] 26), .own (.slice none ([] : List (Tree (Int × Int × Bs))).length 0) 26 4 ([] : List (Tree (Int × Int × Bs))).length ([])] (by decide) rfl (Ok.op rfl (OpOk.callH [_] _ enr rfl (sm_c ((xr.1.drop (Int.toNat 1)), xr.2.1, xr.2.2) hR7 hG0 hG1 hp19) rfl fun g20 _ _ hx20 hV20 => ?_))
       obtain ⟨a20_0, c20_0, a20_2, c20_2, rfl, hR20_0, hR20_2, rfl⟩ := hV20
       replace hL1 := hL1.mono hx20.1
       replace hG0 := hG0.mono hx20.1
       replace hG1 := hG1.mono hx20.1
       have hL21 : RepL g20 (.tree (.pair (.int .i64) (.pair (.int .i64) (.str)))) [] [] := rfl
       refine Ok.ownNil 26 4 (Ok.op rfl (OpOk.alloc (z := .agg #[.int .i64 0, .int .i64 0, sv ([] : Bs), .slice none ([] : List (Tree (Int × Int × Bs))).length 0]) (cs := #[.int .i64 0, .int .i64 0, sv ([] : Bs), .slice none ([] : List (Tree (Int × Int × Bs))).length 0]) (by kernel_rfl) (by kernel_rfl) rfl fun bs10 => ?_))
       refine Ok.op rfl (OpOk.sto (k := 4) (v := .agg #[.int .i64 (((smR ((xr.1.drop (Int.toNat 1)), xr.2.1, xr.2.2)).1).lab.1), .int .i64 (((smR ((xr.1.drop (Int.toNat 1)), xr.2.1, xr.2.2)).1).lab.2).1, sv ((((smR ((xr.1.drop (Int.toNat 1)), xr.2.1, xr.2.2)).1).lab.2).2), .slice a20_0 (((smR ((xr.1.drop (Int.toNat 1)), xr.2.1, xr.2.2)).1).kids).length c20_0]) 0 #[.int .i64 (((smR ((xr.1.drop (Int.toNat 1)), xr.2.1, xr.2.2)).1).lab.1), .int .i64 (((smR ((xr.1.drop (Int.toNat 1)), xr.2.1, xr.2.2)).1).lab.2).1, sv ((((smR ((xr.1.drop (Int.toNat 1)), xr.2.1, xr.2.2)).1).lab.2).2), .slice a20_0 (((smR ((xr.1.drop (Int.toNat 1)), xr.2.1, xr.2.2)).1).kids).length c20_0] rfl rfl rfl ?_)
       refine Ok.nil (Ok.thenN (Ok.seq (Ok.region (Ok.batch 2 [(4, pv bs4 0), (10, pv bs10 0), (77, pv bxr 0), (78, pv bxr 0)] (by kernel_rfl) (Ok.entries [2, 0, 1, 3, 4, 5] [.blk bxr (.cells #[.slice a20_2 ((smR ((xr.1.drop (Int.toNat 1)), xr.2.1, xr.2.2)).2.1).length c20_2, .int .i64 (smR ((xr.1.drop (Int.toNat 1)), xr.2.1, xr.2.2)).2.2.1, .bool (smR ((xr.1.drop (Int.toNat 1)), xr.2.1, xr.2.2)).2.2.2] 53), .blk bs10 (.cells #[.int .i64 (((smR ((xr.1.drop (Int.toNat 1)), xr.2.1, xr.2.2)).1).lab.1), .int .i64 (((smR ((xr.1.drop (Int.toNat 1)), xr.2.1, xr.2.2)).1).lab.2).1, sv ((((smR ((xr.1.drop (Int.toNat 1)), xr.2.1, xr.2.2)).1).lab.2).2), .slice a20_0 (((smR ((xr.1.drop (Int.toNat 1)), xr.2.1, xr.2.2)).1).kids).length c20_0] 26), .own (.slice none ([] : List (Tree (Int × Int × Bs))).length 0) 26 4 ([] : List (Tree (Int × Int × Bs))).length ([]), .blk bs5 (.cells #[.int .i64 e5.1, sv e5.2.1, sv e5.2.2.1, .int .i64 e5.2.2.2] 67), .blk bs4 (.cells #[.int .i64 0, .int .i64 0, sv ([] : Bs), .slice none ([] : List (Tree (Int × Int × Bs))).length 0] 26), .own (.slice none ([] : List (Tree (Int × Int × Bs))).length 0) 26 4 ([] : List (Tree (Int × Int × Bs))).length ([])] (by decide) rfl (Ok.op rfl (OpOk.callH [_] _ enr rfl (raw_c (smR ((xr.1.drop (Int.toNat 1)), xr.2.1, xr.2.2)).2 ([41] : Bs) hR20_2) rfl fun g23 _ _ hx23 hV23 => ?_)))))))
       obtain ⟨a23_0, c23_0, rfl, hR23_0, rfl⟩ := hV23
       replace hR20_0 := hR20_0.mono hx23.1
       replace hL21 := hL21.mono hx23.1
       replace hL1 := hL1.mono hx23.1
       replace hG0 := hG0.mono hx23.1
       replace hG1 := hG1.mono hx23.1
       refine Ok.op rfl (OpOk.inline (args := #[pv bxr 0, .bool (rwS (smR ((xr.1.drop (Int.toNat 1)), xr.2.1, xr.2.2)).2 ([41] : Bs)).1]) 8 [(0, pv bxr 0), (1, .bool (rwS (smR ((xr.1.drop (Int.toNat 1)), xr.2.1, xr.2.2)).2 ([41] : Bs)).1)] enr Tryz.func19 rfl rfl rfl rfl (Ok.seq (Ok.region (Ok.batch 2 [(5, .bool (!((rwS (smR ((xr.1.drop (Int.toNat 1)), xr.2.1, xr.2.2)).2 ([41] : Bs)).1)))] (by kernel_rfl) (Ok.nil (Ok.thenN (Ok.cond (b := !((rwS (smR ((xr.1.drop (Int.toNat 1)), xr.2.1, xr.2.2)).2 ([41] : Bs)).1)) rfl (fun hc24 => ?_) (fun hc24 => ?_))))))))
       ·replace hF := hF.1 hc24
        exact False.elim hF
       ·replace hF := hF.2 hc24
        refine Ok.skip (Ok.back (vs := []) (.inr rfl) rfl .nil rfl (Ok.nil (Ok.thenN (Ok.seq (Ok.region (Ok.op rfl (OpOk.step (v := .agg #[.int .i64 (((smR ((xr.1.drop (Int.toNat 1)), xr.2.1, xr.2.2)).1).lab.1), .int .i64 (((smR ((xr.1.drop (Int.toNat 1)), xr.2.1, xr.2.2)).1).lab.2).1, sv ((((smR ((xr.1.drop (Int.toNat 1)), xr.2.1, xr.2.2)).1).lab.2).2), .slice a20_0 (((smR ((xr.1.drop (Int.toNat 1)), xr.2.1, xr.2.2)).1).kids).length c20_0]) (Yields.loadAgg 1 4 #[.int .i64 (((smR ((xr.1.drop (Int.toNat 1)), xr.2.1, xr.2.2)).1).lab.1), .int .i64 (((smR ((xr.1.drop (Int.toNat 1)), xr.2.1, xr.2.2)).1).lab.2).1, sv ((((smR ((xr.1.drop (Int.toNat 1)), xr.2.1, xr.2.2)).1).lab.2).2), .slice a20_0 (((smR ((xr.1.drop (Int.toNat 1)), xr.2.1, xr.2.2)).1).kids).length c20_0] rfl rfl Tryz.underlying26 rfl (by kernel_rfl) (by kernel_rfl) (by kernel_rfl)) rfl rfl (Ok.op rfl (OpOk.sto (k := 4) (v := .agg #[.int .i64 (((smR ((xr.1.drop (Int.toNat 1)), xr.2.1, xr.2.2)).1).lab.1), .int .i64 (((smR ((xr.1.drop (Int.toNat 1)), xr.2.1, xr.2.2)).1).lab.2).1, sv ((((smR ((xr.1.drop (Int.toNat 1)), xr.2.1, xr.2.2)).1).lab.2).2), .slice a20_0 (((smR ((xr.1.drop (Int.toNat 1)), xr.2.1, xr.2.2)).1).kids).length c20_0]) 4 #[.int .i64 (((smR ((xr.1.drop (Int.toNat 1)), xr.2.1, xr.2.2)).1).lab.1), .int .i64 (((smR ((xr.1.drop (Int.toNat 1)), xr.2.1, xr.2.2)).1).lab.2).1, sv ((((smR ((xr.1.drop (Int.toNat 1)), xr.2.1, xr.2.2)).1).lab.2).2), .slice a20_0 (((smR ((xr.1.drop (Int.toNat 1)), xr.2.1, xr.2.2)).1).kids).length c20_0] rfl rfl rfl ?_)))))))))
        refine Ok.nil (Ok.thenN (Ok.ret (Ok.thenR ?_)))
        exact Ok.resP (vs := [.agg #[.int .i64 (((smR ((xr.1.drop (Int.toNat 1)), xr.2.1, xr.2.2)).1).lab.1), .int .i64 (((smR ((xr.1.drop (Int.toNat 1)), xr.2.1, xr.2.2)).1).lab.2).1, sv ((((smR ((xr.1.drop (Int.toNat 1)), xr.2.1, xr.2.2)).1).lab.2).2), .slice a20_0 (((smR ((xr.1.drop (Int.toNat 1)), xr.2.1, xr.2.2)).1).kids).length c20_0]]) [0] [.blk bxr (.cells #[.slice a23_0 ((rwS (smR ((xr.1.drop (Int.toNat 1)), xr.2.1, xr.2.2)).2 ([41] : Bs)).2.1).length c23_0, .int .i64 (rwS (smR ((xr.1.drop (Int.toNat 1)), xr.2.1, xr.2.2)).2 ([41] : Bs)).2.2.1, .bool (rwS (smR ((xr.1.drop (Int.toNat 1)), xr.2.1, xr.2.2)).2 ([41] : Bs)).2.2.2] 53)] (by decide) rfl (.inl rfl) rfl (.cons (.cellAgg 4 4 #[.int .i64 (((smR ((xr.1.drop (Int.toNat 1)), xr.2.1, xr.2.2)).1).lab.1), .int .i64 (((smR ((xr.1.drop (Int.toNat 1)), xr.2.1, xr.2.2)).1).lab.2).1, sv ((((smR ((xr.1.drop (Int.toNat 1)), xr.2.1, xr.2.2)).1).lab.2).2), .slice a20_0 (((smR ((xr.1.drop (Int.toNat 1)), xr.2.1, xr.2.2)).1).kids).length c20_0] rfl rfl Tryz.underlying26 rfl (by kernel_rfl) (by kernel_rfl) (by kernel_rfl)) .nil) ((hxj22.trans hx20).trans hx23) ⟨(smR ((xr.1.drop (Int.toNat 1)), xr.2.1, xr.2.2)).1, (rwS ((smR ((xr.1.drop (Int.toNat 1)), xr.2.1, xr.2.2)).2.1, (smR ((xr.1.drop (Int.toNat 1)), xr.2.1, xr.2.2)).2.2.1, (smR ((xr.1.drop (Int.toNat 1)), xr.2.1, xr.2.2)).2.2.2) ([41] : Bs)).2, a20_0, c20_0, a23_0, c23_0, rfl, hR20_0, hR23_0, rfl, hF⟩
      ·replace hF := hF.2 hc18
       refine Ok.skip (Ok.thenN (Ok.seq ?_))
       exact False.elim hF
def vaP (r : Rd) (b : Bool) : Prop := r = RA ∧ b = false
def vaR (r : Rd) (b : Bool) : Tm × Rd := (T1, RB)
theorem va_F (r : Rd) (b : Bool) (hp : vaP r b) : vaF r b (fun a c => (a, c) = vaR r b) := by
 obtain ⟨rfl, rfl⟩ := hp
 have J : vaj22 RA false (fun a c => (a, c) = vaR RA false) tkF := ⟨fun h => (by cases h), fun _ => ⟨fun h => absurd h (by decide), fun _ => ⟨rfl, fun _ => ⟨rfl, fun h => absurd h (by decide +kernel), fun _ => by show _ = _; kernel_rfl⟩, fun h => absurd h (by decide)⟩⟩⟩
 exact ⟨fun h => absurd h (by decide), fun _ => ⟨by decide, by decide, by decide, by decide, by decide, fun h => absurd h (by decide), fun _ => ⟨fun h => (by cases h), fun _ => J⟩⟩⟩
theorem va_c {g : Ghost} {bxr : Nat} {axr_0 : Option Addr} {cxr_0 : Nat} (xr : (List (Int × Bs × Bs × Int)) × Int × Bool) (xin : Bool) (hRxr_0 : Rep g (.slice (.pair (.int .i64) (.pair (.str) (.pair (.str) (.int .i64))))) [.slice axr_0 xr.1.length cxr_0] xr.1) (hG0 : Glob g 0 (.slice (.str)) DUnits) (hG1 : SomeInt g 1)  (hp : vaP xr xin) : CallsH Tryz.prog 18 #[pv bxr 0, .bool xin] g [.blk bxr (.cells #[.slice axr_0 xr.1.length cxr_0, .int .i64 xr.2.1, .bool xr.2.2] 53)] (fun g' H' v => ∃ (ar0_0 : Option Addr) (cr0_0 : Nat), ∃ (afxr_0 : Option Addr) (cfxr_0 : Nat), v = .agg #[.int .i64 ((vaR xr xin).1).lab.1, .int .i64 ((vaR xr xin).1).lab.2.1, sv (((vaR xr xin).1).lab.2.2), .slice ar0_0 ((vaR xr xin).1).kids.length cr0_0] ∧ Rep g' (.slice (.tree (.pair (.int .i64) (.pair (.int .i64) (.str))))) [.slice ar0_0 ((vaR xr xin).1).kids.length cr0_0] ((vaR xr xin).1).kids ∧ Rep g' (.slice (.pair (.int .i64) (.pair (.str) (.pair (.str) (.int .i64))))) [.slice afxr_0 (vaR xr xin).2.1.length cfxr_0] (vaR xr xin).2.1 ∧ H' = [.blk bxr (.cells #[.slice afxr_0 (vaR xr xin).2.1.length cfxr_0, .int .i64 (vaR xr xin).2.2.1, .bool (vaR xr xin).2.2.2] 53)]) :=
 (va_ok xr xin hRxr_0 hG0 hG1 _ (va_F xr xin hp)).mono (by rintro g' H' v _ ⟨r0, fxr, ar0_0, cr0_0, afxr_0, cfxr_0, rfl, hRr0_0, hRfxr_0, rfl, hK⟩; obtain ⟨rfl, rfl⟩ : r0 = (vaR xr xin).1 ∧ fxr = (vaR xr xin).2 := ⟨congrArg (fun z => z.1) hK, congrArg (fun z => z.2) hK⟩; exact ⟨ar0_0, cr0_0, afxr_0, cfxr_0, rfl, hRr0_0, hRfxr_0, rfl⟩)
theorem idle15 (p q : Value) : Idle Tryz.prog 15 #[p, q] := by
 intro W
 refine callsD_of_wpS Tryz.func15 rfl fun c₀ cs hu => ?_
 apply wpS_seq
 apply wpS_region
 simp [wpOpsS, go_sem, recoverD, hu, Exit.thenS]
 apply wpS_seq
 apply wpS_region
 simp [wpOpsS, go_sem, Exit.thenS]
 refine wpS_cond (t := false) (by simp [Act.eval, Array.replicate]) ?_
 simp only [Bool.false_eq_true, if_false]
 refine wpS_of_wp (wp_skip ?_)
 exact ⟨rfl, .returning, by cases c₀; simp_all, .tuple #[], by simp [results, Tryz.results15], ⟨_, rfl⟩, rfl, Below.refl _ _⟩
def rdF (xs : Bs) (K : (Tree (Int × Int × Bs)) → Int → Prop) : Prop :=
 ((decide ((xs.length : Int) > 400)) = true → K (Tree.mk (0, (0, ([] : Bs))) ([])) 2) ∧ ((decide ((xs.length : Int) > 400)) = false → cutP xs ∧ vaP (gapS ((cutS xs), 0, false)).2 false ∧ ((!((((gapS (vaR ((gapS ((cutS xs), 0, false)).2.1, (gapS ((cutS xs), 0, false)).2.2.1, (gapS ((cutS xs), 0, false)).2.2.2) false).2).2.1).length : Int) == 0)) = true → False) ∧ ((!((((gapS (vaR ((gapS ((cutS xs), 0, false)).2.1, (gapS ((cutS xs), 0, false)).2.2.1, (gapS ((cutS xs), 0, false)).2.2.2) false).2).2.1).length : Int) == 0)) = false → K (vaR (gapS ((cutS xs), 0, false)).2 false).1 0))
theorem rd_ok {g : Ghost} (xs : Bs) (hG0 : Glob g 0 (.slice (.str)) DUnits) (hG1 : SomeInt g 1) (K : (Tree (Int × Int × Bs)) → Int → Prop)
  (hF : rdF xs K) : CallsH Tryz.prog 8 #[sv xs] g [] (fun g' H' v => ∃ (r0 : Tree (Int × Int × Bs)), ∃ (r1 : Int), ∃ (ar0_0 : Option Addr) (cr0_0 : Nat), v = .tuple #[.agg #[.int .i64 r0.lab.1, .int .i64 r0.lab.2.1, sv r0.lab.2.2, .slice ar0_0 r0.kids.length cr0_0], .int .i64 r1] ∧ Rep g' (.slice (.tree (.pair (.int .i64) (.pair (.int .i64) (.str))))) [.slice ar0_0 r0.kids.length cr0_0] r0.kids ∧ H' = [] ∧ K r0 r1) := by
 refine CallsH.enterD 29 [(0, sv xs)] Tryz.func8 rfl (by kernel_rfl) (by kernel_rfl) (by kernel_rfl) fun w0 => ?_
 refine Ok.seq (Ok.region (Ok.op rfl (OpOk.alloc (z := .agg #[.int .i64 0, .int .i64 0, sv ([] : Bs), .slice none 0 0]) (cs := #[.int .i64 0, .int .i64 0, sv ([] : Bs), .slice none 0 0]) (by kernel_rfl) (by kernel_rfl) rfl fun bs2 => ?_)))
 refine Ok.op rfl (OpOk.alloc (z := .int .i64 0) (cs := #[.int .i64 0]) (by kernel_rfl) (by kernel_rfl) rfl fun bs3 => ?_)
 refine Ok.nil (Ok.thenN (Ok.seq (Ok.seq (Ok.region (Ok.batch 3 [(0, sv xs), (2, pv bs2 0), (3, pv bs3 0), (7, .bool (decide ((xs.length : Int) > 400)))] (by kernel_rfl) (Ok.nil (Ok.thenN (Ok.cond (b := decide ((xs.length : Int) > 400)) rfl (fun hc3 => ?_) (fun hc3 => ?_)))))))))
 ·replace hF := hF.1 hc3
  refine Ok.seq (Ok.region (Ok.bat 1 [2, 3] [(8, .agg #[.int .i64 0, .int .i64 0, sv ([] : Bs), .slice none 0 0])] ?_))
  refine Ok.op rfl (OpOk.sto (k := 4) (v := .agg #[.int .i64 0, .int .i64 0, sv ([] : Bs), .slice none 0 0]) 1 #[.int .i64 0, .int .i64 0, sv ([] : Bs), .slice none 0 0] rfl rfl rfl ?_)
  refine Ok.op rfl (OpOk.sto (k := 1) (v := .int .i64 2) 0 #[.int .i64 2] rfl rfl rfl ?_)
  refine Ok.nil (Ok.thenN (Ok.ret (Ok.thenR ?_)))
  exact Ok.resD0 (vs := [.agg #[.int .i64 0, .int .i64 0, sv ([] : Bs), .slice none 0 0], .int .i64 2]) rfl [] [] (by decide) rfl (.inl rfl) rfl (.cons (.cellAgg 1 4 #[.int .i64 0, .int .i64 0, sv ([] : Bs), .slice none 0 0] rfl rfl Tryz.underlying26 rfl (by kernel_rfl) (by kernel_rfl) (by kernel_rfl)) (.cons (.cellOne 0 rfl rfl Tryz.underlying32 rfl (by kernel_rfl)) .nil)) (Gext.refl w0 g) ⟨(Tree.mk (0, (0, ([] : Bs))) ([])), 2, none, 0, rfl, Rep.nil, rfl, hF⟩
 ·replace hF := hF.2 hc3
  refine Ok.skip (Ok.thenN (Ok.seq (Ok.region (Ok.bat 1 [0, 2, 3] [(9, .func (.func 15) #[] #[pv bs2 0, pv bs3 0])] ?_))))
  refine Ok.op rfl (OpOk.defer ⟨.fn (.func 15) #[pv bs2 0, pv bs3 0], #[]⟩ (by kernel_rfl) (fun _ => by kernel_rfl) rfl ?_)
  refine Ok.nil (Ok.thenN (Ok.seq (Ok.region (Ok.bat 1 [2, 3] [(10, sv xs)] ?_))))
  obtain ⟨hp4, hF⟩ := hF
  refine Ok.op rfl (OpOk.callH [] _ enr rfl (cut_c xs hG1 hp4) rfl fun g5 _ _ hx5 hV5 => ?_)
  obtain ⟨a5_0, c5_0, rfl, hR5_0, rfl⟩ := hV5
  replace hG0 := hG0.mono hx5.1
  replace hG1 := hG1.mono hx5.1
  refine Ok.bat 1 [2, 3] [(12, .agg #[.slice a5_0 (cutS xs).length c5_0, .int .i64 0, .bool false])] ?_
  refine Ok.op rfl (OpOk.box (v := .agg #[.slice a5_0 (cutS xs).length c5_0, .int .i64 0, .bool false]) (cs := #[.slice a5_0 (cutS xs).length c5_0, .int .i64 0, .bool false]) rfl (by kernel_rfl) rfl fun bs13 => ?_)
  refine Ok.bat 1 [2, 3] [(4, pv bs13 0)] ?_
  refine Ok.nil (Ok.thenN (Ok.seq (Ok.region (Ok.bat 1 [2, 3, 4] [(14, pv bs13 0)] ?_))))
  refine Ok.op rfl (OpOk.callH [_] _ enr rfl (gap_c ((cutS xs), 0, false) hR5_0) rfl fun g7 _ _ hx7 hV7 => ?_)
  obtain ⟨a7_0, c7_0, rfl, hR7_0, rfl⟩ := hV7
  replace hG0 := hG0.mono hx7.1
  replace hG1 := hG1.mono hx7.1
  refine Ok.nil (Ok.thenN (Ok.seq (Ok.region (Ok.bat 1 [2, 3, 4] [(16, pv bs13 0)] ?_))))
  obtain ⟨hp8, hF⟩ := hF
  refine Ok.op rfl (OpOk.callH [_] _ enr rfl (va_c (gapS ((cutS xs), 0, false)).2 false hR7_0 hG0 hG1 hp8) rfl fun g9 _ _ hx9 hV9 => ?_)
  obtain ⟨a9_0, c9_0, a9_2, c9_2, rfl, hR9_0, hR9_2, rfl⟩ := hV9
  replace hG0 := hG0.mono hx9.1
  replace hG1 := hG1.mono hx9.1
  refine Ok.op rfl (OpOk.sto (k := 4) (v := .agg #[.int .i64 (((vaR (gapS ((cutS xs), 0, false)).2 false).1).lab.1), .int .i64 (((vaR (gapS ((cutS xs), 0, false)).2 false).1).lab.2).1, sv ((((vaR (gapS ((cutS xs), 0, false)).2 false).1).lab.2).2), .slice a9_0 (((vaR (gapS ((cutS xs), 0, false)).2 false).1).kids).length c9_0]) 2 #[.int .i64 (((vaR (gapS ((cutS xs), 0, false)).2 false).1).lab.1), .int .i64 (((vaR (gapS ((cutS xs), 0, false)).2 false).1).lab.2).1, sv ((((vaR (gapS ((cutS xs), 0, false)).2 false).1).lab.2).2), .slice a9_0 (((vaR (gapS ((cutS xs), 0, false)).2 false).1).kids).length c9_0] rfl rfl rfl ?_)
  refine Ok.nil (Ok.thenN (Ok.seq (Ok.region (Ok.bat 1 [2, 3, 4] [(18, pv bs13 0)] ?_))))
  refine Ok.op rfl (OpOk.callH [_] _ enr rfl (gap_c (vaR ((gapS ((cutS xs), 0, false)).2.1, (gapS ((cutS xs), 0, false)).2.2.1, (gapS ((cutS xs), 0, false)).2.2.2) false).2 hR9_2) rfl fun g10 _ _ hx10 hV10 => ?_)
  obtain ⟨a10_0, c10_0, rfl, hR10_0, rfl⟩ := hV10
  replace hR9_0 := hR9_0.mono hx10.1
  replace hG0 := hG0.mono hx10.1
  replace hG1 := hG1.mono hx10.1
  refine Ok.nil (Ok.thenN (Ok.seq (Ok.region (Ok.bat 4 [2, 3] [(20, pv bs13 0), (23, pv bs13 0)] ?_))))
  refine Ok.op rfl (OpOk.step (v := .slice a10_0 ((gapS (vaR ((gapS ((cutS xs), 0, false)).2.1, (gapS ((cutS xs), 0, false)).2.2.1, (gapS ((cutS xs), 0, false)).2.2.2) false).2).2.1).length c10_0) (Yields.load 0 rfl rfl Tryz.underlying50 rfl (by kernel_rfl)) rfl rfl (Ok.bat 2 [2, 3, 20] [(26, .bool ((((gapS (vaR ((gapS ((cutS xs), 0, false)).2.1, (gapS ((cutS xs), 0, false)).2.2.1, (gapS ((cutS xs), 0, false)).2.2.2) false).2).2.1).length : Int) == 0))] ?_))
  refine Ok.op rfl (OpOk.inline (args := #[pv bs13 0, .bool ((((gapS (vaR ((gapS ((cutS xs), 0, false)).2.1, (gapS ((cutS xs), 0, false)).2.2.1, (gapS ((cutS xs), 0, false)).2.2.2) false).2).2.1).length : Int) == 0)]) 8 [(0, pv bs13 0), (1, .bool ((((gapS (vaR ((gapS ((cutS xs), 0, false)).2.1, (gapS ((cutS xs), 0, false)).2.2.1, (gapS ((cutS xs), 0, false)).2.2.2) false).2).2.1).length : Int) == 0))] enr Tryz.func19 rfl rfl rfl rfl (Ok.seq (Ok.region (Ok.batch 2 [(5, .bool (!((((gapS (vaR ((gapS ((cutS xs), 0, false)).2.1, (gapS ((cutS xs), 0, false)).2.2.1, (gapS ((cutS xs), 0, false)).2.2.2) false).2).2.1).length : Int) == 0)))] (by kernel_rfl) (Ok.nil (Ok.thenN (Ok.cond (b := !((((gapS (vaR ((gapS ((cutS xs), 0, false)).2.1, (gapS ((cutS xs), 0, false)).2.2.1, (gapS ((cutS xs), 0, false)).2.2.2) false).2).2.1).length : Int) == 0)) rfl (fun hc11 => ?_) (fun hc11 => ?_))))))))
  ·replace hF := hF.1 hc11
   exact False.elim hF
  ·replace hF := hF.2 hc11
   refine Ok.skip (Ok.back (vs := []) (.inr rfl) rfl .nil rfl (Ok.nil (Ok.thenN (Ok.seq (Ok.region (Ok.op rfl (OpOk.step (v := .agg #[.int .i64 (((vaR (gapS ((cutS xs), 0, false)).2 false).1).lab.1), .int .i64 (((vaR (gapS ((cutS xs), 0, false)).2 false).1).lab.2).1, sv ((((vaR (gapS ((cutS xs), 0, false)).2 false).1).lab.2).2), .slice a9_0 (((vaR (gapS ((cutS xs), 0, false)).2 false).1).kids).length c9_0]) (Yields.loadAgg 2 4 #[.int .i64 (((vaR (gapS ((cutS xs), 0, false)).2 false).1).lab.1), .int .i64 (((vaR (gapS ((cutS xs), 0, false)).2 false).1).lab.2).1, sv ((((vaR (gapS ((cutS xs), 0, false)).2 false).1).lab.2).2), .slice a9_0 (((vaR (gapS ((cutS xs), 0, false)).2 false).1).kids).length c9_0] rfl rfl Tryz.underlying26 rfl (by kernel_rfl) (by kernel_rfl) (by kernel_rfl)) rfl rfl (Ok.op rfl (OpOk.sto (k := 4) (v := .agg #[.int .i64 (((vaR (gapS ((cutS xs), 0, false)).2 false).1).lab.1), .int .i64 (((vaR (gapS ((cutS xs), 0, false)).2 false).1).lab.2).1, sv ((((vaR (gapS ((cutS xs), 0, false)).2 false).1).lab.2).2), .slice a9_0 (((vaR (gapS ((cutS xs), 0, false)).2 false).1).kids).length c9_0]) 2 #[.int .i64 (((vaR (gapS ((cutS xs), 0, false)).2 false).1).lab.1), .int .i64 (((vaR (gapS ((cutS xs), 0, false)).2 false).1).lab.2).1, sv ((((vaR (gapS ((cutS xs), 0, false)).2 false).1).lab.2).2), .slice a9_0 (((vaR (gapS ((cutS xs), 0, false)).2 false).1).kids).length c9_0] rfl rfl rfl ?_)))))))))
   refine Ok.op rfl (OpOk.sto (k := 1) (v := .int .i64 0) 1 #[.int .i64 0] rfl rfl rfl ?_)
   refine Ok.nil (Ok.thenN (Ok.ret ?_))
   exact Ok.resD (vs := [.agg #[.int .i64 (((vaR (gapS ((cutS xs), 0, false)).2 false).1).lab.1), .int .i64 (((vaR (gapS ((cutS xs), 0, false)).2 false).1).lab.2).1, sv ((((vaR (gapS ((cutS xs), 0, false)).2 false).1).lab.2).2), .slice a9_0 (((vaR (gapS ((cutS xs), 0, false)).2 false).1).kids).length c9_0], .int .i64 0]) (args := #[pv bs2 0, pv bs3 0]) (idle15 _ _) rfl (fun _ => by kernel_rfl) [] [] (by decide) rfl (.inl rfl) rfl (.cons (.cellAgg 2 4 #[.int .i64 (((vaR (gapS ((cutS xs), 0, false)).2 false).1).lab.1), .int .i64 (((vaR (gapS ((cutS xs), 0, false)).2 false).1).lab.2).1, sv ((((vaR (gapS ((cutS xs), 0, false)).2 false).1).lab.2).2), .slice a9_0 (((vaR (gapS ((cutS xs), 0, false)).2 false).1).kids).length c9_0] rfl rfl Tryz.underlying26 rfl (by kernel_rfl) (by kernel_rfl) (by kernel_rfl)) (.cons (.cellOne 1 rfl rfl Tryz.underlying32 rfl (by kernel_rfl)) .nil)) (((hx5.trans hx7).trans hx9).trans hx10) ⟨(vaR (gapS ((cutS xs), 0, false)).2 false).1, 0, a9_0, c9_0, rfl, hR9_0, rfl, hF⟩
def rdP (s : Bs) : Prop := s = [99, 97, 108, 99, 40, 49, 112, 120, 32, 42, 32, 50, 41]
def rdR (s : Bs) : Tm × Int := (T1, 0)
theorem cut_known : cutS [99, 97, 108, 99, 40, 49, 112, 120, 32, 42, 32, 50, 41] = RA.1 := by decide +kernel
theorem rd_F (s : Bs) (hp : rdP s) : rdF s (fun a c => (a, c) = rdR s) := by
 obtain rfl : s = [99, 97, 108, 99, 40, 49, 112, 120, 32, 42, 32, 50, 41] := hp
 unfold rdF
 rw [cut_known]
 exact ⟨fun h => absurd h (by decide), fun _ => ⟨⟨by decide, by decide +kernel⟩, ⟨rfl, rfl⟩, fun h => absurd h (by decide +kernel), fun _ => rfl⟩⟩
theorem rd_c {g : Ghost} (xs : Bs) (hG0 : Glob g 0 (.slice (.str)) DUnits) (hG1 : SomeInt g 1)  (hp : rdP xs) : CallsH Tryz.prog 8 #[sv xs] g [] (fun g' H' v => ∃ (ar0_0 : Option Addr) (cr0_0 : Nat), v = .tuple #[.agg #[.int .i64 ((rdR xs).1).lab.1, .int .i64 ((rdR xs).1).lab.2.1, sv (((rdR xs).1).lab.2.2), .slice ar0_0 ((rdR xs).1).kids.length cr0_0], .int .i64 (rdR xs).2] ∧ Rep g' (.slice (.tree (.pair (.int .i64) (.pair (.int .i64) (.str))))) [.slice ar0_0 ((rdR xs).1).kids.length cr0_0] ((rdR xs).1).kids ∧ H' = []) :=
 (rd_ok xs hG0 hG1 _ (rd_F xs hp)).mono (by rintro g' H' v _ ⟨r0, r1, ar0_0, cr0_0, rfl, hRr0_0, rfl, hK⟩; obtain ⟨rfl, rfl⟩ : r0 = (rdR xs).1 ∧ r1 = (rdR xs).2 := ⟨congrArg (fun z => z.1) hK, congrArg (fun z => z.2) hK⟩; exact ⟨ar0_0, cr0_0, rfl, hRr0_0, rfl⟩)
end Go.Proofs.YtogcmkphibegbaaGreatDoor.Cl
