/- Store: a drawer. -/
import Derived.Test.YtdjcgbejnpbjlaaGreatDoorUor
import Derived.Test.YtdjcgbejnpbjlaaGreatDoorMdl
import Derived.Test.YtdjcgbejnpbjlaaGreatDoorTnl
import Derived.Test.YtdjcgbejnpbjlaaGreatDoorFrk
import Derived.Test.YtdjcgbejnpbjlaaGreatDoorVex
namespace Go.Proofs.YtdjcgbejnpbjlaaGreatDoor.Sd
open Go Go.Eng Go.RowKit Bld Sp Ti Uc Ua Ui Ub
set_option maxHeartbeats 4000000
set_option maxRecDepth 100000
set_option linter.unusedSimpArgs false
set_option linter.unusedVariables false
noncomputable section
def dputV0 (xkey : Bs) (xvalue : Bs) (x8j3 : Bool) (ybs7_0j3 : Bs) : Int :=
 (if (!x8j3) = true then w6 ((w6 ((xvalue.length : Int) - (ybs7_0j3.length : Int))) + (xkey.length : Int)) else w6 ((xvalue.length : Int) - (ybs7_0j3.length : Int)))
def dputV1 (xd : List Bs × (List (Bs × Bs)) × Int) (xkey : Bs) (x8j3 : Bool) : List Bs :=
 (if (!x8j3) = true then (xd.1 ++ ([xkey] : List Bs)) else xd.1)
def dputj23 (xd : List Bs × (List (Bs × Bs)) × Int) (xkey : Bs) (xvalue : Bs) (K : (Int × Bs × Bool × List Bs) → (List Bs × (List (Bs × Bs)) × Int) → Prop) (x8j3 : Bool) (ybs7_0j3 : Bs) : Prop :=
 K (0, ybs7_0j3, x8j3, []) ((dputV1 xd xkey x8j3), (putK xkey xvalue xd.2.1), w6 (xd.2.2 + (dputV0 xkey xvalue x8j3 ybs7_0j3)))
def dputj9 (xd : List Bs × (List (Bs × Bs)) × Int) (xkey : Bs) (xvalue : Bs) (K : (Int × Bs × Bool × List Bs) → (List Bs × (List (Bs × Bs)) × Int) → Prop) (x8j3 : Bool) (ybs7_0j3 : Bs) : Prop :=
 ((decide ((w6 (xd.2.2 + (dputV0 xkey xvalue x8j3 ybs7_0j3))) > 400)) = true → K (2, ([] : Bs), false, []) xd) ∧ ((decide ((w6 (xd.2.2 + (dputV0 xkey xvalue x8j3 ybs7_0j3))) > 400)) = false → ((!x8j3) = true → (xd.1 ++ ([xkey] : List Bs)).length ≤ 8796093022208 ∧ dputj23 xd xkey xvalue K x8j3 ybs7_0j3) ∧ ((!x8j3) = false → dputj23 xd xkey xvalue K x8j3 ybs7_0j3))
def dputj3 (xd : List Bs × (List (Bs × Bs)) × Int) (xkey : Bs) (xvalue : Bs) (K : (Int × Bs × Bool × List Bs) → (List Bs × (List (Bs × Bs)) × Int) → Prop) (x8j3 : Bool) (ybs7_0j3 : Bs) : Prop :=
 ((!x8j3) = true → dputj9 xd xkey xvalue K x8j3 ybs7_0j3) ∧ ((!x8j3) = false → dputj9 xd xkey xvalue K x8j3 ybs7_0j3)
def dputF (xd : List Bs × (List (Bs × Bs)) × Int) (xkey : Bs) (xvalue : Bs) (K : (Int × Bs × Bool × List Bs) → (List Bs × (List (Bs × Bs)) × Int) → Prop) : Prop :=
 (∀ e8 : Bs, assocK xkey xd.2.1 = some e8 → dputj3 xd xkey xvalue K true e8) ∧ (assocK xkey xd.2.1 = none → dputj3 xd xkey xvalue K false ([] : Bs))
theorem dput_ok {g : Ghost} {bxd : Nat} {axd_0 : Option Addr} {cxd_0 : Nat} {xsxd_0 : List Value} {bmxd_1 : Nat} {esxd_1 : Array MapEntry} {ckxd_1 : Nat} (xd : List Bs × (List (Bs × Bs)) × Int) (xkey : Bs) (xvalue : Bs) (hLxd_0 : RepL g (.str) xsxd_0 xd.1) (hMxd_1 : RepMapA g (.str) true (fun k : Bs => Value.string ⟨⟨k⟩⟩) esxd_1 ckxd_1 xd.2.1) (K : (Int × Bs × Bool × List Bs) → (List Bs × (List (Bs × Bs)) × Int) → Prop)
  (hF : dputF xd xkey xvalue K) : CallsH Tryz.prog 22 #[pv bxd 0, sv xkey, sv xvalue] g [.blk bxd (.cells #[.slice axd_0 xd.1.length cxd_0, .map (some bmxd_1), .int .i64 xd.2.2] 42), .own (.slice axd_0 xd.1.length cxd_0) 9 1 xd.1.length xsxd_0, .blk bmxd_1 (.map esxd_1 ckxd_1)] (fun g' H' v => ∃ (r0 : Int × Bs × Bool × List Bs), ∃ (fxd : List Bs × (List (Bs × Bs)) × Int), ∃ (ar0_0 : Option Addr) (cr0_0 : Nat), ∃ (afxd_0 : Option Addr) (cfxd_0 : Nat) (xsfxd_0 : List Value), ∃ (esfxd_1 : Array MapEntry) (ckfxd_1 : Nat), v = .agg #[.int .i64 r0.1, sv r0.2.1, .bool r0.2.2.1, .slice ar0_0 r0.2.2.2.length cr0_0] ∧ Rep g' (.slice (.str)) [.slice ar0_0 r0.2.2.2.length cr0_0] r0.2.2.2 ∧ RepL g' (.str) xsfxd_0 fxd.1 ∧ RepMapA g' (.str) true (fun k : Bs => Value.string ⟨⟨k⟩⟩) esfxd_1 ckfxd_1 fxd.2.1 ∧ H' = [.blk bxd (.cells #[.slice afxd_0 fxd.1.length cfxd_0, .map (some bmxd_1), .int .i64 fxd.2.2] 42), .own (.slice afxd_0 fxd.1.length cfxd_0) 9 1 fxd.1.length xsfxd_0, .blk bmxd_1 (.map esfxd_1 ckfxd_1)] ∧ K r0 fxd) := by
 refine CallsH.enter 71 [(0, pv bxd 0), (1, sv xkey), (2, sv xvalue)] Tryz.func22 rfl (by kernel_rfl) (by kernel_rfl) (by kernel_rfl) fun w0 => ?_
 refine Ok.seq (Ok.region (Ok.op rfl (OpOk.alloc (z := .agg #[.int .i64 0, sv ([] : Bs), .bool false, .slice none 0 0]) (cs := #[.int .i64 0, sv ([] : Bs), .bool false, .slice none 0 0]) (by kernel_rfl) (by kernel_rfl) rfl fun bs6 => ?_)))
 refine Ok.nil (Ok.thenN (Ok.cut (fun a W => ∃ gj3 : Ghost, Gext w0 g gj3 ∧ ∃ (bs7 : Nat) (x8j3 : Bool) (ybs7_0j3 : Bs), StA 71 [(0, pv bxd 0), (1, sv xkey), (2, sv xvalue), (6, pv bs6 0), (7, pv bs7 0), (8, .bool x8j3)] a ∧ StW w0 [.blk bs7 (.cells #[sv ybs7_0j3] 61), .blk bs6 (.cells #[.int .i64 0, sv ([] : Bs), .bool false, .slice none 0 0] 30), .blk bxd (.cells #[.slice axd_0 xd.1.length cxd_0, .map (some bmxd_1), .int .i64 xd.2.2] 42), .own (.slice axd_0 xd.1.length cxd_0) 9 1 xd.1.length xsxd_0, .blk bmxd_1 (.map esxd_1 ckxd_1)] gj3 W ∧ dputj3 xd xkey xvalue K x8j3 ybs7_0j3) ?_ ?_))
 ·
  refine Ok.region (Ok.batch 3 [(0, pv bxd 0), (1, sv xkey), (2, sv xvalue), (6, pv bs6 0), (14, pv bxd 1)] (by kernel_rfl) (Ok.op rfl (OpOk.step (v := .map (some bmxd_1)) (Yields.load 1 rfl rfl Tryz.underlying40 rfl (by kernel_rfl)) rfl rfl (Ok.bat 1 [0, 1, 2, 6] [(15, .map (some bmxd_1)), (16, sv xkey)] ?_))))
  cases hce8 : assocK xkey xd.2.1 with
  | some e8 =>
   replace hF := hF.1 e8 hce8
   refine Ok.op rfl (OpOk.lookupSome (vt := .str) (row := true) keyStr 3 rfl hMxd_1.1 rfl rfl Tryz.underlying40 Tryz.underlying9 hce8 rfl fun v8 cs8 hvi8 hr8 u8 hu8 => ?_)
   obtain rfl := hr8
   have hvi8 : v8 = .agg #[sv e8] := hvi8
   subst hvi8
   have hu8 : u8 = .tuple #[.agg #[sv e8], .bool true] := hu8
   subst hu8
   refine Ok.bat 3 [0, 1, 2, 6] [(18, .agg #[sv e8]), (19, .bool true)] ?_
   refine Ok.op rfl (OpOk.alloc (z := .agg #[sv ([] : Bs)]) (cs := #[sv ([] : Bs)]) (by kernel_rfl) (by kernel_rfl) rfl fun bs7 => ?_)
   refine Ok.op rfl (OpOk.sto (k := 1) (v := .agg #[sv e8]) 0 #[sv e8] rfl rfl rfl ?_)
   refine Ok.bat 1 [0, 1, 2, 6] [(7, pv bs7 0), (8, .bool true)] ?_
   refine Ok.nil (Ok.thenN ?_)
   exact fun a W hA hW => ⟨g, (Gext.refl w0 g), bs7, true, e8, hA.sub (by kernel_rfl), hW, hF⟩
  | none =>
   replace hF := hF.2 hce8
   refine Ok.op rfl (OpOk.lookupNone (vt := .str) (row := true) (z := .agg #[sv ([] : Bs)]) (u := .tuple #[.agg #[sv ([] : Bs)], .bool false]) keyStr 3 rfl hMxd_1.1 rfl rfl Tryz.underlying40 Tryz.underlying9 (by kernel_rfl) hce8 rfl rfl (Ok.bat 3 [0, 1, 2, 6] [(18, .agg #[sv ([] : Bs)]), (19, .bool false)] ?_))
   refine Ok.op rfl (OpOk.alloc (z := .agg #[sv ([] : Bs)]) (cs := #[sv ([] : Bs)]) (by kernel_rfl) (by kernel_rfl) rfl fun bs7 => ?_)
   refine Ok.op rfl (OpOk.sto (k := 1) (v := .agg #[sv ([] : Bs)]) 0 #[sv ([] : Bs)] rfl rfl rfl ?_)
   refine Ok.bat 1 [0, 1, 2, 6] [(7, pv bs7 0), (8, .bool false)] ?_
   refine Ok.nil (Ok.thenN ?_)
   exact fun a W hA hW => ⟨g, (Gext.refl w0 g), bs7, false, ([] : Bs), hA.sub (by kernel_rfl), hW, hF⟩
 ·
  clear hF
  rintro a W ⟨gj3, hxj3, bs7, x8j3, ybs7_0j3, hA, hW, hF⟩
  refine (?_ : Ok _ _ _ _ _ _) a W hA hW
  clear hA hW
  replace hLxd_0 := hLxd_0.mono hxj3.1
  replace hMxd_1 := hMxd_1.mono hxj3.1
  refine Ok.seq (Ok.region (Ok.bat 1 [0, 1, 2, 6, 8] [(20, pv bs7 0)] ?_))
  refine Ok.op rfl (OpOk.step (v := sv ybs7_0j3) (Yields.load 0 rfl rfl Tryz.underlying9 rfl (by kernel_rfl)) rfl rfl (Ok.bat 1 [0, 1, 2, 6, 8] [(9, sv ybs7_0j3)] ?_))
  refine Ok.nil (Ok.thenN (Ok.seq (Ok.region (Ok.bat 6 [0, 1, 2, 6, 8, 9] [(10, .int .i64 (w6 ((xvalue.length : Int) - (ybs7_0j3.length : Int))))] ?_))))
  refine Ok.nil (Ok.thenN (Ok.cut (fun a W => ∃ gj9 : Ghost, Gext w0 gj3 gj9 ∧ StA 71 [(0, pv bxd 0), (1, sv xkey), (2, sv xvalue), (6, pv bs6 0), (8, .bool x8j3), (9, sv ybs7_0j3), (10, .int .i64 (dputV0 xkey xvalue x8j3 ybs7_0j3))] a ∧ StW w0 [.blk bs6 (.cells #[.int .i64 0, sv ([] : Bs), .bool false, .slice none 0 0] 30), .blk bxd (.cells #[.slice axd_0 xd.1.length cxd_0, .map (some bmxd_1), .int .i64 xd.2.2] 42), .own (.slice axd_0 xd.1.length cxd_0) 9 1 xd.1.length xsxd_0, .blk bmxd_1 (.map esxd_1 ckxd_1)] gj9 W ∧ dputj9 xd xkey xvalue K x8j3 ybs7_0j3) ?_ ?_))
  ·
   refine Ok.seq (Ok.region (Ok.bat 2 [0, 1, 2, 6, 8, 9, 10] [(28, .bool (!x8j3))] ?_))
   refine Ok.nil (Ok.thenN (Ok.cond (b := !x8j3) rfl (fun hc7 => ?_) (fun hc7 => ?_)))
   ·replace hF := hF.1 hc7
    refine Ok.region (Ok.bat 5 [0, 1, 2, 6, 8, 9] [(10, .int .i64 (w6 ((w6 ((xvalue.length : Int) - (ybs7_0j3.length : Int))) + (xkey.length : Int))))] ?_)
    refine Ok.nil (Ok.thenN (Ok.reval 10 rfl (show (.int .i64 (w6 ((w6 ((xvalue.length : Int) - (ybs7_0j3.length : Int))) + (xkey.length : Int))) : Value) = .int .i64 (dputV0 xkey xvalue x8j3 ybs7_0j3) from congrArg (Value.int .i64) ((if_t hc7).symm)) ?_))
    exact fun a W hA hW => ⟨gj3, (Gext.refl w0 gj3), hA.sub (by kernel_rfl), hW.sub (.cons _ (.cons_cons _ (.cons_cons _ (.cons_cons _ (.cons_cons _ .slnil))))), hF⟩
   ·replace hF := hF.2 hc7
    refine Ok.skip (Ok.thenN (Ok.reval 10 rfl (show (.int .i64 (w6 ((xvalue.length : Int) - (ybs7_0j3.length : Int))) : Value) = .int .i64 (dputV0 xkey xvalue x8j3 ybs7_0j3) from congrArg (Value.int .i64) ((if_f hc7).symm)) ?_))
    exact fun a W hA hW => ⟨gj3, (Gext.refl w0 gj3), hA.sub (by kernel_rfl), hW.sub (.cons _ (.cons_cons _ (.cons_cons _ (.cons_cons _ (.cons_cons _ .slnil))))), hF⟩
  ·
   clear hF
   rintro a W ⟨gj9, hxj9, hA, hW, hF⟩
   refine (?_ : Ok _ _ _ _ _ _) a W hA hW
   clear hA hW
   replace hLxd_0 := hLxd_0.mono hxj9.1
   replace hMxd_1 := hMxd_1.mono hxj9.1
   refine Ok.seq (Ok.seq (Ok.region (Ok.bat 3 [0, 1, 2, 6, 8, 9, 10] [(35, pv bxd 2)] ?_)))
   refine Ok.op rfl (OpOk.step (v := .int .i64 xd.2.2) (Yields.load 1 rfl rfl Tryz.underlying3 rfl (by kernel_rfl)) rfl rfl (Ok.bat 3 [0, 1, 2, 6, 8, 9, 10] [(39, .bool (decide ((w6 (xd.2.2 + (dputV0 xkey xvalue x8j3 ybs7_0j3))) > 400)))] ?_))
   refine Ok.nil (Ok.thenN (Ok.cond (b := decide ((w6 (xd.2.2 + (dputV0 xkey xvalue x8j3 ybs7_0j3))) > 400)) rfl (fun hc2 => ?_) (fun hc2 => ?_)))
   ·replace hF := hF.1 hc2
    refine Ok.seq (Ok.region (Ok.bat 1 [6] [(40, .agg #[.int .i64 2, sv ([] : Bs), .bool false, .slice none 0 0])] ?_))
    refine Ok.op rfl (OpOk.sto (k := 4) (v := .agg #[.int .i64 2, sv ([] : Bs), .bool false, .slice none 0 0]) 0 #[.int .i64 2, sv ([] : Bs), .bool false, .slice none 0 0] rfl rfl rfl ?_)
    refine Ok.nil (Ok.thenN (Ok.ret (Ok.thenR ?_)))
    exact Ok.resP (vs := [.agg #[.int .i64 2, sv ([] : Bs), .bool false, .slice none 0 0]]) [1, 2, 3] [.blk bxd (.cells #[.slice axd_0 xd.1.length cxd_0, .map (some bmxd_1), .int .i64 xd.2.2] 42), .own (.slice axd_0 xd.1.length cxd_0) 9 1 xd.1.length xsxd_0, .blk bmxd_1 (.map esxd_1 ckxd_1)] (by decide) rfl (.inl rfl) rfl (.cons (.cellAgg 0 4 #[.int .i64 2, sv ([] : Bs), .bool false, .slice none 0 0] rfl rfl Tryz.underlying30 rfl (by kernel_rfl) (by kernel_rfl) (by kernel_rfl)) .nil) (hxj3.trans hxj9) ⟨(2, ([] : Bs), false, []), xd, none, 0, axd_0, cxd_0, xsxd_0, esxd_1, ckxd_1, rfl, Rep.nil, hLxd_0, hMxd_1, rfl, hF⟩
   ·replace hF := hF.2 hc2
    refine Ok.skip (Ok.thenN (Ok.cut (fun a W => ∃ gj23 : Ghost, Gext w0 gj9 gj23 ∧ ∃ (ayown_xd_0_0j23 : Option Addr) (cyown_xd_0_0j23 : Nat) (xsyown_xd_0_0j23 : List Value), RepL gj23 (.str) xsyown_xd_0_0j23 (dputV1 xd xkey x8j3) ∧ StA 71 [(0, pv bxd 0), (1, sv xkey), (2, sv xvalue), (6, pv bs6 0), (8, .bool x8j3), (9, sv ybs7_0j3), (10, .int .i64 (dputV0 xkey xvalue x8j3 ybs7_0j3))] a ∧ StW w0 [.blk bs6 (.cells #[.int .i64 0, sv ([] : Bs), .bool false, .slice none 0 0] 30), .blk bxd (.cells #[.slice ayown_xd_0_0j23 (dputV1 xd xkey x8j3).length cyown_xd_0_0j23, .map (some bmxd_1), .int .i64 xd.2.2] 42), .own (.slice ayown_xd_0_0j23 (dputV1 xd xkey x8j3).length cyown_xd_0_0j23) 9 1 (dputV1 xd xkey x8j3).length xsyown_xd_0_0j23, .blk bmxd_1 (.map esxd_1 ckxd_1)] gj23 W ∧ dputj23 xd xkey xvalue K x8j3 ybs7_0j3) ?_ ?_))
    ·
     refine Ok.seq (Ok.region (Ok.bat 2 [0, 1, 2, 6, 8, 9, 10] [(42, .bool (!x8j3))] ?_))
     refine Ok.nil (Ok.thenN (Ok.cond (b := !x8j3) rfl (fun hc4 => ?_) (fun hc4 => ?_)))
     ·replace hF := hF.1 hc4
      refine Ok.region (Ok.bat 4 [0, 1, 2, 6, 8, 9, 10] [(43, pv bxd 0), (46, pv bxd 0)] ?_)
      refine Ok.op rfl (OpOk.step (v := .slice axd_0 xd.1.length cxd_0) (Yields.load 1 rfl rfl Tryz.underlying28 rfl (by kernel_rfl)) rfl rfl (Ok.bat 1 [0, 1, 2, 6, 8, 9, 10, 43] [(47, .slice axd_0 xd.1.length cxd_0), (48, sv xkey)] ?_))
      have hL5 : RepL gj9 (.str) ([sv xkey] : List Value) ([xkey] : List Bs) := (RepL.consN (c := [sv xkey]) rfl rfl)
      refine Ok.op rfl (OpOk.lit (E := 9) (.str) ([xkey] : List Bs) ([sv xkey] : List Value) (by kernel_rfl) (by kernel_rfl) rfl (by kernel_rfl) hL5 rfl fun b5 => ?_)
      obtain ⟨hb6, hF⟩ := hF
      refine Ok.op rfl (OpOk.append' (e := .str) 16 8796093022208 3 0 rfl rfl rfl rfl hLxd_0 hL5 Tryz.underlying28 (by kernel_rfl) (by kernel_rfl) (by kernel_rfl) hb6 rfl fun a6 c6 xs6 hL6 => ?_)
      refine Ok.bat 2 [0, 1, 2, 6, 8, 9, 10] [(50, .slice a6 (xd.1 ++ ([xkey] : List Bs)).length c6), (52, pv bxd 0)] ?_
      refine Ok.op rfl (OpOk.sto (k := 1) (v := .slice a6 (xd.1 ++ ([xkey] : List Bs)).length c6) 2 #[.slice a6 (xd.1 ++ ([xkey] : List Bs)).length c6, .map (some bmxd_1), .int .i64 xd.2.2] rfl rfl rfl ?_)
      refine Ok.nil (Ok.thenN (Ok.heapEq (H' := [.own (.slice (some ⟨b5, 0, none⟩) ([xkey] : List Bs).length 1) 9 1 ([xkey] : List Bs).length ([sv xkey] : List Value), .blk bs6 (.cells #[.int .i64 0, sv ([] : Bs), .bool false, .slice none 0 0] 30), .blk bxd (.cells #[.slice a6 (dputV1 xd xkey x8j3).length c6, .map (some bmxd_1), .int .i64 xd.2.2] 42), .own (.slice a6 (dputV1 xd xkey x8j3).length c6) 9 1 (dputV1 xd xkey x8j3).length xs6, .blk bmxd_1 (.map esxd_1 ckxd_1)]) (econs (rfl) (econs (rfl) (econs (congrArg (fun l : List Value => Ent.blk bxd (.cells ⟨l⟩ 42)) (lcons (congrArg (fun l : List Bs => Value.slice a6 l.length c6) ((if_t hc4).symm)) (lcons (rfl) (lcons (rfl) rfl)))) (econs (congrArg (fun l : List Bs => Ent.own (.slice a6 l.length c6) 9 1 l.length xs6) ((if_t hc4).symm)) (econs (rfl) rfl))))) ?_))
      exact fun a W hA hW => ⟨gj9, (Gext.refl w0 gj9), a6, c6, xs6, (Eq.mp (congrArg (fun l : List Bs => RepL gj9 (.str) xs6 l) ((if_t hc4).symm)) hL6), hA.sub (by kernel_rfl), hW.sub (.cons _ (.cons_cons _ (.cons_cons _ (.cons_cons _ (.cons_cons _ .slnil))))), hF⟩
     ·replace hF := hF.2 hc4
      refine Ok.skip (Ok.thenN (Ok.heapEq (H' := [.blk bs6 (.cells #[.int .i64 0, sv ([] : Bs), .bool false, .slice none 0 0] 30), .blk bxd (.cells #[.slice axd_0 (dputV1 xd xkey x8j3).length cxd_0, .map (some bmxd_1), .int .i64 xd.2.2] 42), .own (.slice axd_0 (dputV1 xd xkey x8j3).length cxd_0) 9 1 (dputV1 xd xkey x8j3).length xsxd_0, .blk bmxd_1 (.map esxd_1 ckxd_1)]) (econs (rfl) (econs (congrArg (fun l : List Value => Ent.blk bxd (.cells ⟨l⟩ 42)) (lcons (congrArg (fun l : List Bs => Value.slice axd_0 l.length cxd_0) ((if_f hc4).symm)) (lcons (rfl) (lcons (rfl) rfl)))) (econs (congrArg (fun l : List Bs => Ent.own (.slice axd_0 l.length cxd_0) 9 1 l.length xsxd_0) ((if_f hc4).symm)) (econs (rfl) rfl)))) ?_))
      exact fun a W hA hW => ⟨gj9, (Gext.refl w0 gj9), axd_0, cxd_0, xsxd_0, (Eq.mp (congrArg (fun l : List Bs => RepL gj9 (.str) xsxd_0 l) ((if_f hc4).symm)) hLxd_0), hA.sub (by kernel_rfl), hW, hF⟩
    ·
     clear hF
     rintro a W ⟨gj23, hxj23, ayown_xd_0_0j23, cyown_xd_0_0j23, xsyown_xd_0_0j23, hLyown_xd_0_0j23, hA, hW, hF⟩
     refine (?_ : Ok _ _ _ _ _ _) a W hA hW
     clear hA hW
     replace hMxd_1 := hMxd_1.mono hxj23.1
     refine Ok.seq (Ok.region (Ok.bat 3 [0, 1, 2, 6, 8, 9, 10] [(55, pv bxd 1)] ?_))
     refine Ok.op rfl (OpOk.step (v := .map (some bmxd_1)) (Yields.load 1 rfl rfl Tryz.underlying40 rfl (by kernel_rfl)) rfl rfl (Ok.bat 3 [0, 6, 8, 9, 10] [(56, .map (some bmxd_1)), (57, sv xkey), (59, .agg #[sv xvalue])] ?_))
     refine Ok.op rfl (OpOk.mapUpdateA (vt := .str) (row := true) (cells := [sv xvalue]) (y := xvalue) keyStr 3 rfl hMxd_1 rfl rfl rfl Tryz.underlying40 Tryz.underlying9 rfl rfl fun es3 ck3 hM3 => ?_)
     refine Ok.nil (Ok.thenN (Ok.seq (Ok.region (Ok.bat 3 [6, 8, 9, 10] [(60, pv bxd 0), (62, pv bxd 2)] ?_))))
     refine Ok.op rfl (OpOk.step (v := .int .i64 xd.2.2) (Yields.load 1 rfl rfl Tryz.underlying3 rfl (by kernel_rfl)) rfl rfl (Ok.bat 4 [6, 8, 9] [(65, .int .i64 (w6 (xd.2.2 + (dputV0 xkey xvalue x8j3 ybs7_0j3)))), (67, pv bxd 2)] ?_))
     refine Ok.op rfl (OpOk.sto (k := 1) (v := .int .i64 (w6 (xd.2.2 + (dputV0 xkey xvalue x8j3 ybs7_0j3)))) 1 #[.slice ayown_xd_0_0j23 (dputV1 xd xkey x8j3).length cyown_xd_0_0j23, .map (some bmxd_1), .int .i64 (w6 (xd.2.2 + (dputV0 xkey xvalue x8j3 ybs7_0j3)))] rfl rfl rfl ?_)
     refine Ok.nil (Ok.thenN (Ok.seq (Ok.region (Ok.bat 3 [6] [(70, .agg #[.int .i64 0, sv ybs7_0j3, .bool x8j3, .slice none 0 0])] ?_))))
     refine Ok.op rfl (OpOk.sto (k := 4) (v := .agg #[.int .i64 0, sv ybs7_0j3, .bool x8j3, .slice none 0 0]) 0 #[.int .i64 0, sv ybs7_0j3, .bool x8j3, .slice none 0 0] rfl rfl rfl ?_)
     refine Ok.nil (Ok.thenN (Ok.ret ?_))
     exact Ok.resP (vs := [.agg #[.int .i64 0, sv ybs7_0j3, .bool x8j3, .slice none 0 0]]) [1, 2, 3] [.blk bxd (.cells #[.slice ayown_xd_0_0j23 (dputV1 xd xkey x8j3).length cyown_xd_0_0j23, .map (some bmxd_1), .int .i64 (w6 (xd.2.2 + (dputV0 xkey xvalue x8j3 ybs7_0j3)))] 42), .own (.slice ayown_xd_0_0j23 (dputV1 xd xkey x8j3).length cyown_xd_0_0j23) 9 1 (dputV1 xd xkey x8j3).length xsyown_xd_0_0j23, .blk bmxd_1 (.map es3 ck3)] (by decide) rfl (.inl rfl) rfl (.cons (.cellAgg 0 4 #[.int .i64 0, sv ybs7_0j3, .bool x8j3, .slice none 0 0] rfl rfl Tryz.underlying30 rfl (by kernel_rfl) (by kernel_rfl) (by kernel_rfl)) .nil) ((hxj3.trans hxj9).trans hxj23) ⟨(0, ybs7_0j3, x8j3, []), ((dputV1 xd xkey x8j3), (putK xkey xvalue xd.2.1), w6 (xd.2.2 + (dputV0 xkey xvalue x8j3 ybs7_0j3))), none, 0, ayown_xd_0_0j23, cyown_xd_0_0j23, xsyown_xd_0_0j23, es3, ck3, rfl, Rep.nil, hLyown_xd_0_0j23, hM3, rfl, hF⟩
def dempF (xd : List Bs × (List (Bs × Bs)) × Int) (K : (Int × Bs × Bool × List Bs) → (List Bs × (List (Bs × Bs)) × Int) → Prop) : Prop :=
 K (0, ([] : Bs), decide ((xd.1.length : Int) > 0), []) (([] : List Bs), ([] : List (Bs × Bs)), 0)
theorem demp_ok {g : Ghost} {bxd : Nat} {axd_0 : Option Addr} {cxd_0 : Nat} {xsxd_0 : List Value} {bmxd_1 : Nat} {esxd_1 : Array MapEntry} {ckxd_1 : Nat} (xd : List Bs × (List (Bs × Bs)) × Int) (hLxd_0 : RepL g (.str) xsxd_0 xd.1) (hMxd_1 : RepMapA g (.str) true (fun k : Bs => Value.string ⟨⟨k⟩⟩) esxd_1 ckxd_1 xd.2.1) (K : (Int × Bs × Bool × List Bs) → (List Bs × (List (Bs × Bs)) × Int) → Prop)
  (hF : dempF xd K) : CallsH Tryz.prog 24 #[pv bxd 0] g [.blk bxd (.cells #[.slice axd_0 xd.1.length cxd_0, .map (some bmxd_1), .int .i64 xd.2.2] 42), .own (.slice axd_0 xd.1.length cxd_0) 9 1 xd.1.length xsxd_0, .blk bmxd_1 (.map esxd_1 ckxd_1)] (fun g' H' v => ∃ (r0 : Int × Bs × Bool × List Bs), ∃ (fxd : List Bs × (List (Bs × Bs)) × Int), ∃ (ar0_0 : Option Addr) (cr0_0 : Nat), ∃ (afxd_0 : Option Addr) (cfxd_0 : Nat) (xsfxd_0 : List Value), ∃ (esfxd_1 : Array MapEntry) (ckfxd_1 : Nat), v = .agg #[.int .i64 r0.1, sv r0.2.1, .bool r0.2.2.1, .slice ar0_0 r0.2.2.2.length cr0_0] ∧ Rep g' (.slice (.str)) [.slice ar0_0 r0.2.2.2.length cr0_0] r0.2.2.2 ∧ RepL g' (.str) xsfxd_0 fxd.1 ∧ RepMapA g' (.str) true (fun k : Bs => Value.string ⟨⟨k⟩⟩) esfxd_1 ckfxd_1 fxd.2.1 ∧ H' = [.blk bxd (.cells #[.slice afxd_0 fxd.1.length cfxd_0, .map (some bmxd_1), .int .i64 fxd.2.2] 42), .own (.slice afxd_0 fxd.1.length cfxd_0) 9 1 fxd.1.length xsfxd_0, .blk bmxd_1 (.map esfxd_1 ckfxd_1)] ∧ K r0 fxd) := by
 refine CallsH.enter 22 [(0, pv bxd 0)] Tryz.func24 rfl (by kernel_rfl) (by kernel_rfl) (by kernel_rfl) fun w0 => ?_
 refine Ok.seq (Ok.region (Ok.op rfl (OpOk.alloc (z := .agg #[.int .i64 0, sv ([] : Bs), .bool false, .slice none 0 0]) (cs := #[.int .i64 0, sv ([] : Bs), .bool false, .slice none 0 0]) (by kernel_rfl) (by kernel_rfl) rfl fun bs2 => ?_)))
 refine Ok.nil (Ok.thenN (Ok.seq (Ok.region (Ok.batch 3 [(0, pv bxd 0), (2, pv bs2 0), (6, pv bxd 0)] (by kernel_rfl) (Ok.op rfl (OpOk.step (v := .slice axd_0 xd.1.length cxd_0) (Yields.load 1 rfl rfl Tryz.underlying28 rfl (by kernel_rfl)) rfl rfl (Ok.bat 3 [0, 2] [(3, .bool (decide ((xd.1.length : Int) > 0)))] ?_)))))))
 refine Ok.nil (Ok.thenN (Ok.seq (Ok.region (Ok.bat 3 [0, 2, 3] [(12, pv bxd 1)] ?_))))
 refine Ok.op rfl (OpOk.step (v := .map (some bmxd_1)) (Yields.load 1 rfl rfl Tryz.underlying40 rfl (by kernel_rfl)) rfl rfl (Ok.op rfl (OpOk.clearA (vt := .str) (row := true) (kt := (fun k : Bs => Value.string ⟨⟨k⟩⟩)) 3 rfl hMxd_1 rfl Tryz.underlying40 fun es2 ck2 hM2 => ?_)))
 refine Ok.nil (Ok.thenN (Ok.seq (Ok.region (Ok.bat 4 [2, 3] [(15, pv bxd 0), (17, pv bxd 0)] ?_))))
 have hL3 : RepL g (.str) [] [] := rfl
 refine Ok.ownNil 9 1 (Ok.op rfl (OpOk.sto (k := 1) (v := .slice none ([] : List Bs).length 0) 2 #[.slice none ([] : List Bs).length 0, .map (some bmxd_1), .int .i64 xd.2.2] rfl rfl rfl ?_))
 refine Ok.bat 2 [2, 3] [(19, pv bxd 2)] ?_
 refine Ok.op rfl (OpOk.sto (k := 1) (v := .int .i64 0) 2 #[.slice none ([] : List Bs).length 0, .map (some bmxd_1), .int .i64 0] rfl rfl rfl ?_)
 refine Ok.nil (Ok.thenN (Ok.seq (Ok.region (Ok.bat 2 [2] [(21, .agg #[.int .i64 0, sv ([] : Bs), .bool (decide ((xd.1.length : Int) > 0)), .slice none 0 0])] ?_))))
 refine Ok.op rfl (OpOk.sto (k := 4) (v := .agg #[.int .i64 0, sv ([] : Bs), .bool (decide ((xd.1.length : Int) > 0)), .slice none 0 0]) 1 #[.int .i64 0, sv ([] : Bs), .bool (decide ((xd.1.length : Int) > 0)), .slice none 0 0] rfl rfl rfl ?_)
 refine Ok.nil (Ok.thenN (Ok.ret ?_))
 exact Ok.resP (vs := [.agg #[.int .i64 0, sv ([] : Bs), .bool (decide ((xd.1.length : Int) > 0)), .slice none 0 0]]) [2, 0, 4] [.blk bxd (.cells #[.slice none ([] : List Bs).length 0, .map (some bmxd_1), .int .i64 0] 42), .own (.slice none ([] : List Bs).length 0) 9 1 ([] : List Bs).length ([]), .blk bmxd_1 (.map es2 ck2)] (by decide) rfl (.inl rfl) rfl (.cons (.cellAgg 1 4 #[.int .i64 0, sv ([] : Bs), .bool (decide ((xd.1.length : Int) > 0)), .slice none 0 0] rfl rfl Tryz.underlying30 rfl (by kernel_rfl) (by kernel_rfl) (by kernel_rfl)) .nil) (Gext.refl w0 g) ⟨(0, ([] : Bs), decide ((xd.1.length : Int) > 0), []), (([] : List Bs), ([] : List (Bs × Bs)), 0), none, 0, none, 0, [], es2, ck2, rfl, Rep.nil, hL3, hM2, rfl, hF⟩
def ddrpV4 (xd : List Bs × (List (Bs × Bs)) × Int) (xkey : Bs) (x6j3 : Bool) (ybs5_0j3 : Bs) : Int :=
 (if x6j3 = true then w6 (xd.2.2 - (w6 ((xkey.length : Int) + (ybs5_0j3.length : Int)))) else xd.2.2)
def ddrpV13 (xkey : Bs) (x5l17i31 : Int) (x6l17i31 : Int) (yown_xd_0_0l17i31 : List Bs) : Int :=
 (if (!((yown_xd_0_0l17i31.getD (Int.toNat x6l17i31) default) == xkey)) = true then w6 (x5l17i31 + 1) else x5l17i31)
def ddrpV14 (xkey : Bs) (x5l17i31 : Int) (x6l17i31 : Int) (yown_xd_0_0l17i31 : List Bs) : List Bs :=
 (if (!((yown_xd_0_0l17i31.getD (Int.toNat x6l17i31) default) == xkey)) = true then (yown_xd_0_0l17i31.set (Int.toNat x5l17i31) (yown_xd_0_0l17i31.getD (Int.toNat x6l17i31) default)) else yown_xd_0_0l17i31)
def ddrpj7 (xd : List Bs × (List (Bs × Bs)) × Int) (xkey : Bs) (K : (Int × Bs × Bool × List Bs) → (List Bs × (List (Bs × Bs)) × Int) → Prop) (x6j3 : Bool) (ybs5_0j3 : Bs) (yown_xd_0_0j7 : List Bs) (ybmxd_1_0j7 : List (Bs × Bs)) : Prop :=
 K (0, ybs5_0j3, x6j3, []) (yown_xd_0_0j7, ybmxd_1_0j7, (ddrpV4 xd xkey x6j3 ybs5_0j3))
def ddrpji6 (xd : List Bs × (List (Bs × Bs)) × Int) (xkey : Bs) (K : (Int × Bs × Bool × List Bs) → (List Bs × (List (Bs × Bs)) × Int) → Prop) (x6j3 : Bool) (ybs5_0j3 : Bs) (yown_xd_0_0ji6 : List Bs) : Prop :=
 ddrpj7 xd xkey K x6j3 ybs5_0j3 yown_xd_0_0ji6 (delK xkey xd.2.1)
def ddrpj24i31 (xkey : Bs) (x5l17i31 : Int) (x6l17i31 : Int) (yown_xd_0_0l17i31 : List Bs) (C17x1 : Int → Int → (List Bs) → Prop) : Prop :=
 C17x1 (ddrpV13 xkey x5l17i31 x6l17i31 yown_xd_0_0l17i31) (w6 (x6l17i31 + 1)) (ddrpV14 xkey x5l17i31 x6l17i31 yown_xd_0_0l17i31)
def ddrpl17x1b (xd : List Bs × (List (Bs × Bs)) × Int) (xkey : Bs) (K : (Int × Bs × Bool × List Bs) → (List Bs × (List (Bs × Bs)) × Int) → Prop) (x6j3 : Bool) (ybs5_0j3 : Bs) (x5l17i31 : Int) (x6l17i31 : Int) (yown_xd_0_0l17i31 : List Bs) (C17x1 : Int → Int → (List Bs) → Prop) : Prop :=
 ((decide (x6l17i31 < (yown_xd_0_0l17i31.length : Int))) = true → (0 : Int) ≤ x6l17i31 ∧ Int.toNat x6l17i31 < yown_xd_0_0l17i31.length ∧ ((!((yown_xd_0_0l17i31.getD (Int.toNat x6l17i31) default) == xkey)) = true → (0 : Int) ≤ x5l17i31 ∧ Int.toNat x5l17i31 < yown_xd_0_0l17i31.length ∧ ddrpj24i31 xkey x5l17i31 x6l17i31 yown_xd_0_0l17i31 C17x1) ∧ ((!((yown_xd_0_0l17i31.getD (Int.toNat x6l17i31) default) == xkey)) = false → ddrpj24i31 xkey x5l17i31 x6l17i31 yown_xd_0_0l17i31 C17x1)) ∧ ((decide (x6l17i31 < (yown_xd_0_0l17i31.length : Int))) = false → (0 : Int) ≤ x5l17i31 ∧ (x5l17i31 : Int) ≤ (yown_xd_0_0l17i31.length : Int) ∧ (yown_xd_0_0l17i31.length : Int) ≤ (yown_xd_0_0l17i31.length : Int) ∧ (Int.toNat x5l17i31) ≤ Int.toNat (yown_xd_0_0l17i31.length : Int) ∧ (0 : Int) ≤ x5l17i31 ∧ x5l17i31 ≤ ((clr yown_xd_0_0l17i31 (Int.toNat x5l17i31) ([] : Bs)).length : Int) ∧ ddrpji6 xd xkey K x6j3 ybs5_0j3 ((clr yown_xd_0_0l17i31 (Int.toNat x5l17i31) ([] : Bs)).take (Int.toNat x5l17i31)))
def ddrpl17x1 (xd : List Bs × (List (Bs × Bs)) × Int) (xkey : Bs) (K : (Int × Bs × Bool × List Bs) → (List Bs × (List (Bs × Bs)) × Int) → Prop) (x6j3 : Bool) (ybs5_0j3 : Bs) : Nat → Int → Int → (List Bs) → Prop
 | 0, _, _, _ => False
 | k + 1, x5l17i31, x6l17i31, yown_xd_0_0l17i31 => ddrpl17x1b xd xkey K x6j3 ybs5_0j3 x5l17i31 x6l17i31 yown_xd_0_0l17i31 (ddrpl17x1 xd xkey K x6j3 ybs5_0j3 k)
def ddrpji8 (xd : List Bs × (List (Bs × Bs)) × Int) (xkey : Bs) (K : (Int × Bs × Bool × List Bs) → (List Bs × (List (Bs × Bs)) × Int) → Prop) (x6j3 : Bool) (ybs5_0j3 : Bs) (x10ji8 : Int) : Prop :=
 (((x10ji8 == (-1))) = true → ddrpji6 xd xkey K x6j3 ybs5_0j3 xd.1) ∧ (((x10ji8 == (-1))) = false → ∃ k, ddrpl17x1 xd xkey K x6j3 ybs5_0j3 k x10ji8 (w6 (x10ji8 + 1)) xd.1)
def ddrpl7x2b (xd : List Bs × (List (Bs × Bs)) × Int) (xkey : Bs) (K : (Int × Bs × Bool × List Bs) → (List Bs × (List (Bs × Bs)) × Int) → Prop) (x6j3 : Bool) (ybs5_0j3 : Bs) (x8l7i31i10 : Int) (C7x2 : Int → Prop) : Prop :=
 ((decide (x8l7i31i10 < (xd.1.length : Int))) = true → (0 : Int) ≤ x8l7i31i10 ∧ Int.toNat x8l7i31i10 < xd.1.length ∧ ((((xd.1.getD (Int.toNat x8l7i31i10) default) == xkey)) = true → ddrpji8 xd xkey K x6j3 ybs5_0j3 x8l7i31i10) ∧ ((((xd.1.getD (Int.toNat x8l7i31i10) default) == xkey)) = false → C7x2 (w6 (x8l7i31i10 + 1)))) ∧ ((decide (x8l7i31i10 < (xd.1.length : Int))) = false → ddrpji8 xd xkey K x6j3 ybs5_0j3 (-1))
def ddrpl7x2 (xd : List Bs × (List (Bs × Bs)) × Int) (xkey : Bs) (K : (Int × Bs × Bool × List Bs) → (List Bs × (List (Bs × Bs)) × Int) → Prop) (x6j3 : Bool) (ybs5_0j3 : Bs) : Nat → Int → Prop
 | 0, _ => False
 | k + 1, x8l7i31i10 => ddrpl7x2b xd xkey K x6j3 ybs5_0j3 x8l7i31i10 (ddrpl7x2 xd xkey K x6j3 ybs5_0j3 k)
def ddrpj3 (xd : List Bs × (List (Bs × Bs)) × Int) (xkey : Bs) (K : (Int × Bs × Bool × List Bs) → (List Bs × (List (Bs × Bs)) × Int) → Prop) (x6j3 : Bool) (ybs5_0j3 : Bs) : Prop :=
 ((x6j3) = true → ∃ k, ddrpl7x2 xd xkey K x6j3 ybs5_0j3 k 0) ∧ ((x6j3) = false → ddrpj7 xd xkey K x6j3 ybs5_0j3 xd.1 xd.2.1)
def ddrpF (xd : List Bs × (List (Bs × Bs)) × Int) (xkey : Bs) (K : (Int × Bs × Bool × List Bs) → (List Bs × (List (Bs × Bs)) × Int) → Prop) : Prop :=
 (∀ e20 : Bs, assocK xkey xd.2.1 = some e20 → ddrpj3 xd xkey K true e20) ∧ (assocK xkey xd.2.1 = none → ddrpj3 xd xkey K false ([] : Bs))
theorem ddrp_ok {g : Ghost} {bxd : Nat} {axd_0 : Option Addr} {cxd_0 : Nat} {xsxd_0 : List Value} {bmxd_1 : Nat} {esxd_1 : Array MapEntry} {ckxd_1 : Nat} (xd : List Bs × (List (Bs × Bs)) × Int) (xkey : Bs) (hLxd_0 : RepL g (.str) xsxd_0 xd.1) (hMxd_1 : RepMapA g (.str) true (fun k : Bs => Value.string ⟨⟨k⟩⟩) esxd_1 ckxd_1 xd.2.1) (K : (Int × Bs × Bool × List Bs) → (List Bs × (List (Bs × Bs)) × Int) → Prop)
  (hF : ddrpF xd xkey K) : CallsH Tryz.prog 23 #[pv bxd 0, sv xkey] g [.blk bxd (.cells #[.slice axd_0 xd.1.length cxd_0, .map (some bmxd_1), .int .i64 xd.2.2] 42), .own (.slice axd_0 xd.1.length cxd_0) 9 1 xd.1.length xsxd_0, .blk bmxd_1 (.map esxd_1 ckxd_1)] (fun g' H' v => ∃ (r0 : Int × Bs × Bool × List Bs), ∃ (fxd : List Bs × (List (Bs × Bs)) × Int), ∃ (ar0_0 : Option Addr) (cr0_0 : Nat), ∃ (afxd_0 : Option Addr) (cfxd_0 : Nat) (xsfxd_0 : List Value), ∃ (esfxd_1 : Array MapEntry) (ckfxd_1 : Nat), v = .agg #[.int .i64 r0.1, sv r0.2.1, .bool r0.2.2.1, .slice ar0_0 r0.2.2.2.length cr0_0] ∧ Rep g' (.slice (.str)) [.slice ar0_0 r0.2.2.2.length cr0_0] r0.2.2.2 ∧ RepL g' (.str) xsfxd_0 fxd.1 ∧ RepMapA g' (.str) true (fun k : Bs => Value.string ⟨⟨k⟩⟩) esfxd_1 ckfxd_1 fxd.2.1 ∧ H' = [.blk bxd (.cells #[.slice afxd_0 fxd.1.length cfxd_0, .map (some bmxd_1), .int .i64 fxd.2.2] 42), .own (.slice afxd_0 fxd.1.length cfxd_0) 9 1 fxd.1.length xsfxd_0, .blk bmxd_1 (.map esfxd_1 ckfxd_1)] ∧ K r0 fxd) := by
 refine CallsH.enter 49 [(0, pv bxd 0), (1, sv xkey)] Tryz.func23 rfl (by kernel_rfl) (by kernel_rfl) (by kernel_rfl) fun w0 => ?_
 refine Ok.seq (Ok.region (Ok.op rfl (OpOk.box (v := sv xkey) (cs := #[sv xkey]) rfl (by kernel_rfl) rfl fun bs3 => ?_)))
 refine Ok.op rfl (OpOk.alloc (z := .agg #[.int .i64 0, sv ([] : Bs), .bool false, .slice none 0 0]) (cs := #[.int .i64 0, sv ([] : Bs), .bool false, .slice none 0 0]) (by kernel_rfl) (by kernel_rfl) rfl fun bs4 => ?_)
 refine Ok.nil (Ok.thenN (Ok.cut (fun a W => ∃ gj3 : Ghost, Gext w0 g gj3 ∧ ∃ (bs5 : Nat) (x6j3 : Bool) (ybs5_0j3 : Bs), StA 49 [(0, pv bxd 0), (3, pv bs3 0), (4, pv bs4 0), (5, pv bs5 0), (6, .bool x6j3)] a ∧ StW w0 [.blk bs5 (.cells #[sv ybs5_0j3] 61), .blk bs4 (.cells #[.int .i64 0, sv ([] : Bs), .bool false, .slice none 0 0] 30), .blk bs3 (.cells #[sv xkey] 9), .blk bxd (.cells #[.slice axd_0 xd.1.length cxd_0, .map (some bmxd_1), .int .i64 xd.2.2] 42), .own (.slice axd_0 xd.1.length cxd_0) 9 1 xd.1.length xsxd_0, .blk bmxd_1 (.map esxd_1 ckxd_1)] gj3 W ∧ ddrpj3 xd xkey K x6j3 ybs5_0j3) ?_ ?_))
 ·
  refine Ok.mix [] [] [.blk bs4 (.cells #[.int .i64 0, sv ([] : Bs), .bool false, .slice none 0 0] 30), .blk bs3 (.cells #[sv xkey] 9), .blk bxd (.cells #[.slice axd_0 xd.1.length cxd_0, .map (some bmxd_1), .int .i64 xd.2.2] 42), .own (.slice axd_0 xd.1.length cxd_0) 9 1 xd.1.length xsxd_0, .blk bmxd_1 (.map esxd_1 ckxd_1)] [(0, true), (1, true), (2, true), (3, true), (4, true), (5, true), (6, true), (7, true), (8, true), (9, false), (10, false), (11, true)] (by kernel_rfl) (by kernel_rfl) (.cons_cons _ (.cons_cons _ (.cons_cons _ (.cons_cons _ (.cons_cons _ .slnil))))) (OkM.batch 3 [(0, pv bxd 0), (3, pv bs3 0), (4, pv bs4 0), (11, pv bxd 1)] (by kernel_rfl) (OkM.head rfl rfl (show _ = [.blk bs4 (.cells #[.int .i64 0, sv ([] : Bs), .bool false, .slice none 0 0] 30), .blk bs3 (.cells #[sv xkey] 9), .blk bxd (.cells #[.slice axd_0 xd.1.length cxd_0, .map (some bmxd_1), .int .i64 xd.2.2] 42), .own (.slice axd_0 xd.1.length cxd_0) 9 1 xd.1.length xsxd_0, .blk bmxd_1 (.map esxd_1 ckxd_1)] from rfl) (OpQ.step (v := .map (some bmxd_1)) (Yields.load 2 rfl rfl Tryz.underlying40 rfl (by kernel_rfl)) rfl rfl (OkM.head rfl rfl (show _ = [.blk bs4 (.cells #[.int .i64 0, sv ([] : Bs), .bool false, .slice none 0 0] 30), .blk bs3 (.cells #[sv xkey] 9), .blk bxd (.cells #[.slice axd_0 xd.1.length cxd_0, .map (some bmxd_1), .int .i64 xd.2.2] 42), .own (.slice axd_0 xd.1.length cxd_0) 9 1 xd.1.length xsxd_0, .blk bmxd_1 (.map esxd_1 ckxd_1)] from rfl) (OpQ.step (v := sv xkey) (Yields.load 1 rfl rfl Tryz.underlying9 rfl (by kernel_rfl)) rfl rfl ?_)))))
  cases hce20 : assocK xkey xd.2.1 with
  | some e20 =>
   replace hF := hF.1 e20 hce20
   refine OkM.head rfl rfl (show _ = [.blk bs4 (.cells #[.int .i64 0, sv ([] : Bs), .bool false, .slice none 0 0] 30), .blk bs3 (.cells #[sv xkey] 9), .blk bxd (.cells #[.slice axd_0 xd.1.length cxd_0, .map (some bmxd_1), .int .i64 xd.2.2] 42), .own (.slice axd_0 xd.1.length cxd_0) 9 1 xd.1.length xsxd_0, .blk bmxd_1 (.map esxd_1 ckxd_1)] from rfl) (OpQ.lookupSome (vt := .str) (row := true) keyStr 4 rfl hMxd_1.1 rfl rfl Tryz.underlying40 Tryz.underlying9 hce20 rfl fun v20 cs20 hvi20 hr20 u20 hu20 => ?_)
   obtain rfl := hr20
   have hvi20 : v20 = .agg #[sv e20] := hvi20
   subst hvi20
   have hu20 : u20 = .tuple #[.agg #[sv e20], .bool true] := hu20
   subst hu20
   refine OkM.bat 3 [0, 3, 4] [(15, .agg #[sv e20]), (16, .bool true)] ?_
   refine OkM.tail rfl rfl (OpOk.alloc (z := .agg #[sv ([] : Bs)]) (cs := #[sv ([] : Bs)]) (by kernel_rfl) (by kernel_rfl) rfl fun bs5 => ?_)
   refine OkM.leaf (i := 9) (show _ = [.blk bs4 (.cells #[.int .i64 0, sv ([] : Bs), .bool false, .slice none 0 0] 30), .blk bs3 (.cells #[sv xkey] 9), .blk bxd (.cells #[.slice axd_0 xd.1.length cxd_0, .map (some bmxd_1), .int .i64 xd.2.2] 42), .own (.slice axd_0 xd.1.length cxd_0) 9 1 xd.1.length xsxd_0, .blk bmxd_1 (.map esxd_1 ckxd_1)] from rfl) (Gle.refl _) (.cons _ (.cons_cons _ (.cons_cons _ (.cons_cons _ (.cons_cons _ (.cons_cons _ .slnil)))))) (OkM.tail rfl rfl (OpOk.sto (k := 1) (v := .agg #[sv e20]) 0 #[sv e20] rfl rfl rfl ?_))
   refine OkM.leaf (i := 10) (show _ = [.blk bs4 (.cells #[.int .i64 0, sv ([] : Bs), .bool false, .slice none 0 0] 30), .blk bs3 (.cells #[sv xkey] 9), .blk bxd (.cells #[.slice axd_0 xd.1.length cxd_0, .map (some bmxd_1), .int .i64 xd.2.2] 42), .own (.slice axd_0 xd.1.length cxd_0) 9 1 xd.1.length xsxd_0, .blk bmxd_1 (.map esxd_1 ckxd_1)] from rfl) (Gle.refl _) (.cons _ (.cons_cons _ (.cons_cons _ (.cons_cons _ (.cons_cons _ (.cons_cons _ .slnil)))))) (OkM.bat 1 [0, 3, 4] [(5, pv bs5 0), (6, .bool true)] ?_)
   refine OkM.nil (Ok.thenN ?_)
   exact fun a W hA hW => ⟨g, (Gext.refl w0 g), bs5, true, e20, hA.sub (by kernel_rfl), hW, hF⟩
  | none =>
   replace hF := hF.2 hce20
   refine OkM.head rfl rfl (show _ = [.blk bs4 (.cells #[.int .i64 0, sv ([] : Bs), .bool false, .slice none 0 0] 30), .blk bs3 (.cells #[sv xkey] 9), .blk bxd (.cells #[.slice axd_0 xd.1.length cxd_0, .map (some bmxd_1), .int .i64 xd.2.2] 42), .own (.slice axd_0 xd.1.length cxd_0) 9 1 xd.1.length xsxd_0, .blk bmxd_1 (.map esxd_1 ckxd_1)] from rfl) (OpQ.lookupNone (vt := .str) (row := true) (z := .agg #[sv ([] : Bs)]) (u := .tuple #[.agg #[sv ([] : Bs)], .bool false]) keyStr 4 rfl hMxd_1.1 rfl rfl Tryz.underlying40 Tryz.underlying9 (by kernel_rfl) hce20 rfl rfl (OkM.bat 3 [0, 3, 4] [(15, .agg #[sv ([] : Bs)]), (16, .bool false)] ?_))
   refine OkM.tail rfl rfl (OpOk.alloc (z := .agg #[sv ([] : Bs)]) (cs := #[sv ([] : Bs)]) (by kernel_rfl) (by kernel_rfl) rfl fun bs5 => ?_)
   refine OkM.leaf (i := 9) (show _ = [.blk bs4 (.cells #[.int .i64 0, sv ([] : Bs), .bool false, .slice none 0 0] 30), .blk bs3 (.cells #[sv xkey] 9), .blk bxd (.cells #[.slice axd_0 xd.1.length cxd_0, .map (some bmxd_1), .int .i64 xd.2.2] 42), .own (.slice axd_0 xd.1.length cxd_0) 9 1 xd.1.length xsxd_0, .blk bmxd_1 (.map esxd_1 ckxd_1)] from rfl) (Gle.refl _) (.cons _ (.cons_cons _ (.cons_cons _ (.cons_cons _ (.cons_cons _ (.cons_cons _ .slnil)))))) (OkM.tail rfl rfl (OpOk.sto (k := 1) (v := .agg #[sv ([] : Bs)]) 0 #[sv ([] : Bs)] rfl rfl rfl ?_))
   refine OkM.leaf (i := 10) (show _ = [.blk bs4 (.cells #[.int .i64 0, sv ([] : Bs), .bool false, .slice none 0 0] 30), .blk bs3 (.cells #[sv xkey] 9), .blk bxd (.cells #[.slice axd_0 xd.1.length cxd_0, .map (some bmxd_1), .int .i64 xd.2.2] 42), .own (.slice axd_0 xd.1.length cxd_0) 9 1 xd.1.length xsxd_0, .blk bmxd_1 (.map esxd_1 ckxd_1)] from rfl) (Gle.refl _) (.cons _ (.cons_cons _ (.cons_cons _ (.cons_cons _ (.cons_cons _ (.cons_cons _ .slnil)))))) (OkM.bat 1 [0, 3, 4] [(5, pv bs5 0), (6, .bool false)] ?_)
   refine OkM.nil (Ok.thenN ?_)
   exact fun a W hA hW => ⟨g, (Gext.refl w0 g), bs5, false, ([] : Bs), hA.sub (by kernel_rfl), hW, hF⟩
 ·
  clear hF
  rintro a W ⟨gj3, hxj3, bs5, x6j3, ybs5_0j3, hA, hW, hF⟩
  refine (?_ : Ok _ _ _ _ _ _) a W hA hW
  clear hA hW
  replace hLxd_0 := hLxd_0.mono hxj3.1
  replace hMxd_1 := hMxd_1.mono hxj3.1
  refine Ok.seq (Ok.region (Ok.bat 1 [0, 3, 4, 6] [(17, pv bs5 0)] ?_))
  refine Ok.op rfl (OpOk.step (v := sv ybs5_0j3) (Yields.load 0 rfl rfl Tryz.underlying9 rfl (by kernel_rfl)) rfl rfl (Ok.bat 1 [0, 3, 4, 6] [(7, sv ybs5_0j3)] ?_))
  refine Ok.nil (Ok.thenN (Ok.cut (fun a W => ∃ gj7 : Ghost, Gext w0 gj3 gj7 ∧ ∃ (ayown_xd_0_0j7 : Option Addr) (cyown_xd_0_0j7 : Nat) (yown_xd_0_0j7 : List Bs) (xsyown_xd_0_0j7 : List Value) (esybmxd_1_0j7 : Array MapEntry) (ckybmxd_1_0j7 : Nat) (ybmxd_1_0j7 : List (Bs × Bs)), RepL gj7 (.str) xsyown_xd_0_0j7 yown_xd_0_0j7 ∧ RepMapA gj7 (.str) true (fun k : Bs => Value.string ⟨⟨k⟩⟩) esybmxd_1_0j7 ckybmxd_1_0j7 ybmxd_1_0j7 ∧ StA 49 [(4, pv bs4 0), (6, .bool x6j3), (7, sv ybs5_0j3)] a ∧ StW w0 [.blk bs4 (.cells #[.int .i64 0, sv ([] : Bs), .bool false, .slice none 0 0] 30), .blk bxd (.cells #[.slice ayown_xd_0_0j7 yown_xd_0_0j7.length cyown_xd_0_0j7, .map (some bmxd_1), .int .i64 (ddrpV4 xd xkey x6j3 ybs5_0j3)] 42), .own (.slice ayown_xd_0_0j7 yown_xd_0_0j7.length cyown_xd_0_0j7) 9 1 yown_xd_0_0j7.length xsyown_xd_0_0j7, .blk bmxd_1 (.map esybmxd_1_0j7 ckybmxd_1_0j7)] gj7 W ∧ ddrpj7 xd xkey K x6j3 ybs5_0j3 yown_xd_0_0j7 ybmxd_1_0j7) ?_ ?_))
  ·
   refine Ok.seq (Ok.region (Ok.bat 1 [0, 3, 4, 6, 7] [(19, .bool x6j3)] ?_))
   refine Ok.nil (Ok.thenN (Ok.cond (b := x6j3) rfl (fun hc3 => ?_) (fun hc3 => ?_)))
   ·replace hF := hF.1 hc3
    refine Ok.seq (Ok.mix [] [] [.blk bs5 (.cells #[sv ybs5_0j3] 61), .blk bs4 (.cells #[.int .i64 0, sv ([] : Bs), .bool false, .slice none 0 0] 30), .blk bs3 (.cells #[sv xkey] 9), .blk bxd (.cells #[.slice axd_0 xd.1.length cxd_0, .map (some bmxd_1), .int .i64 xd.2.2] 42), .own (.slice axd_0 xd.1.length cxd_0) 9 1 xd.1.length xsxd_0] [(0, true), (1, true), (2, true), (3, true), (4, true), (5, false)] (by kernel_rfl) (by kernel_rfl) (.cons_cons _ (.cons_cons _ (.cons_cons _ (.cons_cons _ (.cons_cons _ (.cons _ .slnil)))))) (OkM.bat 3 [0, 3, 4, 6, 7] [(22, pv bxd 1)] ?_))
    refine OkM.head rfl rfl (show _ = [.blk bs5 (.cells #[sv ybs5_0j3] 61), .blk bs4 (.cells #[.int .i64 0, sv ([] : Bs), .bool false, .slice none 0 0] 30), .blk bs3 (.cells #[sv xkey] 9), .blk bxd (.cells #[.slice axd_0 xd.1.length cxd_0, .map (some bmxd_1), .int .i64 xd.2.2] 42), .own (.slice axd_0 xd.1.length cxd_0) 9 1 xd.1.length xsxd_0] from rfl) (OpQ.step (v := .map (some bmxd_1)) (Yields.load 3 rfl rfl Tryz.underlying40 rfl (by kernel_rfl)) rfl rfl (OkM.head rfl rfl (show _ = [.blk bs5 (.cells #[sv ybs5_0j3] 61), .blk bs4 (.cells #[.int .i64 0, sv ([] : Bs), .bool false, .slice none 0 0] 30), .blk bs3 (.cells #[sv xkey] 9), .blk bxd (.cells #[.slice axd_0 xd.1.length cxd_0, .map (some bmxd_1), .int .i64 xd.2.2] 42), .own (.slice axd_0 xd.1.length cxd_0) 9 1 xd.1.length xsxd_0] from rfl) (OpQ.step (v := sv xkey) (Yields.load 2 rfl rfl Tryz.underlying9 rfl (by kernel_rfl)) rfl rfl (OkM.tail rfl rfl (OpOk.deleteA (vt := .str) (row := true) keyStr 5 rfl hMxd_1 rfl rfl Tryz.underlying40 Tryz.underlying9 fun es4 ck4 hM4 => ?_)))))
    refine OkM.leaf (i := 5) (show _ = [.blk bs5 (.cells #[sv ybs5_0j3] 61), .blk bs4 (.cells #[.int .i64 0, sv ([] : Bs), .bool false, .slice none 0 0] 30), .blk bs3 (.cells #[sv xkey] 9), .blk bxd (.cells #[.slice axd_0 xd.1.length cxd_0, .map (some bmxd_1), .int .i64 xd.2.2] 42), .own (.slice axd_0 xd.1.length cxd_0) 9 1 xd.1.length xsxd_0] from rfl) (Gle.refl _) (.cons_cons _ (.cons_cons _ (.cons_cons _ (.cons_cons _ (.cons_cons _ (.cons _ .slnil)))))) (OkM.nil (Ok.thenN (Ok.seq (Ok.region (Ok.bat 4 [0, 3, 4, 6, 7] [(25, pv bxd 0), (28, pv bxd 0)] ?_)))))
    refine Ok.op rfl (OpOk.step (v := .slice axd_0 xd.1.length cxd_0) (Yields.load 3 rfl rfl Tryz.underlying28 rfl (by kernel_rfl)) rfl rfl (Ok.bat 1 [0, 3, 4, 6, 7, 25] [(29, .slice axd_0 xd.1.length cxd_0), (30, .func (.func 45) #[] #[pv bs3 0])] ?_))
    refine Ok.op rfl (OpOk.cut (fun a W => ∃ gji6 : Ghost, Gext w0 gj3 gji6 ∧ ∃ (ayown_xd_0_0ji6 : Option Addr) (cyown_xd_0_0ji6 : Nat) (yown_xd_0_0ji6 : List Bs) (xsyown_xd_0_0ji6 : List Value), RepL gji6 (.str) xsyown_xd_0_0ji6 yown_xd_0_0ji6 ∧ StA 49 [(0, pv bxd 0), (3, pv bs3 0), (4, pv bs4 0), (6, .bool x6j3), (7, sv ybs5_0j3), (25, pv bxd 0), (31, .slice ayown_xd_0_0ji6 yown_xd_0_0ji6.length cyown_xd_0_0ji6)] a ∧ StW w0 [.blk bs4 (.cells #[.int .i64 0, sv ([] : Bs), .bool false, .slice none 0 0] 30), .blk bs3 (.cells #[sv xkey] 9), .blk bxd (.cells #[.slice axd_0 xd.1.length cxd_0, .map (some bmxd_1), .int .i64 xd.2.2] 42), .own (.slice ayown_xd_0_0ji6 yown_xd_0_0ji6.length cyown_xd_0_0ji6) 9 1 yown_xd_0_0ji6.length xsyown_xd_0_0ji6, .blk bmxd_1 (.map es4 ck4)] gji6 W ∧ ddrpji6 xd xkey K x6j3 ybs5_0j3 yown_xd_0_0ji6) ?_ ?_)
    ·
     refine OpOk.inline (args := #[.slice axd_0 xd.1.length cxd_0, .func (.func 45) #[] #[pv bs3 0]]) 42 [(0, .slice axd_0 xd.1.length cxd_0), (1, .func (.func 45) #[] #[pv bs3 0])] enr Tryz.func44 rfl rfl rfl rfl (Ok.seq (Ok.region (Ok.batch 1 [(0, .slice axd_0 xd.1.length cxd_0), (1, .func (.func 45) #[] #[pv bs3 0])] (by kernel_rfl) (Ok.nil (Ok.thenN (Ok.seq (Ok.region (Ok.bat 2 [0, 1] [(8, .slice axd_0 xd.1.length cxd_0), (9, .func (.func 45) #[] #[pv bs3 0])] ?_))))))))
     refine Ok.op rfl (OpOk.cut (fun a W => ∃ gji8 : Ghost, Gext w0 gj3 gji8 ∧ ∃ (x10ji8 : Int), StA 42 [(0, .slice axd_0 xd.1.length cxd_0), (1, .func (.func 45) #[] #[pv bs3 0]), (10, .int .i64 x10ji8)] a ∧ StW w0 [.blk bs4 (.cells #[.int .i64 0, sv ([] : Bs), .bool false, .slice none 0 0] 30), .blk bs3 (.cells #[sv xkey] 9), .blk bxd (.cells #[.slice axd_0 xd.1.length cxd_0, .map (some bmxd_1), .int .i64 xd.2.2] 42), .own (.slice axd_0 xd.1.length cxd_0) 9 1 xd.1.length xsxd_0, .blk bmxd_1 (.map es4 ck4)] gji8 W ∧ ddrpji8 xd xkey K x6j3 ybs5_0j3 x10ji8) ?_ ?_)
     ·
      refine OpOk.inline (args := #[.slice axd_0 xd.1.length cxd_0, .func (.func 45) #[] #[pv bs3 0]]) 19 [(0, .slice axd_0 xd.1.length cxd_0), (1, .func (.func 45) #[] #[pv bs3 0])] enr Tryz.func69 rfl rfl rfl rfl (Ok.seq (Ok.region (Ok.batch 1 [(0, .slice axd_0 xd.1.length cxd_0), (1, .func (.func 45) #[] #[pv bs3 0])] (by kernel_rfl) (Ok.nil (Ok.thenN (Ok.seq (Ok.seq (Ok.region (Ok.bat 3 [0, 1] [(7, .int .i64 (xd.1.length : Int)), (8, .int .i64 0)] ?_)))))))))
      refine Ok.nil (Ok.thenN (Ok.block ?_))
      obtain ⟨k, hF⟩ := hF
      refine Ok.loop (fun k a W => ∃ gl7i31i10 : Ghost, Gext w0 gj3 gl7i31i10 ∧ ∃ (x8l7i31i10 : Int), StA 19 [(0, .slice axd_0 xd.1.length cxd_0), (1, .func (.func 45) #[] #[pv bs3 0]), (7, .int .i64 (xd.1.length : Int)), (8, .int .i64 x8l7i31i10)] a ∧ StW w0 [.blk bs4 (.cells #[.int .i64 0, sv ([] : Bs), .bool false, .slice none 0 0] 30), .blk bs3 (.cells #[sv xkey] 9), .blk bxd (.cells #[.slice axd_0 xd.1.length cxd_0, .map (some bmxd_1), .int .i64 xd.2.2] 42), .own (.slice axd_0 xd.1.length cxd_0) 9 1 xd.1.length xsxd_0, .blk bmxd_1 (.map es4 ck4)] gl7i31i10 W ∧ ddrpl7x2 xd xkey K x6j3 ybs5_0j3 k x8l7i31i10) k ?_ ?_
      ·
       exact fun a W hA hW => ⟨gj3, (Gext.refl w0 gj3), 0, hA.sub (by kernel_rfl), hW.sub (.cons _ (.cons_cons _ (.cons_cons _ (.cons_cons _ (.cons_cons _ (.cons_cons _ .slnil)))))), hF⟩
      ·
       clear hF
       rintro k7x2 a W ⟨gl7i31i10, hxl7i31i10, x8l7i31i10, hA, hW, hF⟩
       cases k7x2 with
       | zero => exact (hF : False).elim
       | succ k7x2 =>
        refine (?_ : Ok _ _ _ _ _ _) a W hA hW
        clear hA hW
        replace hLxd_0 := hLxd_0.mono hxl7i31i10.1
        replace hM4 := hM4.mono hxl7i31i10.1
        refine Ok.seq (Ok.region (Ok.bat 1 [0, 1, 7, 8] [(9, .bool (decide (x8l7i31i10 < (xd.1.length : Int))))] ?_))
        refine Ok.nil (Ok.thenN (Ok.seq (Ok.cond (b := decide (x8l7i31i10 < (xd.1.length : Int))) rfl (fun hc16 => ?_) (fun hc16 => ?_))))
        ·replace hF := hF.1 hc16
         refine Ok.skip (Ok.thenN (Ok.seq (Ok.block (Ok.seq (Ok.region (Ok.bat 2 [0, 1, 7, 8] [(5, .int .i64 x8l7i31i10)] ?_))))))
         refine Ok.nil (Ok.thenN (Ok.seq (Ok.region (Ok.bat 3 [0, 1, 5, 7, 8] [(11, .func (.func 45) #[] #[pv bs3 0]), (12, .slice axd_0 xd.1.length cxd_0), (13, .int .i64 x8l7i31i10)] ?_))))
         obtain ⟨h018, h118, hF⟩ := hF
         have he18 := get_of (l := xd.1) (default : Bs) h118
         generalize hg18 : (xd.1.getD (Int.toNat x8l7i31i10) default) = e18 at he18 hF ⊢
         refine Ok.op rfl (OpOk.indexOwn (e := .str) (q := x8l7i31i10) (el := e18) 3 rfl hLxd_0 rfl rfl Tryz.underlying28 (by kernel_rfl) (by kernel_rfl) h018 he18 rfl fun cs17 _ hr17 hc17 => ?_)
         obtain rfl := hr17
         replace hc17 : ∀ j v, ([sv e18] : List Value)[j]? = some v → xsxd_0[Int.toNat x8l7i31i10 * 1 + j]? = some v := hc17
         refine Ok.op rfl (OpOk.step (v := sv e18) (Yields.loadOwn 3 0 rfl hc17 rfl Tryz.underlying9 rfl (by kernel_rfl)) rfl rfl (Ok.op rfl (OpOk.inline (args := #[sv e18, pv bs3 0]) 7 [(0, sv e18), (1, pv bs3 0)] enr Tryz.func45 rfl rfl rfl rfl (Ok.seq (Ok.region (Ok.batch 1 [(0, sv e18), (1, pv bs3 0)] (by kernel_rfl) (Ok.nil (Ok.thenN (Ok.seq (Ok.region (Ok.bat 1 [1] [(4, sv e18)] ?_)))))))))))
         refine Ok.op rfl (OpOk.step (v := sv xkey) (Yields.load 1 rfl rfl Tryz.underlying9 rfl (by kernel_rfl)) rfl rfl (Ok.op rfl (OpOk.step (v := .bool (e18 == xkey)) (Yields.strCmp (f := .eql) (a := e18) (b := xkey) (by kernel_rfl) (by kernel_rfl) rfl) rfl rfl (Ok.batch 1 [(3, .bool (e18 == xkey))] (by kernel_rfl) (Ok.nil (Ok.thenN (Ok.ret (Ok.back (vs := [.bool (e18 == xkey)]) (.inl rfl) rfl (.cons (.tmp rfl) .nil) rfl (Ok.nil (Ok.thenN (Ok.cond (b := (e18 == xkey)) rfl (fun hc19 => ?_) (fun hc19 => ?_))))))))))))
         ·replace hF := hF.1 hc19
          refine Ok.seq (Ok.region (Ok.batch 2 [(4, .int .i64 x8l7i31i10)] (by kernel_rfl) (Ok.nil (Ok.thenN (Ok.ret (Ok.blockR (Ok.thenR (Ok.thenR (Ok.blockR (Ok.thenR (Ok.back (vs := [.int .i64 x8l7i31i10]) (.inl rfl) rfl (.cons (.tmp rfl) .nil) rfl ?_)))))))))))
          subst hg18
          exact fun a W hA hW => ⟨gl7i31i10, hxl7i31i10, x8l7i31i10, hA.sub (by kernel_rfl), hW, hF⟩
         ·replace hF := hF.2 hc19
          refine Ok.skip (Ok.blockN (Ok.thenN (Ok.region (Ok.batch 2 [(0, .slice axd_0 xd.1.length cxd_0), (1, .func (.func 45) #[] #[pv bs3 0]), (7, .int .i64 (xd.1.length : Int)), (8, .int .i64 (w6 (x8l7i31i10 + 1)))] (by kernel_rfl) (Ok.nil (Ok.thenN ?_))))))
          subst hg18
          exact fun a W hA hW => ⟨k7x2, Nat.lt_succ_self _, gl7i31i10, hxl7i31i10, w6 (x8l7i31i10 + 1), hA.sub (by kernel_rfl), hW, hF⟩
        ·replace hF := hF.2 hc16
         refine Ok.exit (Ok.thenE (Ok.thenE (Ok.blockHit (Ok.thenN (Ok.seq (Ok.region (Ok.batch 1 [(4, .int .i64 (-1))] (by kernel_rfl) (Ok.nil (Ok.thenN (Ok.ret (Ok.back (vs := [.int .i64 (-1)]) (.inl rfl) rfl (.cons (.tmp rfl) .nil) rfl ?_)))))))))))
         exact fun a W hA hW => ⟨gl7i31i10, hxl7i31i10, -1, hA.sub (by kernel_rfl), hW, hF⟩
     ·
      clear hF
      rintro a W ⟨gji8, hxji8, x10ji8, hA, hW, hF⟩
      refine (?_ : Ok _ _ _ _ _ _) a W hA hW
      clear hA hW
      replace hLxd_0 := hLxd_0.mono hxji8.1
      replace hM4 := hM4.mono hxji8.1
      refine Ok.bat 1 [0, 1] [(5, .int .i64 x10ji8)] ?_
      refine Ok.nil (Ok.thenN (Ok.seq (Ok.seq (Ok.region (Ok.bat 2 [0, 1, 5] [(12, .bool (x10ji8 == (-1)))] ?_)))))
      refine Ok.nil (Ok.thenN (Ok.cond (b := (x10ji8 == (-1))) rfl (fun hc5 => ?_) (fun hc5 => ?_)))
      ·replace hF := hF.1 hc5
       refine Ok.seq (Ok.region (Ok.batch 2 [(4, .slice axd_0 xd.1.length cxd_0)] (by kernel_rfl) (Ok.nil (Ok.thenN (Ok.ret (Ok.thenR (Ok.back (vs := [.slice axd_0 xd.1.length cxd_0]) (.inl rfl) rfl (.cons (.tmp rfl) .nil) rfl ?_)))))))
       exact fun a W hA hW => ⟨gji8, hxji8, axd_0, cxd_0, xd.1, xsxd_0, hLxd_0, hA.sub (by kernel_rfl), hW, hF⟩
      ·replace hF := hF.2 hc5
       refine Ok.skip (Ok.thenN (Ok.seq (Ok.seq (Ok.region (Ok.bat 3 [0, 1, 5] [(6, .int .i64 (w6 (x10ji8 + 1)))] ?_)))))
       refine Ok.nil (Ok.thenN (Ok.block ?_))
       obtain ⟨k, hF⟩ := hF
       refine Ok.loop (fun k a W => ∃ gl17i31 : Ghost, Gext w0 gji8 gl17i31 ∧ ∃ (x5l17i31 : Int) (x6l17i31 : Int) (ayown_xd_0_0l17i31 : Option Addr) (cyown_xd_0_0l17i31 : Nat) (yown_xd_0_0l17i31 : List Bs) (xsyown_xd_0_0l17i31 : List Value), RepL gl17i31 (.str) xsyown_xd_0_0l17i31 yown_xd_0_0l17i31 ∧ StA 42 [(0, .slice ayown_xd_0_0l17i31 yown_xd_0_0l17i31.length cyown_xd_0_0l17i31), (1, .func (.func 45) #[] #[pv bs3 0]), (5, .int .i64 x5l17i31), (6, .int .i64 x6l17i31)] a ∧ StW w0 [.blk bs4 (.cells #[.int .i64 0, sv ([] : Bs), .bool false, .slice none 0 0] 30), .blk bs3 (.cells #[sv xkey] 9), .blk bxd (.cells #[.slice axd_0 xd.1.length cxd_0, .map (some bmxd_1), .int .i64 xd.2.2] 42), .own (.slice ayown_xd_0_0l17i31 yown_xd_0_0l17i31.length cyown_xd_0_0l17i31) 9 1 yown_xd_0_0l17i31.length xsyown_xd_0_0l17i31, .blk bmxd_1 (.map es4 ck4)] gl17i31 W ∧ ddrpl17x1 xd xkey K x6j3 ybs5_0j3 k x5l17i31 x6l17i31 yown_xd_0_0l17i31) k ?_ ?_
       ·
        exact fun a W hA hW => ⟨gji8, (Gext.refl w0 gji8), x10ji8, w6 (x10ji8 + 1), axd_0, cxd_0, xd.1, xsxd_0, hLxd_0, hA.sub (by kernel_rfl), hW, hF⟩
       ·
        clear hF
        rintro k17x1 a W ⟨gl17i31, hxl17i31, x5l17i31, x6l17i31, ayown_xd_0_0l17i31, cyown_xd_0_0l17i31, yown_xd_0_0l17i31, xsyown_xd_0_0l17i31, hLyown_xd_0_0l17i31, hA, hW, hF⟩
        cases k17x1 with
        | zero => exact (hF : False).elim
        | succ k17x1 =>
         refine (?_ : Ok _ _ _ _ _ _) a W hA hW
         clear hA hW
         replace hM4 := hM4.mono hxl17i31.1
         refine Ok.seq (Ok.seq (Ok.region (Ok.bat 4 [0, 1, 5, 6] [(19, .bool (decide (x6l17i31 < (yown_xd_0_0l17i31.length : Int))))] ?_)))
         refine Ok.nil (Ok.thenN (Ok.cond (b := decide (x6l17i31 < (yown_xd_0_0l17i31.length : Int))) rfl (fun hc6 => ?_) (fun hc6 => ?_)))
         ·replace hF := hF.1 hc6
          refine Ok.skip (Ok.thenN (Ok.cut (fun a W => ∃ gj24i31 : Ghost, Gext w0 gl17i31 gj24i31 ∧ ∃ (ayown_xd_0_0j24i31 : Option Addr) (cyown_xd_0_0j24i31 : Nat) (xsyown_xd_0_0j24i31 : List Value), RepL gj24i31 (.str) xsyown_xd_0_0j24i31 (ddrpV14 xkey x5l17i31 x6l17i31 yown_xd_0_0l17i31) ∧ StA 42 [(0, .slice ayown_xd_0_0j24i31 (ddrpV14 xkey x5l17i31 x6l17i31 yown_xd_0_0l17i31).length cyown_xd_0_0j24i31), (1, .func (.func 45) #[] #[pv bs3 0]), (5, .int .i64 (ddrpV13 xkey x5l17i31 x6l17i31 yown_xd_0_0l17i31)), (6, .int .i64 x6l17i31)] a ∧ StW w0 [.blk bs4 (.cells #[.int .i64 0, sv ([] : Bs), .bool false, .slice none 0 0] 30), .blk bs3 (.cells #[sv xkey] 9), .blk bxd (.cells #[.slice axd_0 xd.1.length cxd_0, .map (some bmxd_1), .int .i64 xd.2.2] 42), .own (.slice ayown_xd_0_0j24i31 (ddrpV14 xkey x5l17i31 x6l17i31 yown_xd_0_0l17i31).length cyown_xd_0_0j24i31) 9 1 (ddrpV14 xkey x5l17i31 x6l17i31 yown_xd_0_0l17i31).length xsyown_xd_0_0j24i31, .blk bmxd_1 (.map es4 ck4)] gj24i31 W ∧ ddrpj24i31 xkey x5l17i31 x6l17i31 yown_xd_0_0l17i31 (ddrpl17x1 xd xkey K x6j3 ybs5_0j3 k17x1)) ?_ ?_))
          ·
           refine Ok.block (Ok.seq (Ok.region (Ok.bat 2 [0, 1, 5, 6] [(22, .slice ayown_xd_0_0l17i31 yown_xd_0_0l17i31.length cyown_xd_0_0l17i31), (23, .int .i64 x6l17i31)] ?_)))
           obtain ⟨h08, h18, hF⟩ := hF
           have he8 := get_of (l := yown_xd_0_0l17i31) (default : Bs) h18
           generalize hg8 : (yown_xd_0_0l17i31.getD (Int.toNat x6l17i31) default) = e8 at he8 hF ⊢
           refine Ok.op rfl (OpOk.indexOwn (e := .str) (q := x6l17i31) (el := e8) 3 rfl hLyown_xd_0_0l17i31 rfl rfl Tryz.underlying28 (by kernel_rfl) (by kernel_rfl) h08 he8 rfl fun cs7 _ hr7 hc7 => ?_)
           obtain rfl := hr7
           replace hc7 : ∀ j v, ([sv e8] : List Value)[j]? = some v → xsyown_xd_0_0l17i31[Int.toNat x6l17i31 * 1 + j]? = some v := hc7
           refine Ok.op rfl (OpOk.step (v := sv e8) (Yields.loadOwn 3 0 rfl hc7 rfl Tryz.underlying9 rfl (by kernel_rfl)) rfl rfl (Ok.bat 1 [0, 1, 5, 6] [(7, sv e8)] ?_))
           refine Ok.nil (Ok.thenN (Ok.seq (Ok.region (Ok.bat 2 [0, 1, 5, 6, 7] [(26, .func (.func 45) #[] #[pv bs3 0]), (27, sv e8)] ?_))))
           refine Ok.op rfl (OpOk.inline (args := #[sv e8, pv bs3 0]) 7 [(0, sv e8), (1, pv bs3 0)] enr Tryz.func45 rfl rfl rfl rfl (Ok.seq (Ok.region (Ok.batch 1 [(0, sv e8), (1, pv bs3 0)] (by kernel_rfl) (Ok.nil (Ok.thenN (Ok.seq (Ok.region (Ok.bat 1 [1] [(4, sv e8)] ?_)))))))))
           refine Ok.op rfl (OpOk.step (v := sv xkey) (Yields.load 1 rfl rfl Tryz.underlying9 rfl (by kernel_rfl)) rfl rfl (Ok.op rfl (OpOk.step (v := .bool (e8 == xkey)) (Yields.strCmp (f := .eql) (a := e8) (b := xkey) (by kernel_rfl) (by kernel_rfl) rfl) rfl rfl (Ok.batch 1 [(3, .bool (e8 == xkey))] (by kernel_rfl) (Ok.nil (Ok.thenN (Ok.ret (Ok.back (vs := [.bool (e8 == xkey)]) (.inl rfl) rfl (.cons (.tmp rfl) .nil) rfl (Ok.batch 1 [(0, .slice ayown_xd_0_0l17i31 yown_xd_0_0l17i31.length cyown_xd_0_0l17i31), (1, .func (.func 45) #[] #[pv bs3 0]), (5, .int .i64 x5l17i31), (6, .int .i64 x6l17i31), (7, sv e8), (29, .bool (!(e8 == xkey)))] (by kernel_rfl) (Ok.nil (Ok.thenN (Ok.cond (b := !(e8 == xkey)) rfl (fun hc9 => ?_) (fun hc9 => ?_)))))))))))))
           ·replace hF := hF.1 hc9
            refine Ok.seq (Ok.region (Ok.bat 3 [0, 1, 5, 6] [(30, .slice ayown_xd_0_0l17i31 yown_xd_0_0l17i31.length cyown_xd_0_0l17i31), (31, .int .i64 x5l17i31), (32, sv e8)] ?_))
            obtain ⟨h011, h111, hF⟩ := hF
            have he11 := get_of (l := yown_xd_0_0l17i31) (default : Bs) h111
            generalize hg11 : (yown_xd_0_0l17i31.getD (Int.toNat x5l17i31) default) = e11 at he11 hF ⊢
            refine Ok.op rfl (OpOk.indexOwn (e := .str) (q := x5l17i31) (el := e11) 3 rfl hLyown_xd_0_0l17i31 rfl rfl Tryz.underlying28 (by kernel_rfl) (by kernel_rfl) h011 he11 rfl fun cs10 _ hr10 hc10 => ?_)
            obtain rfl := hr10
            replace hc10 : ∀ j v, ([sv e11] : List Value)[j]? = some v → xsyown_xd_0_0l17i31[Int.toNat x5l17i31 * 1 + j]? = some v := hc10
            refine Ok.op rfl (OpOk.storeOwn (e := .str) (q := Int.toNat x5l17i31) (cells := [sv e11]) (vs := [sv e8]) (el' := e8) 3 0 1 rfl hLyown_xd_0_0l17i31 hc10 (by kernel_rfl) rfl rfl rfl (by kernel_rfl) (by kernel_rfl) (by kernel_rfl) (by kernel_rfl) (by kernel_rfl) (show Rep _ _ [sv e8] _ from rfl) fun xs12 hL12 => ?_)
            rw [show yown_xd_0_0l17i31.length = (yown_xd_0_0l17i31.set (Int.toNat x5l17i31) e8).length from (List.length_set ..).symm]
            refine Ok.nil (Ok.thenN (Ok.region (Ok.bat 3 [1, 6] [(0, .slice ayown_xd_0_0l17i31 (yown_xd_0_0l17i31.set (Int.toNat x5l17i31) e8).length cyown_xd_0_0l17i31), (5, .int .i64 (w6 (x5l17i31 + 1)))] ?_)))
            refine Ok.nil (Ok.blockN (Ok.thenN ?_))
            subst hg11
            subst hg8
            refine Ok.reval 0 rfl (show (.slice ayown_xd_0_0l17i31 (yown_xd_0_0l17i31.set (Int.toNat x5l17i31) (yown_xd_0_0l17i31.getD (Int.toNat x6l17i31) default)).length cyown_xd_0_0l17i31 : Value) = .slice ayown_xd_0_0l17i31 (ddrpV14 xkey x5l17i31 x6l17i31 yown_xd_0_0l17i31).length cyown_xd_0_0l17i31 from congrArg (fun l : List Bs => Value.slice ayown_xd_0_0l17i31 l.length cyown_xd_0_0l17i31) ((if_t hc9).symm)) ?_
            refine Ok.reval 5 rfl (show (.int .i64 (w6 (x5l17i31 + 1)) : Value) = .int .i64 (ddrpV13 xkey x5l17i31 x6l17i31 yown_xd_0_0l17i31) from congrArg (Value.int .i64) ((if_t hc9).symm)) (Ok.heapEq (H' := [.blk bs4 (.cells #[.int .i64 0, sv ([] : Bs), .bool false, .slice none 0 0] 30), .blk bs3 (.cells #[sv xkey] 9), .blk bxd (.cells #[.slice axd_0 xd.1.length cxd_0, .map (some bmxd_1), .int .i64 xd.2.2] 42), .own (.slice ayown_xd_0_0l17i31 (ddrpV14 xkey x5l17i31 x6l17i31 yown_xd_0_0l17i31).length cyown_xd_0_0l17i31) 9 1 (ddrpV14 xkey x5l17i31 x6l17i31 yown_xd_0_0l17i31).length xs12, .blk bmxd_1 (.map es4 ck4)]) (econs (rfl) (econs (rfl) (econs (rfl) (econs (congrArg (fun l : List Bs => Ent.own (.slice ayown_xd_0_0l17i31 l.length cyown_xd_0_0l17i31) 9 1 l.length xs12) ((if_t hc9).symm)) (econs (rfl) rfl))))) ?_)
            exact fun a W hA hW => ⟨gl17i31, (Gext.refl w0 gl17i31), ayown_xd_0_0l17i31, cyown_xd_0_0l17i31, xs12, (Eq.mp (congrArg (fun l : List Bs => RepL gl17i31 (.str) xs12 l) ((if_t hc9).symm)) hL12), hA.sub (by kernel_rfl), hW, hF⟩
           ·replace hF := hF.2 hc9
            refine Ok.skip (Ok.blockN (Ok.thenN ?_))
            subst hg8
            refine Ok.reval 0 rfl (show (.slice ayown_xd_0_0l17i31 yown_xd_0_0l17i31.length cyown_xd_0_0l17i31 : Value) = .slice ayown_xd_0_0l17i31 (ddrpV14 xkey x5l17i31 x6l17i31 yown_xd_0_0l17i31).length cyown_xd_0_0l17i31 from congrArg (fun l : List Bs => Value.slice ayown_xd_0_0l17i31 l.length cyown_xd_0_0l17i31) ((if_f hc9).symm)) ?_
            refine Ok.reval 5 rfl (show (.int .i64 x5l17i31 : Value) = .int .i64 (ddrpV13 xkey x5l17i31 x6l17i31 yown_xd_0_0l17i31) from congrArg (Value.int .i64) ((if_f hc9).symm)) (Ok.heapEq (H' := [.blk bs4 (.cells #[.int .i64 0, sv ([] : Bs), .bool false, .slice none 0 0] 30), .blk bs3 (.cells #[sv xkey] 9), .blk bxd (.cells #[.slice axd_0 xd.1.length cxd_0, .map (some bmxd_1), .int .i64 xd.2.2] 42), .own (.slice ayown_xd_0_0l17i31 (ddrpV14 xkey x5l17i31 x6l17i31 yown_xd_0_0l17i31).length cyown_xd_0_0l17i31) 9 1 (ddrpV14 xkey x5l17i31 x6l17i31 yown_xd_0_0l17i31).length xsyown_xd_0_0l17i31, .blk bmxd_1 (.map es4 ck4)]) (econs (rfl) (econs (rfl) (econs (rfl) (econs (congrArg (fun l : List Bs => Ent.own (.slice ayown_xd_0_0l17i31 l.length cyown_xd_0_0l17i31) 9 1 l.length xsyown_xd_0_0l17i31) ((if_f hc9).symm)) (econs (rfl) rfl))))) ?_)
            exact fun a W hA hW => ⟨gl17i31, (Gext.refl w0 gl17i31), ayown_xd_0_0l17i31, cyown_xd_0_0l17i31, xsyown_xd_0_0l17i31, (Eq.mp (congrArg (fun l : List Bs => RepL gl17i31 (.str) xsyown_xd_0_0l17i31 l) ((if_f hc9).symm)) hLyown_xd_0_0l17i31), hA.sub (by kernel_rfl), hW, hF⟩
          ·
           clear hF
           rintro a W ⟨gj24i31, hxj24i31, ayown_xd_0_0j24i31, cyown_xd_0_0j24i31, xsyown_xd_0_0j24i31, hLyown_xd_0_0j24i31, hA, hW, hF⟩
           refine (?_ : Ok _ _ _ _ _ _) a W hA hW
           clear hA hW
           replace hM4 := hM4.mono hxj24i31.1
           refine Ok.region (Ok.bat 3 [0, 1, 5] [(6, .int .i64 (w6 (x6l17i31 + 1)))] ?_)
           refine Ok.nil (Ok.thenN ?_)
           exact fun a W hA hW => ⟨k17x1, Nat.lt_succ_self _, gj24i31, (hxl17i31.trans hxj24i31), (ddrpV13 xkey x5l17i31 x6l17i31 yown_xd_0_0l17i31), w6 (x6l17i31 + 1), ayown_xd_0_0j24i31, cyown_xd_0_0j24i31, (ddrpV14 xkey x5l17i31 x6l17i31 yown_xd_0_0l17i31), xsyown_xd_0_0j24i31, hLyown_xd_0_0j24i31, hA.sub (by kernel_rfl), hW, hF⟩
         ·replace hF := hF.2 hc6
          refine Ok.exit (Ok.thenE (Ok.thenE (Ok.blockHit (Ok.thenN (Ok.seq (Ok.region (Ok.bat 2 [0, 5] [(36, .slice ayown_xd_0_0l17i31 yown_xd_0_0l17i31.length cyown_xd_0_0l17i31), (37, .int .i64 x5l17i31)] ?_)))))))
          refine Ok.capOwn 3 rfl fun hcc13 hcm13 => ?_
          obtain ⟨h013, h113, h213, hF⟩ := hF
          refine Ok.op rfl (OpOk.step (v := vw ayown_xd_0_0l17i31 1 cyown_xd_0_0l17i31 (Int.toNat x5l17i31) (Int.toNat (yown_xd_0_0l17i31.length : Int))) (slice_run (size := 1) (l := x5l17i31) (h := (yown_xd_0_0l17i31.length : Int)) rfl Tryz.underlying28 (by kernel_rfl) (.inl ⟨_, _, rfl, rfl⟩) (.inr ⟨rfl, rfl⟩) h013 h113 (Int.le_trans h213 (Int.ofNat_le.2 hcc13))) rfl rfl ?_)
          obtain ⟨h114, hF⟩ := hF
          refine Ok.op rfl (OpOk.clearOwn (e := .str) (l := yown_xd_0_0l17i31) (lo := (Int.toNat x5l17i31)) (y := ([] : Bs)) (z := sv ([] : Bs)) 3 rfl rfl hLyown_xd_0_0l17i31 Tryz.underlying28 (by kernel_rfl) (by decide) rfl h114 (Int.toNat_natCast _) fun xs14 hL14 => ?_)
          rw [clr_len yown_xd_0_0l17i31 (Int.toNat x5l17i31) ([] : Bs) (by rw [Int.toNat_natCast] at h114; exact h114)]
          refine Ok.nil (Ok.thenN (Ok.seq (Ok.region (Ok.batch 2 [(39, .slice ayown_xd_0_0l17i31 (clr yown_xd_0_0l17i31 (Int.toNat x5l17i31) ([] : Bs)).length cyown_xd_0_0l17i31), (40, .int .i64 x5l17i31)] (by kernel_rfl) ?_))))
          obtain ⟨h015, h215, hF⟩ := hF
          refine Ok.op rfl (OpOk.cutOwn (e := .str) (h := x5l17i31) 3 rfl rfl rfl hL14 Tryz.underlying28 (by kernel_rfl) h015 h215 rfl fun xs15 hL15 => ?_)
          refine Ok.batch 1 [(4, .slice ayown_xd_0_0l17i31 ((clr yown_xd_0_0l17i31 (Int.toNat x5l17i31) ([] : Bs)).take (Int.toNat x5l17i31)).length cyown_xd_0_0l17i31)] (by kernel_rfl) (Ok.nil (Ok.thenN (Ok.ret (Ok.back (vs := [.slice ayown_xd_0_0l17i31 ((clr yown_xd_0_0l17i31 (Int.toNat x5l17i31) ([] : Bs)).take (Int.toNat x5l17i31)).length cyown_xd_0_0l17i31]) (.inl rfl) rfl (.cons (.tmp rfl) .nil) rfl ?_))))
          exact fun a W hA hW => ⟨gl17i31, (hxji8.trans hxl17i31), ayown_xd_0_0l17i31, cyown_xd_0_0l17i31, ((clr yown_xd_0_0l17i31 (Int.toNat x5l17i31) ([] : Bs)).take (Int.toNat x5l17i31)), xs15, hL15, hA.sub (by kernel_rfl), hW, hF⟩
    ·
     clear hF
     rintro a W ⟨gji6, hxji6, ayown_xd_0_0ji6, cyown_xd_0_0ji6, yown_xd_0_0ji6, xsyown_xd_0_0ji6, hLyown_xd_0_0ji6, hA, hW, hF⟩
     refine (?_ : Ok _ _ _ _ _ _) a W hA hW
     clear hA hW
     replace hM4 := hM4.mono hxji6.1
     refine Ok.bat 2 [0, 3, 4, 6, 7, 31] [(33, pv bxd 0)] ?_
     refine Ok.op rfl (OpOk.sto (k := 1) (v := .slice ayown_xd_0_0ji6 yown_xd_0_0ji6.length cyown_xd_0_0ji6) 2 #[.slice ayown_xd_0_0ji6 yown_xd_0_0ji6.length cyown_xd_0_0ji6, .map (some bmxd_1), .int .i64 xd.2.2] rfl rfl rfl ?_)
     refine Ok.nil (Ok.thenN (Ok.mix [0, 1, 2, 3, 4, 5, 6, 7, 8, 9, 10, 11] [] [.blk bs4 (.cells #[.int .i64 0, sv ([] : Bs), .bool false, .slice none 0 0] 30), .blk bs3 (.cells #[sv xkey] 9), .own (.slice ayown_xd_0_0ji6 yown_xd_0_0ji6.length cyown_xd_0_0ji6) 9 1 yown_xd_0_0ji6.length xsyown_xd_0_0ji6, .blk bmxd_1 (.map es4 ck4)] [(0, true), (1, true), (2, true), (3, true), (4, true), (5, true), (6, true), (7, true), (8, true), (9, true), (10, true), (11, true), (12, false)] (by kernel_rfl) (by kernel_rfl) (.cons_cons _ (.cons_cons _ (.cons _ (.cons_cons _ (.cons_cons _ .slnil))))) (OkM.bat 3 [3, 4, 6, 7] [(34, pv bxd 0), (36, pv bxd 2)] ?_)))
     refine OkM.head rfl rfl (show _ = [.blk bs4 (.cells #[.int .i64 0, sv ([] : Bs), .bool false, .slice none 0 0] 30), .blk bs3 (.cells #[sv xkey] 9), .blk bxd (.cells #[.slice ayown_xd_0_0ji6 yown_xd_0_0ji6.length cyown_xd_0_0ji6, .map (some bmxd_1), .int .i64 xd.2.2] 42), .own (.slice ayown_xd_0_0ji6 yown_xd_0_0ji6.length cyown_xd_0_0ji6) 9 1 yown_xd_0_0ji6.length xsyown_xd_0_0ji6, .blk bmxd_1 (.map es4 ck4)] from rfl) (OpQ.step (v := .int .i64 xd.2.2) (Yields.load 2 rfl rfl Tryz.underlying3 rfl (by kernel_rfl)) rfl rfl (OkM.head rfl rfl (show _ = [.blk bs4 (.cells #[.int .i64 0, sv ([] : Bs), .bool false, .slice none 0 0] 30), .blk bs3 (.cells #[sv xkey] 9), .blk bxd (.cells #[.slice ayown_xd_0_0ji6 yown_xd_0_0ji6.length cyown_xd_0_0ji6, .map (some bmxd_1), .int .i64 xd.2.2] 42), .own (.slice ayown_xd_0_0ji6 yown_xd_0_0ji6.length cyown_xd_0_0ji6) 9 1 yown_xd_0_0ji6.length xsyown_xd_0_0ji6, .blk bmxd_1 (.map es4 ck4)] from rfl) (OpQ.step (v := sv xkey) (Yields.load 1 rfl rfl Tryz.underlying9 rfl (by kernel_rfl)) rfl rfl (OkM.bat 7 [4, 6, 7] [(43, .int .i64 (w6 (xd.2.2 - (w6 ((xkey.length : Int) + (ybs5_0j3.length : Int)))))), (45, pv bxd 2)] ?_))))
     refine OkM.tail rfl rfl (OpOk.sto (k := 1) (v := .int .i64 (w6 (xd.2.2 - (w6 ((xkey.length : Int) + (ybs5_0j3.length : Int)))))) 2 #[.slice ayown_xd_0_0ji6 yown_xd_0_0ji6.length cyown_xd_0_0ji6, .map (some bmxd_1), .int .i64 (w6 (xd.2.2 - (w6 ((xkey.length : Int) + (ybs5_0j3.length : Int)))))] rfl rfl rfl ?_)
     refine OkM.leaf (i := 12) (show _ = [.blk bs4 (.cells #[.int .i64 0, sv ([] : Bs), .bool false, .slice none 0 0] 30), .blk bs3 (.cells #[sv xkey] 9), .own (.slice ayown_xd_0_0ji6 yown_xd_0_0ji6.length cyown_xd_0_0ji6) 9 1 yown_xd_0_0ji6.length xsyown_xd_0_0ji6, .blk bmxd_1 (.map es4 ck4)] from rfl) (Gle.refl _) (.cons_cons _ (.cons_cons _ (.cons _ (.cons_cons _ (.cons_cons _ .slnil))))) (OkM.nil (Ok.thenN (Ok.heapEq (H' := [.blk bs4 (.cells #[.int .i64 0, sv ([] : Bs), .bool false, .slice none 0 0] 30), .blk bs3 (.cells #[sv xkey] 9), .blk bxd (.cells #[.slice ayown_xd_0_0ji6 yown_xd_0_0ji6.length cyown_xd_0_0ji6, .map (some bmxd_1), .int .i64 (ddrpV4 xd xkey x6j3 ybs5_0j3)] 42), .own (.slice ayown_xd_0_0ji6 yown_xd_0_0ji6.length cyown_xd_0_0ji6) 9 1 yown_xd_0_0ji6.length xsyown_xd_0_0ji6, .blk bmxd_1 (.map es4 ck4)]) (econs (rfl) (econs (rfl) (econs (congrArg (fun l : List Value => Ent.blk bxd (.cells ⟨l⟩ 42)) (lcons (rfl) (lcons (rfl) (lcons (congrArg (Value.int .i64) ((if_t hc3).symm)) rfl)))) (econs (rfl) (econs (rfl) rfl))))) ?_)))
     exact fun a W hA hW => ⟨gji6, hxji6, ayown_xd_0_0ji6, cyown_xd_0_0ji6, yown_xd_0_0ji6, xsyown_xd_0_0ji6, es4, ck4, (delK xkey xd.2.1), hLyown_xd_0_0ji6, hM4, hA.sub (by kernel_rfl), hW.sub (.cons_cons _ (.cons _ (.cons_cons _ (.cons_cons _ (.cons_cons _ .slnil))))), hF⟩
   ·replace hF := hF.2 hc3
    refine Ok.skip (Ok.thenN (Ok.heapEq (H' := [.blk bs5 (.cells #[sv ybs5_0j3] 61), .blk bs4 (.cells #[.int .i64 0, sv ([] : Bs), .bool false, .slice none 0 0] 30), .blk bs3 (.cells #[sv xkey] 9), .blk bxd (.cells #[.slice axd_0 xd.1.length cxd_0, .map (some bmxd_1), .int .i64 (ddrpV4 xd xkey x6j3 ybs5_0j3)] 42), .own (.slice axd_0 xd.1.length cxd_0) 9 1 xd.1.length xsxd_0, .blk bmxd_1 (.map esxd_1 ckxd_1)]) (econs (rfl) (econs (rfl) (econs (rfl) (econs (congrArg (fun l : List Value => Ent.blk bxd (.cells ⟨l⟩ 42)) (lcons (rfl) (lcons (rfl) (lcons (congrArg (Value.int .i64) ((if_f hc3).symm)) rfl)))) (econs (rfl) (econs (rfl) rfl)))))) ?_))
    exact fun a W hA hW => ⟨gj3, (Gext.refl w0 gj3), axd_0, cxd_0, xd.1, xsxd_0, esxd_1, ckxd_1, xd.2.1, hLxd_0, hMxd_1, hA.sub (by kernel_rfl), hW.sub (.cons _ (.cons_cons _ (.cons _ (.cons_cons _ (.cons_cons _ (.cons_cons _ .slnil)))))), hF⟩
  ·
   clear hF
   rintro a W ⟨gj7, hxj7, ayown_xd_0_0j7, cyown_xd_0_0j7, yown_xd_0_0j7, xsyown_xd_0_0j7, esybmxd_1_0j7, ckybmxd_1_0j7, ybmxd_1_0j7, hLyown_xd_0_0j7, hMybmxd_1_0j7, hA, hW, hF⟩
   refine (?_ : Ok _ _ _ _ _ _) a W hA hW
   clear hA hW
   refine Ok.seq (Ok.region (Ok.bat 3 [4] [(48, .agg #[.int .i64 0, sv ybs5_0j3, .bool x6j3, .slice none 0 0])] ?_))
   refine Ok.op rfl (OpOk.sto (k := 4) (v := .agg #[.int .i64 0, sv ybs5_0j3, .bool x6j3, .slice none 0 0]) 0 #[.int .i64 0, sv ybs5_0j3, .bool x6j3, .slice none 0 0] rfl rfl rfl ?_)
   refine Ok.nil (Ok.thenN (Ok.ret ?_))
   exact Ok.resP (vs := [.agg #[.int .i64 0, sv ybs5_0j3, .bool x6j3, .slice none 0 0]]) [1, 2, 3] [.blk bxd (.cells #[.slice ayown_xd_0_0j7 yown_xd_0_0j7.length cyown_xd_0_0j7, .map (some bmxd_1), .int .i64 (ddrpV4 xd xkey x6j3 ybs5_0j3)] 42), .own (.slice ayown_xd_0_0j7 yown_xd_0_0j7.length cyown_xd_0_0j7) 9 1 yown_xd_0_0j7.length xsyown_xd_0_0j7, .blk bmxd_1 (.map esybmxd_1_0j7 ckybmxd_1_0j7)] (by decide) rfl (.inl rfl) rfl (.cons (.cellAgg 0 4 #[.int .i64 0, sv ybs5_0j3, .bool x6j3, .slice none 0 0] rfl rfl Tryz.underlying30 rfl (by kernel_rfl) (by kernel_rfl) (by kernel_rfl)) .nil) (hxj3.trans hxj7) ⟨(0, ybs5_0j3, x6j3, []), (yown_xd_0_0j7, ybmxd_1_0j7, (ddrpV4 xd xkey x6j3 ybs5_0j3)), none, 0, ayown_xd_0_0j7, cyown_xd_0_0j7, xsyown_xd_0_0j7, esybmxd_1_0j7, ckybmxd_1_0j7, rfl, Rep.nil, hLyown_xd_0_0j7, hMybmxd_1_0j7, rfl, hF⟩
abbrev Bt := Bs
abbrev DR := List Bt × List (Bt × Bt) × Int
abbrev AN := Int × Bt × Bool × List Bt
theorem pick2 {p : Prop} {c : Bool} (h : p) : (c = true → p) ∧ (c = false → p) := ⟨fun _ => h, fun _ => h⟩
theorem ddel (d : DR) (k : Bt) (K : AN → DR → Prop) (b : Bool) (w : Bt) (hl : d.1.length ≤ 1000) (hK : ddrpji6 d k K b w (d.1.filter fun x => !(x == k))) : ∃ q, ddrpl7x2 d k K b w q 0 := by
 have comp : ∀ (q w0 j : Nat) (o : List Bt), j + q = d.1.length → w0 ≤ j → o.length = d.1.length → o.drop j = d.1.drop j → o.take w0 = (d.1.take j).filter (fun x => !(x == k)) → ddrpl17x1 d k K b w (q + 1) (w0 : Int) (j : Int) o := by
  intro q
  induction q with
  | zero =>
   intro w0 j o hj hw ho hd ht
   refine ⟨fun h => by have := of_decide_eq_true h; omega, fun _ => ⟨by omega, by omega, Int.le_refl _, by omega, by omega, ?_, ?_⟩⟩
   ·rw [Int.toNat_natCast, ← clr_len _ _ _ (by omega)]; omega
   ·have e : ((clr o (Int.toNat (w0 : Int)) ([] : Bt)).take (Int.toNat (w0 : Int))) = d.1.filter fun x => !(x == k) := by
     unfold clr
     rw [Int.toNat_natCast, List.take_append_of_le_length (by rw [List.length_take]; omega), List.take_take, Nat.min_self, ht, List.take_of_length_le (by omega)]
    show ddrpji6 d k K b w ((clr o (Int.toNat (w0 : Int)) ([] : Bt)).take (Int.toNat (w0 : Int)))
    rw [e]; exact hK
  | succ q ih =>
   intro w0 j o hj hw ho hd ht
   have hx : o.getD j default = d.1.getD j default := by
    have := congrArg (fun z => z.head?) hd
    simp only [List.head?_drop] at this
    rw [List.getD_eq_getElem?_getD, List.getD_eq_getElem?_getD, this]
   have hd' : o.drop (j + 1) = d.1.drop (j + 1) := by rw [← List.drop_drop, ← List.drop_drop, hd]
   refine ⟨fun _ => ⟨by omega, by omega, ?_⟩, fun h => by have := of_decide_eq_false h; omega⟩
   rw [Int.toNat_natCast]
   refine ⟨fun h => ⟨by omega, by omega, ?_⟩, fun h => ?_⟩
   ·unfold ddrpj24i31 ddrpV13 ddrpV14
    rw [Int.toNat_natCast, Int.toNat_natCast, if_pos h, if_pos h, w64 (by omega), w64 (by omega), hx]
    rw [hx] at h
    refine ih (w0 + 1) (j + 1) _ (by omega) (by omega) (by rw [List.length_set]; exact ho) ?_ ?_
    ·rw [List.drop_set_of_lt (by omega)]; exact hd'
    ·rw [take_get default (by rw [List.length_set]; omega), List.take_set_of_le (Nat.le_refl _), ht, take_get default (by omega), List.filter_append]
     congr 1
     rw [List.getD_eq_getElem?_getD, List.getElem?_set_self (by omega), Option.getD_some, List.filter_cons, if_pos h, List.filter_nil]
   ·unfold ddrpj24i31 ddrpV13 ddrpV14
    rw [Int.toNat_natCast, Int.toNat_natCast, if_neg (by rw [h]; decide), if_neg (by rw [h]; decide), w64 (by omega)]
    rw [hx] at h
    refine ih w0 (j + 1) _ (by omega) (by omega) ho hd' ?_
    rw [take_get default (by omega), List.filter_append, ← ht, List.filter_cons, if_neg (by rw [h]; decide), List.filter_nil, List.append_nil]
 have find : ∀ (q i : Nat), i + q = d.1.length → (∀ j, j < i → (d.1.getD j default == k) = false) → ddrpl7x2 d k K b w (q + 1) (i : Int) := by
  intro q
  induction q with
  | zero =>
   intro i hi hj
   refine ⟨fun h => by have := of_decide_eq_true h; omega, fun _ => ⟨fun _ => ?_, fun h => by simp at h⟩⟩
   rw [List.filter_eq_self.2 fun x hx => ?_] at hK
   ·exact hK
   ·obtain ⟨j, hj2, rfl⟩ := List.getElem_of_mem hx
    have := hj j (by omega)
    rw [List.getD_eq_getElem?_getD, List.getElem?_eq_getElem hj2, Option.getD_some] at this
    rw [this]; rfl
  | succ q ih =>
   intro i hi hj
   refine ⟨fun _ => ⟨by omega, by omega, ?_⟩, fun h => by have := of_decide_eq_false h; omega⟩
   rw [Int.toNat_natCast]
   refine ⟨fun h => ⟨fun h2 => by rw [beq_iff_eq] at h2; omega, fun _ => ⟨q + 1, ?_⟩⟩, fun h => ?_⟩
   ·rw [w64 (by omega)]
    refine comp q i (i + 1) d.1 (by omega) (by omega) rfl rfl ?_
    rw [take_get default (by omega), List.filter_append, List.filter_cons, if_neg (by rw [h]; decide), List.filter_nil, List.append_nil]
    refine (List.filter_eq_self.2 fun x hx => ?_).symm
    obtain ⟨j, hj2, rfl⟩ := List.getElem_of_mem hx
    rw [List.length_take] at hj2
    have := hj j (by omega)
    rw [List.getD_eq_getElem?_getD, List.getElem?_eq_getElem (by omega), Option.getD_some] at this
    rw [List.getElem_take, this]; rfl
   ·rw [w64 (by omega)]
    refine ih (i + 1) (by omega) fun j hj2 => ?_
    by_cases hji : j = i
    ·subst hji; exact h
    ·exact hj j (by omega)
 exact ⟨_, find d.1.length 0 (by omega) fun j hj => by omega⟩
/-- what is right of a drawer -/
def drP (d : DR) : Prop := d.1.length ≤ 1000 ∧ 0 ≤ d.2.2 ∧ d.2.2 ≤ 400 ∧ ∀ k w, assocK k d.2.1 = some w → w.length ≤ 400
def txP (k : Bt) : Prop := k.length ≤ 1152921504606846976
def dputS (d : DR) (k v : Bt) : AN × DR :=
 match assocK k d.2.1 with
 | some w => if (decide (d.2.2 + ((v.length : Int) - w.length) > 400)) = true then ((2, [], false, []), d) else ((0, w, true, []), (d.1, putK k v d.2.1, d.2.2 + ((v.length : Int) - w.length)))
 | none => if (decide (d.2.2 + ((v.length : Int) + k.length) > 400)) = true then ((2, [], false, []), d) else ((0, [], false, []), (d.1 ++ [k], putK k v d.2.1, d.2.2 + ((v.length : Int) + k.length)))
def dputP (d : DR) (k v : Bt) : Prop := drP d ∧ txP k ∧ txP v
theorem dput_F (d : DR) (k v : Bt) (hp : dputP d k v) : dputF d k v (fun a b => (a, b) = dputS d k v) := by
 obtain ⟨⟨h1, h2, h3, h4⟩, h5, h6⟩ := hp
 unfold txP at h5 h6
 refine ⟨fun w hw => ?_, fun hw => ?_⟩
 ·have hwl := h4 k w hw
  have eV : dputV0 k v true w = (v.length : Int) - w.length := by
   unfold dputV0
   rw [if_neg (by decide), w64 (by omega)]
  refine pick2 ⟨fun h => ?_, fun h => ⟨fun h => (by cases h), fun _ => ?_⟩⟩
  ·rw [eV, w64 (by omega)] at h
   unfold dputS; rw [hw]; exact (if_pos h).symm
  ·rw [eV, w64 (by omega)] at h
   unfold dputS; rw [hw]
   show (((0 : Int), w, true, ([] : List Bt)), (dputV1 d k true, putK k v d.2.1, w6 (d.2.2 + dputV0 k v true w))) = _
   rw [eV, w64 (by omega)]
   exact (if_neg (by rw [h]; decide)).symm
 ·have eV : dputV0 k v false [] = (v.length : Int) + k.length := by
   unfold dputV0
   rw [if_pos (by decide)]
   have e0 : ((([] : Bt).length : Nat) : Int) = 0 := rfl
   rw [e0, w64 (x := (v.length : Int) - 0) (by omega), w64 (by omega)]; omega
  refine pick2 ⟨fun h => ?_, fun h => ?_⟩
  ·rw [eV, w64 (by omega)] at h
   unfold dputS; rw [hw]; exact (if_pos h).symm
  ·rw [eV, w64 (by omega)] at h
   refine ⟨fun _ => ⟨by rw [List.length_append]; simp only [List.length_cons, List.length_nil]; omega, ?_⟩, fun h => by cases h⟩
   unfold dputS; rw [hw]
   show (((0 : Int), ([] : Bt), false, ([] : List Bt)), (dputV1 d k false, putK k v d.2.1, w6 (d.2.2 + dputV0 k v false []))) = _
   rw [eV, w64 (by omega)]
   exact (if_neg (by rw [h]; decide)).symm
theorem dput_c {g : Ghost} {bxd : Nat} {axd_0 : Option Addr} {cxd_0 : Nat} {xsxd_0 : List Value} {bmxd_1 : Nat} {esxd_1 : Array MapEntry} {ckxd_1 : Nat} (xd : List Bs × (List (Bs × Bs)) × Int) (xkey : Bs) (xvalue : Bs) (hLxd_0 : RepL g (.str) xsxd_0 xd.1) (hMxd_1 : RepMapA g (.str) true (fun k : Bs => Value.string ⟨⟨k⟩⟩) esxd_1 ckxd_1 xd.2.1)  (hp : dputP xd xkey xvalue) : CallsH Tryz.prog 22 #[pv bxd 0, sv xkey, sv xvalue] g [.blk bxd (.cells #[.slice axd_0 xd.1.length cxd_0, .map (some bmxd_1), .int .i64 xd.2.2] 42), .own (.slice axd_0 xd.1.length cxd_0) 9 1 xd.1.length xsxd_0, .blk bmxd_1 (.map esxd_1 ckxd_1)] (fun g' H' v => ∃ (ar0_0 : Option Addr) (cr0_0 : Nat), ∃ (afxd_0 : Option Addr) (cfxd_0 : Nat) (xsfxd_0 : List Value), ∃ (esfxd_1 : Array MapEntry) (ckfxd_1 : Nat), v = .agg #[.int .i64 (dputS xd xkey xvalue).1.1, sv ((dputS xd xkey xvalue).1.2.1), .bool (dputS xd xkey xvalue).1.2.2.1, .slice ar0_0 (dputS xd xkey xvalue).1.2.2.2.length cr0_0] ∧ Rep g' (.slice (.str)) [.slice ar0_0 (dputS xd xkey xvalue).1.2.2.2.length cr0_0] (dputS xd xkey xvalue).1.2.2.2 ∧ RepL g' (.str) xsfxd_0 (dputS xd xkey xvalue).2.1 ∧ RepMapA g' (.str) true (fun k : Bs => Value.string ⟨⟨k⟩⟩) esfxd_1 ckfxd_1 (dputS xd xkey xvalue).2.2.1 ∧ H' = [.blk bxd (.cells #[.slice afxd_0 (dputS xd xkey xvalue).2.1.length cfxd_0, .map (some bmxd_1), .int .i64 (dputS xd xkey xvalue).2.2.2] 42), .own (.slice afxd_0 (dputS xd xkey xvalue).2.1.length cfxd_0) 9 1 (dputS xd xkey xvalue).2.1.length xsfxd_0, .blk bmxd_1 (.map esfxd_1 ckfxd_1)]) :=
 (dput_ok xd xkey xvalue hLxd_0 hMxd_1 _ (dput_F xd xkey xvalue hp)).mono (by rintro g' H' v _ ⟨r0, fxd, ar0_0, cr0_0, afxd_0, cfxd_0, xsfxd_0, esfxd_1, ckfxd_1, rfl, hRr0_0, hLfxd_0, hMfxd_1, rfl, hK⟩; obtain ⟨rfl, rfl⟩ : r0 = (dputS xd xkey xvalue).1 ∧ fxd = (dputS xd xkey xvalue).2 := ⟨congrArg (fun z => z.1) hK, congrArg (fun z => z.2) hK⟩; exact ⟨ar0_0, cr0_0, afxd_0, cfxd_0, xsfxd_0, esfxd_1, ckfxd_1, rfl, hRr0_0, hLfxd_0, hMfxd_1, rfl⟩)
def dempS (d : DR) : AN × DR := ((0, [], decide ((d.1.length : Int) > 0), []), ([], [], 0))
theorem demp_F (d : DR) : dempF d (fun a b => (a, b) = dempS d) := rfl
theorem demp_c {g : Ghost} {bxd : Nat} {axd_0 : Option Addr} {cxd_0 : Nat} {xsxd_0 : List Value} {bmxd_1 : Nat} {esxd_1 : Array MapEntry} {ckxd_1 : Nat} (xd : List Bs × (List (Bs × Bs)) × Int) (hLxd_0 : RepL g (.str) xsxd_0 xd.1) (hMxd_1 : RepMapA g (.str) true (fun k : Bs => Value.string ⟨⟨k⟩⟩) esxd_1 ckxd_1 xd.2.1)  : CallsH Tryz.prog 24 #[pv bxd 0] g [.blk bxd (.cells #[.slice axd_0 xd.1.length cxd_0, .map (some bmxd_1), .int .i64 xd.2.2] 42), .own (.slice axd_0 xd.1.length cxd_0) 9 1 xd.1.length xsxd_0, .blk bmxd_1 (.map esxd_1 ckxd_1)] (fun g' H' v => ∃ (ar0_0 : Option Addr) (cr0_0 : Nat), ∃ (afxd_0 : Option Addr) (cfxd_0 : Nat) (xsfxd_0 : List Value), ∃ (esfxd_1 : Array MapEntry) (ckfxd_1 : Nat), v = .agg #[.int .i64 (dempS xd).1.1, sv ((dempS xd).1.2.1), .bool (dempS xd).1.2.2.1, .slice ar0_0 (dempS xd).1.2.2.2.length cr0_0] ∧ Rep g' (.slice (.str)) [.slice ar0_0 (dempS xd).1.2.2.2.length cr0_0] (dempS xd).1.2.2.2 ∧ RepL g' (.str) xsfxd_0 (dempS xd).2.1 ∧ RepMapA g' (.str) true (fun k : Bs => Value.string ⟨⟨k⟩⟩) esfxd_1 ckfxd_1 (dempS xd).2.2.1 ∧ H' = [.blk bxd (.cells #[.slice afxd_0 (dempS xd).2.1.length cfxd_0, .map (some bmxd_1), .int .i64 (dempS xd).2.2.2] 42), .own (.slice afxd_0 (dempS xd).2.1.length cfxd_0) 9 1 (dempS xd).2.1.length xsfxd_0, .blk bmxd_1 (.map esfxd_1 ckfxd_1)]) :=
 (demp_ok xd hLxd_0 hMxd_1 _ (demp_F xd)).mono (by rintro g' H' v _ ⟨r0, fxd, ar0_0, cr0_0, afxd_0, cfxd_0, xsfxd_0, esfxd_1, ckfxd_1, rfl, hRr0_0, hLfxd_0, hMfxd_1, rfl, hK⟩; obtain ⟨rfl, rfl⟩ : r0 = (dempS xd).1 ∧ fxd = (dempS xd).2 := ⟨congrArg (fun z => z.1) hK, congrArg (fun z => z.2) hK⟩; exact ⟨ar0_0, cr0_0, afxd_0, cfxd_0, xsfxd_0, esfxd_1, ckfxd_1, rfl, hRr0_0, hLfxd_0, hMfxd_1, rfl⟩)
def ddrpS (d : DR) (k : Bt) : AN × DR :=
 match assocK k d.2.1 with
 | some w => ((0, w, true, []), (d.1.filter (fun x => !(x == k)), delK k d.2.1, d.2.2 - ((k.length : Int) + w.length)))
 | none => ((0, [], false, []), d)
def ddrpP (d : DR) (k : Bt) : Prop := drP d ∧ txP k
theorem ddrp_F (d : DR) (k : Bt) (hp : ddrpP d k) : ddrpF d k (fun a b => (a, b) = ddrpS d k) := by
 obtain ⟨⟨h1, h2, h3, h4⟩, h5⟩ := hp
 unfold txP at h5
 refine ⟨fun w hw => ⟨fun _ => ddel d k _ true w h1 ?_, fun h => by cases h⟩, fun hw => ⟨fun h => (by cases h), fun _ => ?_⟩⟩
 ·have hwl := h4 k w hw
  unfold ddrpji6 ddrpj7 ddrpS ddrpV4
  rw [hw, if_pos rfl, w64 (x := (k.length : Int) + w.length) (by omega), w64 (by omega)]
 ·unfold ddrpj7 ddrpS ddrpV4
  rw [hw, if_neg (by decide)]
theorem ddrp_c {g : Ghost} {bxd : Nat} {axd_0 : Option Addr} {cxd_0 : Nat} {xsxd_0 : List Value} {bmxd_1 : Nat} {esxd_1 : Array MapEntry} {ckxd_1 : Nat} (xd : List Bs × (List (Bs × Bs)) × Int) (xkey : Bs) (hLxd_0 : RepL g (.str) xsxd_0 xd.1) (hMxd_1 : RepMapA g (.str) true (fun k : Bs => Value.string ⟨⟨k⟩⟩) esxd_1 ckxd_1 xd.2.1)  (hp : ddrpP xd xkey) : CallsH Tryz.prog 23 #[pv bxd 0, sv xkey] g [.blk bxd (.cells #[.slice axd_0 xd.1.length cxd_0, .map (some bmxd_1), .int .i64 xd.2.2] 42), .own (.slice axd_0 xd.1.length cxd_0) 9 1 xd.1.length xsxd_0, .blk bmxd_1 (.map esxd_1 ckxd_1)] (fun g' H' v => ∃ (ar0_0 : Option Addr) (cr0_0 : Nat), ∃ (afxd_0 : Option Addr) (cfxd_0 : Nat) (xsfxd_0 : List Value), ∃ (esfxd_1 : Array MapEntry) (ckfxd_1 : Nat), v = .agg #[.int .i64 (ddrpS xd xkey).1.1, sv ((ddrpS xd xkey).1.2.1), .bool (ddrpS xd xkey).1.2.2.1, .slice ar0_0 (ddrpS xd xkey).1.2.2.2.length cr0_0] ∧ Rep g' (.slice (.str)) [.slice ar0_0 (ddrpS xd xkey).1.2.2.2.length cr0_0] (ddrpS xd xkey).1.2.2.2 ∧ RepL g' (.str) xsfxd_0 (ddrpS xd xkey).2.1 ∧ RepMapA g' (.str) true (fun k : Bs => Value.string ⟨⟨k⟩⟩) esfxd_1 ckfxd_1 (ddrpS xd xkey).2.2.1 ∧ H' = [.blk bxd (.cells #[.slice afxd_0 (ddrpS xd xkey).2.1.length cfxd_0, .map (some bmxd_1), .int .i64 (ddrpS xd xkey).2.2.2] 42), .own (.slice afxd_0 (ddrpS xd xkey).2.1.length cfxd_0) 9 1 (ddrpS xd xkey).2.1.length xsfxd_0, .blk bmxd_1 (.map esfxd_1 ckfxd_1)]) :=
 (ddrp_ok xd xkey hLxd_0 hMxd_1 _ (ddrp_F xd xkey hp)).mono (by rintro g' H' v _ ⟨r0, fxd, ar0_0, cr0_0, afxd_0, cfxd_0, xsfxd_0, esfxd_1, ckfxd_1, rfl, hRr0_0, hLfxd_0, hMfxd_1, rfl, hK⟩; obtain ⟨rfl, rfl⟩ : r0 = (ddrpS xd xkey).1 ∧ fxd = (ddrpS xd xkey).2 := ⟨congrArg (fun z => z.1) hK, congrArg (fun z => z.2) hK⟩; exact ⟨ar0_0, cr0_0, afxd_0, cfxd_0, xsfxd_0, esfxd_1, ckfxd_1, rfl, hRr0_0, hLfxd_0, hMfxd_1, rfl⟩)
end
end Go.Proofs.YtdjcgbejnpbjlaaGreatDoor.Sd
