/- Store: a drawer does what is asked. -/
import Derived.Test.YtdjcgbejnpbjlaaGreatDoorSda
import Derived.Test.YtdjcgbejnpbjlaaGreatDoorSee
namespace Go.Proofs.YtdjcgbejnpbjlaaGreatDoor.Sd
open Go Go.Eng Go.RowKit Bld Sp Ti Uc Ua Ui Ub
set_option maxHeartbeats 4000000
set_option maxRecDepth 100000
set_option linter.unusedSimpArgs false
set_option linter.unusedVariables false
noncomputable section
def dclj4 (K : (List Bs) → Prop) (x0j4 : List Bs) (x4j4 : Bool) : Prop :=
 ((x4j4) = true → K ([] : List Bs)) ∧ ((x4j4) = false → (([] : List Bs) ++ x0j4).length ≤ 8796093022208 ∧ K (([] : List Bs) ++ x0j4))
def dclF (xs : List Bs) (K : (List Bs) → Prop) : Prop :=
 (xs = [] → dclj4 K xs true) ∧ (dclj4 K xs false)
theorem dcl_ok {g : Ghost} {axs_0 : Option Addr} {cxs_0 : Nat} (xs : List Bs) (hRxs_0 : Rep g (.slice (.str)) [.slice axs_0 xs.length cxs_0] xs) (K : (List Bs) → Prop)
  (hF : dclF xs K) : CallsH Tryz.prog 25 #[.slice axs_0 xs.length cxs_0] g [] (fun g' H' v => ∃ (r0 : List Bs), ∃ (ar0 : Option Addr) (cr0 : Nat) (xsr0 : List Value), v = .slice ar0 r0.length cr0 ∧ RepL g' (.str) xsr0 r0 ∧ H' = [.own (.slice ar0 r0.length cr0) 9 1 r0.length xsr0] ∧ K r0) := by
 refine CallsH.enter 8 [(0, .slice axs_0 xs.length cxs_0)] Tryz.func25 rfl (by kernel_rfl) (by kernel_rfl) (by kernel_rfl) fun w0 => ?_
 refine Ok.seq (Ok.region (Ok.batch 1 [(0, .slice axs_0 xs.length cxs_0)] (by kernel_rfl) (Ok.nil (Ok.thenN (Ok.seq (Ok.cut (fun a W => ∃ gj4 : Ghost, Gext w0 g gj4 ∧ ∃ (ax0j4 : Option Addr) (cx0j4 : Nat) (x0j4 : List Bs) (x4j4 : Bool), Rep gj4 (.slice (.str)) [.slice ax0j4 x0j4.length cx0j4] x0j4 ∧ StA 8 [(0, .slice ax0j4 x0j4.length cx0j4), (4, .bool x4j4)] a ∧ StW w0 [] gj4 W ∧ dclj4 K x0j4 x4j4) ?_ ?_))))))
 ·
  refine Ok.region (Ok.bat 1 [0] [(3, .slice axs_0 xs.length cxs_0)] ?_)
  rcases optCases axs_0 with rfl | ⟨ad5, rfl⟩
  ·have hz5 := Rep.none_nil hRxs_0
   replace hF := hF.1 hz5
   refine Ok.op rfl (OpOk.step (v := .bool true) (Yields.eqNilAt rfl rfl Tryz.underlying28 (by kernel_rfl) rfl) rfl rfl (Ok.nil (Ok.thenN ?_)))
   exact fun a W hA hW => ⟨g, (Gext.refl w0 g), none, cxs_0, xs, true, hRxs_0, hA.sub (by kernel_rfl), hW, hF⟩
  ·replace hF := hF.2
   refine Ok.op rfl (OpOk.step (v := .bool false) (Yields.eqNilAt rfl rfl Tryz.underlying28 (by kernel_rfl) rfl) rfl rfl (Ok.nil (Ok.thenN ?_)))
   exact fun a W hA hW => ⟨g, (Gext.refl w0 g), (some ad5), cxs_0, xs, false, hRxs_0, hA.sub (by kernel_rfl), hW, hF⟩
 ·
  clear hF
  rintro a W ⟨gj4, hxj4, ax0j4, cx0j4, x0j4, x4j4, hRx0j4, hA, hW, hF⟩
  refine (?_ : Ok _ _ _ _ _ _) a W hA hW
  clear hA hW
  refine Ok.cond (b := x4j4) rfl (fun hc1 => ?_) (fun hc1 => ?_)
  ·replace hF := hF.1 hc1
   refine Ok.seq (Ok.region (Ok.batch 1 [(2, .slice none 0 0)] (by kernel_rfl) ?_))
   have hL2 : RepL gj4 (.str) [] [] := rfl
   refine Ok.ownNil 9 1 (Ok.nil (Ok.thenN (Ok.ret (Ok.thenR ?_))))
   exact Ok.resH (vs := [.slice none ([] : List Bs).length 0]) (.inl rfl) rfl (.cons (.tmp rfl) .nil) hxj4 ⟨([] : List Bs), none, 0, [], rfl, hL2, rfl, hF⟩
  ·replace hF := hF.2 hc1
   refine Ok.skip (Ok.thenN (Ok.seq (Ok.region ?_)))
   have hL3 : RepL gj4 (.str) ([] : List Value) ([] : List Bs) := rfl
   refine Ok.op rfl (OpOk.lit (E := 9) (.str) ([] : List Bs) ([] : List Value) (by kernel_rfl) (by kernel_rfl) rfl (by kernel_rfl) hL3 rfl fun b3 => ?_)
   refine Ok.batch 1 [(5, .slice (some ⟨b3, 0, none⟩) ([] : List Bs).length 0), (6, .slice ax0j4 x0j4.length cx0j4)] (by kernel_rfl) ?_
   obtain ⟨hb4, hF⟩ := hF
   refine Ok.op rfl (OpOk.appendRo (e := .str) 16 8796093022208 0 rfl rfl rfl hL3 hRx0j4 Tryz.underlying28 (by kernel_rfl) (by kernel_rfl) (by kernel_rfl) hb4 rfl fun a4 c4 xs4 hL4 => ?_)
   refine Ok.batch 1 [(2, .slice a4 (([] : List Bs) ++ x0j4).length c4)] (by kernel_rfl) (Ok.nil (Ok.thenN (Ok.ret ?_)))
   exact Ok.resH (vs := [.slice a4 (([] : List Bs) ++ x0j4).length c4]) (.inl rfl) rfl (.cons (.tmp rfl) .nil) hxj4 ⟨(([] : List Bs) ++ x0j4), a4, c4, xs4, rfl, hL4, rfl, hF⟩
def dclS (l : List (Bt)) : List (Bt) := l
def dclP (l : List (Bt)) : Prop := l.length ≤ 1000000
theorem dcl_F (l : List (Bt)) (hp : dclP l) : dclF l (fun r => r = dclS l) := by
 unfold dclP at hp
 refine ⟨fun h => ⟨fun _ => by rw [h]; rfl, (fun h => by cases h)⟩, ⟨(fun h => by cases h), fun _ => ⟨by rw [List.nil_append]; omega, by rw [List.nil_append]; rfl⟩⟩⟩
theorem dcl_c {g : Ghost} {axs_0 : Option Addr} {cxs_0 : Nat} (xs : List Bs) (hRxs_0 : Rep g (.slice (.str)) [.slice axs_0 xs.length cxs_0] xs)  (hp : dclP xs) : CallsH Tryz.prog 25 #[.slice axs_0 xs.length cxs_0] g [] (fun g' H' v => ∃ (ar0 : Option Addr) (cr0 : Nat) (xsr0 : List Value), v = .slice ar0 (dclS xs).length cr0 ∧ RepL g' (.str) xsr0 (dclS xs) ∧ H' = [.own (.slice ar0 (dclS xs).length cr0) 9 1 (dclS xs).length xsr0]) :=
 (dcl_ok xs hRxs_0 _ (dcl_F xs hp)).mono (by rintro g' H' v _ ⟨r0, ar0, cr0, xsr0, rfl, hLr0, rfl, hK⟩; subst hK; exact ⟨ar0, cr0, xsr0, rfl, hLr0, rfl⟩)

def ddoj16 (xd : List Bs × (List (Bs × Bs)) × Int) (K : (Int × Bs × Bool × List Bs) → (List Bs × (List (Bs × Bs)) × Int) → Prop) (x6j16 : Bool) (ybs5_0j16 : Bs) : Prop :=
 K (0, ybs5_0j16, x6j16, []) xd
def ddoF (xd : List Bs × (List (Bs × Bs)) × Int) (xo : Int × Bs × Bs × Bs) (K : (Int × Bs × Bool × List Bs) → (List Bs × (List (Bs × Bs)) × Int) → Prop) : Prop :=
 (((xo.1 == 1)) = true → dputP xd xo.2.2.1 xo.2.2.2 ∧ K (dputS xd xo.2.2.1 xo.2.2.2).1 (dputS xd xo.2.2.1 xo.2.2.2).2) ∧ (((xo.1 == 1)) = false → (((xo.1 == 2)) = true → (∀ e7 : Bs, assocK xo.2.2.1 xd.2.1 = some e7 → ddoj16 xd K true e7) ∧ (assocK xo.2.2.1 xd.2.1 = none → ddoj16 xd K false ([] : Bs))) ∧ (((xo.1 == 2)) = false → (((xo.1 == 3)) = true → ddrpP xd xo.2.2.1 ∧ K (ddrpS xd xo.2.2.1).1 (ddrpS xd xo.2.2.1).2) ∧ (((xo.1 == 3)) = false → (((xo.1 == 4)) = true → K (dempS xd).1 (dempS xd).2) ∧ (((xo.1 == 4)) = false → (((xo.1 == 5)) = true → dclP xd.1 ∧ K (0, ([] : Bs), false, (dclS xd.1)) xd) ∧ (((xo.1 == 5)) = false → K (1, ([] : Bs), false, []) xd)))))
theorem ddo_ok {g : Ghost} {bxd : Nat} {axd_0 : Option Addr} {cxd_0 : Nat} {xsxd_0 : List Value} {bmxd_1 : Nat} {esxd_1 : Array MapEntry} {ckxd_1 : Nat} (xd : List Bs × (List (Bs × Bs)) × Int) (xo : Int × Bs × Bs × Bs) (hLxd_0 : RepL g (.str) xsxd_0 xd.1) (hMxd_1 : RepMapA g (.str) true (fun k : Bs => Value.string ⟨⟨k⟩⟩) esxd_1 ckxd_1 xd.2.1) (K : (Int × Bs × Bool × List Bs) → (List Bs × (List (Bs × Bs)) × Int) → Prop)
  (hF : ddoF xd xo K) : CallsH Tryz.prog 9 #[pv bxd 0, .agg #[.int .i64 xo.1, sv xo.2.1, sv xo.2.2.1, sv xo.2.2.2]] g [.blk bxd (.cells #[.slice axd_0 xd.1.length cxd_0, .map (some bmxd_1), .int .i64 xd.2.2] 42), .own (.slice axd_0 xd.1.length cxd_0) 9 1 xd.1.length xsxd_0, .blk bmxd_1 (.map esxd_1 ckxd_1)] (fun g' H' v => ∃ (r0 : Int × Bs × Bool × List Bs), ∃ (fxd : List Bs × (List (Bs × Bs)) × Int), ∃ (ar0_0 : Option Addr) (cr0_0 : Nat), ∃ (afxd_0 : Option Addr) (cfxd_0 : Nat) (xsfxd_0 : List Value), ∃ (esfxd_1 : Array MapEntry) (ckfxd_1 : Nat), v = .agg #[.int .i64 r0.1, sv r0.2.1, .bool r0.2.2.1, .slice ar0_0 r0.2.2.2.length cr0_0] ∧ Rep g' (.slice (.str)) [.slice ar0_0 r0.2.2.2.length cr0_0] r0.2.2.2 ∧ RepL g' (.str) xsfxd_0 fxd.1 ∧ RepMapA g' (.str) true (fun k : Bs => Value.string ⟨⟨k⟩⟩) esfxd_1 ckfxd_1 fxd.2.1 ∧ H' = [.blk bxd (.cells #[.slice afxd_0 fxd.1.length cfxd_0, .map (some bmxd_1), .int .i64 fxd.2.2] 42), .own (.slice afxd_0 fxd.1.length cfxd_0) 9 1 fxd.1.length xsfxd_0, .blk bmxd_1 (.map esfxd_1 ckfxd_1)] ∧ K r0 fxd) := by
 refine CallsH.enter 52 [(0, pv bxd 0), (1, .agg #[.int .i64 xo.1, sv xo.2.1, sv xo.2.2.1, sv xo.2.2.2])] Tryz.func9 rfl (by kernel_rfl) (by kernel_rfl) (by kernel_rfl) fun w0 => ?_
 refine Ok.seq (Ok.region (Ok.op rfl (OpOk.box (v := .agg #[.int .i64 xo.1, sv xo.2.1, sv xo.2.2.1, sv xo.2.2.2]) (cs := #[.int .i64 xo.1, sv xo.2.1, sv xo.2.2.1, sv xo.2.2.2]) rfl (by kernel_rfl) rfl fun bs3 => ?_)))
 refine Ok.op rfl (OpOk.alloc (z := .agg #[.int .i64 0, sv ([] : Bs), .bool false, .slice none 0 0]) (cs := #[.int .i64 0, sv ([] : Bs), .bool false, .slice none 0 0]) (by kernel_rfl) (by kernel_rfl) rfl fun bs4 => ?_)
 refine Ok.nil (Ok.thenN (Ok.seq (Ok.seq (Ok.region (Ok.batch 1 [(0, pv bxd 0), (3, pv bs3 0), (4, pv bs4 0), (7, pv bs3 0)] (by kernel_rfl) (Ok.op rfl (OpOk.step (v := .int .i64 xo.1) (Yields.load 1 rfl rfl Tryz.underlying3 rfl (by kernel_rfl)) rfl rfl (Ok.nil (Ok.thenN (Ok.block (Ok.seq (Ok.region (Ok.bat 2 [0, 3, 4] [(8, .int .i64 xo.1), (9, .bool (xo.1 == 1))] ?_)))))))))))))
 refine Ok.nil (Ok.thenN (Ok.cond (b := (xo.1 == 1)) rfl (fun hc3 => ?_) (fun hc3 => ?_)))
 ·replace hF := hF.1 hc3
  refine Ok.seq (Ok.region (Ok.bat 2 [3, 4] [(11, pv bxd 0), (12, pv bs3 2)] ?_))
  refine Ok.op rfl (OpOk.step (v := sv xo.2.2.1) (Yields.load 1 rfl rfl Tryz.underlying9 rfl (by kernel_rfl)) rfl rfl (Ok.bat 1 [4, 11] [(13, sv xo.2.2.1), (14, pv bs3 3)] ?_))
  refine Ok.op rfl (OpOk.step (v := sv xo.2.2.2) (Yields.load 1 rfl rfl Tryz.underlying9 rfl (by kernel_rfl)) rfl rfl ?_)
  obtain ⟨hp4, hF⟩ := hF
  refine Ok.entries [2, 3, 4, 0, 1] [.blk bxd (.cells #[.slice axd_0 xd.1.length cxd_0, .map (some bmxd_1), .int .i64 xd.2.2] 42), .own (.slice axd_0 xd.1.length cxd_0) 9 1 xd.1.length xsxd_0, .blk bmxd_1 (.map esxd_1 ckxd_1), .blk bs4 (.cells #[.int .i64 0, sv ([] : Bs), .bool false, .slice none 0 0] 30), .blk bs3 (.cells #[.int .i64 xo.1, sv xo.2.1, sv xo.2.2.1, sv xo.2.2.2] 36)] (by decide) rfl (Ok.op rfl (OpOk.callH [_, _, _] _ enr rfl (dput_c xd xo.2.2.1 xo.2.2.2 hLxd_0 hMxd_1 hp4) rfl fun g5 _ _ hx5 hV5 => ?_))
  obtain ⟨a5_0, c5_0, a5_2, c5_2, xs5_2, es5_5, ck5_5, rfl, hR5_0, hL5_2, hM5_5, rfl⟩ := hV5
  refine Ok.op rfl (OpOk.sto (k := 4) (v := .agg #[.int .i64 (dputS xd xo.2.2.1 xo.2.2.2).1.1, sv ((dputS xd xo.2.2.1 xo.2.2.2).1.2.1), .bool (dputS xd xo.2.2.1 xo.2.2.2).1.2.2.1, .slice a5_0 (dputS xd xo.2.2.1 xo.2.2.2).1.2.2.2.length c5_0]) 3 #[.int .i64 (dputS xd xo.2.2.1 xo.2.2.2).1.1, sv ((dputS xd xo.2.2.1 xo.2.2.2).1.2.1), .bool (dputS xd xo.2.2.1 xo.2.2.2).1.2.2.1, .slice a5_0 (dputS xd xo.2.2.1 xo.2.2.2).1.2.2.2.length c5_0] rfl rfl rfl ?_)
  refine Ok.nil (Ok.thenN (Ok.ret (Ok.blockR (Ok.thenR ?_))))
  exact Ok.resP (vs := [.agg #[.int .i64 (dputS xd xo.2.2.1 xo.2.2.2).1.1, sv ((dputS xd xo.2.2.1 xo.2.2.2).1.2.1), .bool (dputS xd xo.2.2.1 xo.2.2.2).1.2.2.1, .slice a5_0 (dputS xd xo.2.2.1 xo.2.2.2).1.2.2.2.length c5_0]]) [0, 1, 2] [.blk bxd (.cells #[.slice a5_2 (dputS xd xo.2.2.1 xo.2.2.2).2.1.length c5_2, .map (some bmxd_1), .int .i64 (dputS xd xo.2.2.1 xo.2.2.2).2.2.2] 42), .own (.slice a5_2 (dputS xd xo.2.2.1 xo.2.2.2).2.1.length c5_2) 9 1 (dputS xd xo.2.2.1 xo.2.2.2).2.1.length xs5_2, .blk bmxd_1 (.map es5_5 ck5_5)] (by decide) rfl (.inl rfl) rfl (.cons (.cellAgg 3 4 #[.int .i64 (dputS xd xo.2.2.1 xo.2.2.2).1.1, sv ((dputS xd xo.2.2.1 xo.2.2.2).1.2.1), .bool (dputS xd xo.2.2.1 xo.2.2.2).1.2.2.1, .slice a5_0 (dputS xd xo.2.2.1 xo.2.2.2).1.2.2.2.length c5_0] rfl rfl Tryz.underlying30 rfl (by kernel_rfl) (by kernel_rfl) (by kernel_rfl)) .nil) hx5 ⟨(dputS xd xo.2.2.1 xo.2.2.2).1, (dputS xd xo.2.2.1 xo.2.2.2).2, a5_0, c5_0, a5_2, c5_2, xs5_2, es5_5, ck5_5, rfl, hR5_0, hL5_2, hM5_5, rfl, hF⟩
 ·replace hF := hF.2 hc3
  refine Ok.seq (Ok.region (Ok.bat 2 [0, 3, 4, 8] [(17, .bool (xo.1 == 2))] ?_))
  refine Ok.nil (Ok.thenN (Ok.cond (b := (xo.1 == 2)) rfl (fun hc6 => ?_) (fun hc6 => ?_)))
  ·replace hF := hF.1 hc6
   refine Ok.cut (fun a W => ∃ gj16 : Ghost, Gext w0 g gj16 ∧ ∃ (bs5 : Nat) (x6j16 : Bool) (ybs5_0j16 : Bs), StA 52 [(4, pv bs4 0), (5, pv bs5 0), (6, .bool x6j16)] a ∧ StW w0 [.blk bs5 (.cells #[sv ybs5_0j16] 61), .blk bs4 (.cells #[.int .i64 0, sv ([] : Bs), .bool false, .slice none 0 0] 30), .blk bxd (.cells #[.slice axd_0 xd.1.length cxd_0, .map (some bmxd_1), .int .i64 xd.2.2] 42), .own (.slice axd_0 xd.1.length cxd_0) 9 1 xd.1.length xsxd_0, .blk bmxd_1 (.map esxd_1 ckxd_1)] gj16 W ∧ ddoj16 xd K x6j16 ybs5_0j16) ?_ ?_
   ·
    refine Ok.mix [] [] [.blk bs4 (.cells #[.int .i64 0, sv ([] : Bs), .bool false, .slice none 0 0] 30), .blk bs3 (.cells #[.int .i64 xo.1, sv xo.2.1, sv xo.2.2.1, sv xo.2.2.2] 36), .blk bxd (.cells #[.slice axd_0 xd.1.length cxd_0, .map (some bmxd_1), .int .i64 xd.2.2] 42), .own (.slice axd_0 xd.1.length cxd_0) 9 1 xd.1.length xsxd_0, .blk bmxd_1 (.map esxd_1 ckxd_1)] [(0, true), (1, true), (2, true), (3, true), (4, true), (5, true), (6, true), (7, true), (8, true), (9, true), (10, false), (11, false), (12, true)] (by kernel_rfl) (by kernel_rfl) (.cons_cons _ (.cons_cons _ (.cons_cons _ (.cons_cons _ (.cons_cons _ .slnil))))) (OkM.bat 3 [3, 4] [(22, pv bxd 1)] ?_)
    refine OkM.head rfl rfl (show _ = [.blk bs4 (.cells #[.int .i64 0, sv ([] : Bs), .bool false, .slice none 0 0] 30), .blk bs3 (.cells #[.int .i64 xo.1, sv xo.2.1, sv xo.2.2.1, sv xo.2.2.2] 36), .blk bxd (.cells #[.slice axd_0 xd.1.length cxd_0, .map (some bmxd_1), .int .i64 xd.2.2] 42), .own (.slice axd_0 xd.1.length cxd_0) 9 1 xd.1.length xsxd_0, .blk bmxd_1 (.map esxd_1 ckxd_1)] from rfl) (OpQ.step (v := .map (some bmxd_1)) (Yields.load 2 rfl rfl Tryz.underlying40 rfl (by kernel_rfl)) rfl rfl (OkM.bat 1 [4] [(23, .map (some bmxd_1)), (24, pv bs3 2)] ?_))
    refine OkM.head rfl rfl (show _ = [.blk bs4 (.cells #[.int .i64 0, sv ([] : Bs), .bool false, .slice none 0 0] 30), .blk bs3 (.cells #[.int .i64 xo.1, sv xo.2.1, sv xo.2.2.1, sv xo.2.2.2] 36), .blk bxd (.cells #[.slice axd_0 xd.1.length cxd_0, .map (some bmxd_1), .int .i64 xd.2.2] 42), .own (.slice axd_0 xd.1.length cxd_0) 9 1 xd.1.length xsxd_0, .blk bmxd_1 (.map esxd_1 ckxd_1)] from rfl) (OpQ.step (v := sv xo.2.2.1) (Yields.load 1 rfl rfl Tryz.underlying9 rfl (by kernel_rfl)) rfl rfl ?_)
    cases hce7 : assocK xo.2.2.1 xd.2.1 with
    | some e7 =>
     replace hF := hF.1 e7 hce7
     refine OkM.head rfl rfl (show _ = [.blk bs4 (.cells #[.int .i64 0, sv ([] : Bs), .bool false, .slice none 0 0] 30), .blk bs3 (.cells #[.int .i64 xo.1, sv xo.2.1, sv xo.2.2.1, sv xo.2.2.2] 36), .blk bxd (.cells #[.slice axd_0 xd.1.length cxd_0, .map (some bmxd_1), .int .i64 xd.2.2] 42), .own (.slice axd_0 xd.1.length cxd_0) 9 1 xd.1.length xsxd_0, .blk bmxd_1 (.map esxd_1 ckxd_1)] from rfl) (OpQ.lookupSome (vt := .str) (row := true) keyStr 4 rfl hMxd_1.1 rfl rfl Tryz.underlying40 Tryz.underlying9 hce7 rfl fun v7 cs7 hvi7 hr7 u7 hu7 => ?_)
     obtain rfl := hr7
     have hvi7 : v7 = .agg #[sv e7] := hvi7
     subst hvi7
     have hu7 : u7 = .tuple #[.agg #[sv e7], .bool true] := hu7
     subst hu7
     refine OkM.bat 3 [4] [(27, .agg #[sv e7]), (28, .bool true)] ?_
     refine OkM.tail rfl rfl (OpOk.alloc (z := .agg #[sv ([] : Bs)]) (cs := #[sv ([] : Bs)]) (by kernel_rfl) (by kernel_rfl) rfl fun bs5 => ?_)
     refine OkM.leaf (i := 10) (show _ = [.blk bs4 (.cells #[.int .i64 0, sv ([] : Bs), .bool false, .slice none 0 0] 30), .blk bs3 (.cells #[.int .i64 xo.1, sv xo.2.1, sv xo.2.2.1, sv xo.2.2.2] 36), .blk bxd (.cells #[.slice axd_0 xd.1.length cxd_0, .map (some bmxd_1), .int .i64 xd.2.2] 42), .own (.slice axd_0 xd.1.length cxd_0) 9 1 xd.1.length xsxd_0, .blk bmxd_1 (.map esxd_1 ckxd_1)] from rfl) (Gle.refl _) (.cons _ (.cons_cons _ (.cons_cons _ (.cons_cons _ (.cons_cons _ (.cons_cons _ .slnil)))))) (OkM.tail rfl rfl (OpOk.sto (k := 1) (v := .agg #[sv e7]) 0 #[sv e7] rfl rfl rfl ?_))
     refine OkM.leaf (i := 11) (show _ = [.blk bs4 (.cells #[.int .i64 0, sv ([] : Bs), .bool false, .slice none 0 0] 30), .blk bs3 (.cells #[.int .i64 xo.1, sv xo.2.1, sv xo.2.2.1, sv xo.2.2.2] 36), .blk bxd (.cells #[.slice axd_0 xd.1.length cxd_0, .map (some bmxd_1), .int .i64 xd.2.2] 42), .own (.slice axd_0 xd.1.length cxd_0) 9 1 xd.1.length xsxd_0, .blk bmxd_1 (.map esxd_1 ckxd_1)] from rfl) (Gle.refl _) (.cons _ (.cons_cons _ (.cons_cons _ (.cons_cons _ (.cons_cons _ (.cons_cons _ .slnil)))))) (OkM.bat 1 [4] [(5, pv bs5 0), (6, .bool true)] ?_)
     refine OkM.nil (Ok.thenN ?_)
     exact fun a W hA hW => ⟨g, (Gext.refl w0 g), bs5, true, e7, hA.sub (by kernel_rfl), hW.sub (.cons_cons _ (.cons_cons _ (.cons _ (.cons_cons _ (.cons_cons _ (.cons_cons _ .slnil)))))), hF⟩
    | none =>
     replace hF := hF.2 hce7
     refine OkM.head rfl rfl (show _ = [.blk bs4 (.cells #[.int .i64 0, sv ([] : Bs), .bool false, .slice none 0 0] 30), .blk bs3 (.cells #[.int .i64 xo.1, sv xo.2.1, sv xo.2.2.1, sv xo.2.2.2] 36), .blk bxd (.cells #[.slice axd_0 xd.1.length cxd_0, .map (some bmxd_1), .int .i64 xd.2.2] 42), .own (.slice axd_0 xd.1.length cxd_0) 9 1 xd.1.length xsxd_0, .blk bmxd_1 (.map esxd_1 ckxd_1)] from rfl) (OpQ.lookupNone (vt := .str) (row := true) (z := .agg #[sv ([] : Bs)]) (u := .tuple #[.agg #[sv ([] : Bs)], .bool false]) keyStr 4 rfl hMxd_1.1 rfl rfl Tryz.underlying40 Tryz.underlying9 (by kernel_rfl) hce7 rfl rfl (OkM.bat 3 [4] [(27, .agg #[sv ([] : Bs)]), (28, .bool false)] ?_))
     refine OkM.tail rfl rfl (OpOk.alloc (z := .agg #[sv ([] : Bs)]) (cs := #[sv ([] : Bs)]) (by kernel_rfl) (by kernel_rfl) rfl fun bs5 => ?_)
     refine OkM.leaf (i := 10) (show _ = [.blk bs4 (.cells #[.int .i64 0, sv ([] : Bs), .bool false, .slice none 0 0] 30), .blk bs3 (.cells #[.int .i64 xo.1, sv xo.2.1, sv xo.2.2.1, sv xo.2.2.2] 36), .blk bxd (.cells #[.slice axd_0 xd.1.length cxd_0, .map (some bmxd_1), .int .i64 xd.2.2] 42), .own (.slice axd_0 xd.1.length cxd_0) 9 1 xd.1.length xsxd_0, .blk bmxd_1 (.map esxd_1 ckxd_1)] from rfl) (Gle.refl _) (.cons _ (.cons_cons _ (.cons_cons _ (.cons_cons _ (.cons_cons _ (.cons_cons _ .slnil)))))) (OkM.tail rfl rfl (OpOk.sto (k := 1) (v := .agg #[sv ([] : Bs)]) 0 #[sv ([] : Bs)] rfl rfl rfl ?_))
     refine OkM.leaf (i := 11) (show _ = [.blk bs4 (.cells #[.int .i64 0, sv ([] : Bs), .bool false, .slice none 0 0] 30), .blk bs3 (.cells #[.int .i64 xo.1, sv xo.2.1, sv xo.2.2.1, sv xo.2.2.2] 36), .blk bxd (.cells #[.slice axd_0 xd.1.length cxd_0, .map (some bmxd_1), .int .i64 xd.2.2] 42), .own (.slice axd_0 xd.1.length cxd_0) 9 1 xd.1.length xsxd_0, .blk bmxd_1 (.map esxd_1 ckxd_1)] from rfl) (Gle.refl _) (.cons _ (.cons_cons _ (.cons_cons _ (.cons_cons _ (.cons_cons _ (.cons_cons _ .slnil)))))) (OkM.bat 1 [4] [(5, pv bs5 0), (6, .bool false)] ?_)
     refine OkM.nil (Ok.thenN ?_)
     exact fun a W hA hW => ⟨g, (Gext.refl w0 g), bs5, false, ([] : Bs), hA.sub (by kernel_rfl), hW.sub (.cons_cons _ (.cons_cons _ (.cons _ (.cons_cons _ (.cons_cons _ (.cons_cons _ .slnil)))))), hF⟩
   ·
    clear hF
    rintro a W ⟨gj16, hxj16, bs5, x6j16, ybs5_0j16, hA, hW, hF⟩
    refine (?_ : Ok _ _ _ _ _ _) a W hA hW
    clear hA hW
    replace hLxd_0 := hLxd_0.mono hxj16.1
    replace hMxd_1 := hMxd_1.mono hxj16.1
    refine Ok.seq (Ok.region (Ok.bat 1 [4, 6] [(29, pv bs5 0)] ?_))
    refine Ok.op rfl (OpOk.step (v := sv ybs5_0j16) (Yields.load 0 rfl rfl Tryz.underlying9 rfl (by kernel_rfl)) rfl rfl (Ok.bat 2 [4] [(32, .agg #[.int .i64 0, sv ybs5_0j16, .bool x6j16, .slice none 0 0])] ?_))
    refine Ok.op rfl (OpOk.sto (k := 4) (v := .agg #[.int .i64 0, sv ybs5_0j16, .bool x6j16, .slice none 0 0]) 1 #[.int .i64 0, sv ybs5_0j16, .bool x6j16, .slice none 0 0] rfl rfl rfl ?_)
    refine Ok.nil (Ok.thenN (Ok.ret (Ok.blockR (Ok.thenR ?_))))
    exact Ok.resP (vs := [.agg #[.int .i64 0, sv ybs5_0j16, .bool x6j16, .slice none 0 0]]) [2, 3, 4] [.blk bxd (.cells #[.slice axd_0 xd.1.length cxd_0, .map (some bmxd_1), .int .i64 xd.2.2] 42), .own (.slice axd_0 xd.1.length cxd_0) 9 1 xd.1.length xsxd_0, .blk bmxd_1 (.map esxd_1 ckxd_1)] (by decide) rfl (.inl rfl) rfl (.cons (.cellAgg 1 4 #[.int .i64 0, sv ybs5_0j16, .bool x6j16, .slice none 0 0] rfl rfl Tryz.underlying30 rfl (by kernel_rfl) (by kernel_rfl) (by kernel_rfl)) .nil) hxj16 ⟨(0, ybs5_0j16, x6j16, []), xd, none, 0, axd_0, cxd_0, xsxd_0, esxd_1, ckxd_1, rfl, Rep.nil, hLxd_0, hMxd_1, rfl, hF⟩
  ·replace hF := hF.2 hc6
   refine Ok.seq (Ok.region (Ok.bat 2 [0, 3, 4, 8] [(33, .bool (xo.1 == 3))] ?_))
   refine Ok.nil (Ok.thenN (Ok.cond (b := (xo.1 == 3)) rfl (fun hc10 => ?_) (fun hc10 => ?_)))
   ·replace hF := hF.1 hc10
    refine Ok.seq (Ok.region (Ok.bat 2 [4] [(35, pv bxd 0), (36, pv bs3 2)] ?_))
    refine Ok.op rfl (OpOk.step (v := sv xo.2.2.1) (Yields.load 1 rfl rfl Tryz.underlying9 rfl (by kernel_rfl)) rfl rfl ?_)
    obtain ⟨hp11, hF⟩ := hF
    refine Ok.entries [2, 3, 4, 0, 1] [.blk bxd (.cells #[.slice axd_0 xd.1.length cxd_0, .map (some bmxd_1), .int .i64 xd.2.2] 42), .own (.slice axd_0 xd.1.length cxd_0) 9 1 xd.1.length xsxd_0, .blk bmxd_1 (.map esxd_1 ckxd_1), .blk bs4 (.cells #[.int .i64 0, sv ([] : Bs), .bool false, .slice none 0 0] 30), .blk bs3 (.cells #[.int .i64 xo.1, sv xo.2.1, sv xo.2.2.1, sv xo.2.2.2] 36)] (by decide) rfl (Ok.op rfl (OpOk.callH [_, _, _] _ enr rfl (ddrp_c xd xo.2.2.1 hLxd_0 hMxd_1 hp11) rfl fun g12 _ _ hx12 hV12 => ?_))
    obtain ⟨a12_0, c12_0, a12_2, c12_2, xs12_2, es12_5, ck12_5, rfl, hR12_0, hL12_2, hM12_5, rfl⟩ := hV12
    refine Ok.op rfl (OpOk.sto (k := 4) (v := .agg #[.int .i64 (ddrpS xd xo.2.2.1).1.1, sv ((ddrpS xd xo.2.2.1).1.2.1), .bool (ddrpS xd xo.2.2.1).1.2.2.1, .slice a12_0 (ddrpS xd xo.2.2.1).1.2.2.2.length c12_0]) 3 #[.int .i64 (ddrpS xd xo.2.2.1).1.1, sv ((ddrpS xd xo.2.2.1).1.2.1), .bool (ddrpS xd xo.2.2.1).1.2.2.1, .slice a12_0 (ddrpS xd xo.2.2.1).1.2.2.2.length c12_0] rfl rfl rfl ?_)
    refine Ok.nil (Ok.thenN (Ok.ret (Ok.blockR (Ok.thenR ?_))))
    exact Ok.resP (vs := [.agg #[.int .i64 (ddrpS xd xo.2.2.1).1.1, sv ((ddrpS xd xo.2.2.1).1.2.1), .bool (ddrpS xd xo.2.2.1).1.2.2.1, .slice a12_0 (ddrpS xd xo.2.2.1).1.2.2.2.length c12_0]]) [0, 1, 2] [.blk bxd (.cells #[.slice a12_2 (ddrpS xd xo.2.2.1).2.1.length c12_2, .map (some bmxd_1), .int .i64 (ddrpS xd xo.2.2.1).2.2.2] 42), .own (.slice a12_2 (ddrpS xd xo.2.2.1).2.1.length c12_2) 9 1 (ddrpS xd xo.2.2.1).2.1.length xs12_2, .blk bmxd_1 (.map es12_5 ck12_5)] (by decide) rfl (.inl rfl) rfl (.cons (.cellAgg 3 4 #[.int .i64 (ddrpS xd xo.2.2.1).1.1, sv ((ddrpS xd xo.2.2.1).1.2.1), .bool (ddrpS xd xo.2.2.1).1.2.2.1, .slice a12_0 (ddrpS xd xo.2.2.1).1.2.2.2.length c12_0] rfl rfl Tryz.underlying30 rfl (by kernel_rfl) (by kernel_rfl) (by kernel_rfl)) .nil) hx12 ⟨(ddrpS xd xo.2.2.1).1, (ddrpS xd xo.2.2.1).2, a12_0, c12_0, a12_2, c12_2, xs12_2, es12_5, ck12_5, rfl, hR12_0, hL12_2, hM12_5, rfl, hF⟩
   ·replace hF := hF.2 hc10
    refine Ok.seq (Ok.region (Ok.bat 2 [0, 4, 8] [(39, .bool (xo.1 == 4))] ?_))
    refine Ok.nil (Ok.thenN (Ok.cond (b := (xo.1 == 4)) rfl (fun hc13 => ?_) (fun hc13 => ?_)))
    ·replace hF := hF.1 hc13
     refine Ok.seq (Ok.region (Ok.bat 1 [4] [(41, pv bxd 0)] ?_))
     refine Ok.entries [2, 3, 4, 0, 1] [.blk bxd (.cells #[.slice axd_0 xd.1.length cxd_0, .map (some bmxd_1), .int .i64 xd.2.2] 42), .own (.slice axd_0 xd.1.length cxd_0) 9 1 xd.1.length xsxd_0, .blk bmxd_1 (.map esxd_1 ckxd_1), .blk bs4 (.cells #[.int .i64 0, sv ([] : Bs), .bool false, .slice none 0 0] 30), .blk bs3 (.cells #[.int .i64 xo.1, sv xo.2.1, sv xo.2.2.1, sv xo.2.2.2] 36)] (by decide) rfl (Ok.op rfl (OpOk.callH [_, _, _] _ enr rfl (demp_c xd hLxd_0 hMxd_1) rfl fun g14 _ _ hx14 hV14 => ?_))
     obtain ⟨a14_0, c14_0, a14_2, c14_2, xs14_2, es14_5, ck14_5, rfl, hR14_0, hL14_2, hM14_5, rfl⟩ := hV14
     refine Ok.op rfl (OpOk.sto (k := 4) (v := .agg #[.int .i64 (dempS xd).1.1, sv ((dempS xd).1.2.1), .bool (dempS xd).1.2.2.1, .slice a14_0 (dempS xd).1.2.2.2.length c14_0]) 3 #[.int .i64 (dempS xd).1.1, sv ((dempS xd).1.2.1), .bool (dempS xd).1.2.2.1, .slice a14_0 (dempS xd).1.2.2.2.length c14_0] rfl rfl rfl ?_)
     refine Ok.nil (Ok.thenN (Ok.ret (Ok.blockR (Ok.thenR ?_))))
     exact Ok.resP (vs := [.agg #[.int .i64 (dempS xd).1.1, sv ((dempS xd).1.2.1), .bool (dempS xd).1.2.2.1, .slice a14_0 (dempS xd).1.2.2.2.length c14_0]]) [0, 1, 2] [.blk bxd (.cells #[.slice a14_2 (dempS xd).2.1.length c14_2, .map (some bmxd_1), .int .i64 (dempS xd).2.2.2] 42), .own (.slice a14_2 (dempS xd).2.1.length c14_2) 9 1 (dempS xd).2.1.length xs14_2, .blk bmxd_1 (.map es14_5 ck14_5)] (by decide) rfl (.inl rfl) rfl (.cons (.cellAgg 3 4 #[.int .i64 (dempS xd).1.1, sv ((dempS xd).1.2.1), .bool (dempS xd).1.2.2.1, .slice a14_0 (dempS xd).1.2.2.2.length c14_0] rfl rfl Tryz.underlying30 rfl (by kernel_rfl) (by kernel_rfl) (by kernel_rfl)) .nil) hx14 ⟨(dempS xd).1, (dempS xd).2, a14_0, c14_0, a14_2, c14_2, xs14_2, es14_5, ck14_5, rfl, hR14_0, hL14_2, hM14_5, rfl, hF⟩
    ·replace hF := hF.2 hc13
     refine Ok.seq (Ok.region (Ok.bat 2 [0, 4] [(43, .bool (xo.1 == 5))] ?_))
     refine Ok.nil (Ok.thenN (Ok.cond (b := (xo.1 == 5)) rfl (fun hc15 => ?_) (fun hc15 => ?_)))
     ·replace hF := hF.1 hc15
      refine Ok.seq (Ok.region (Ok.bat 3 [4] [(47, pv bxd 0)] ?_))
      refine Ok.op rfl (OpOk.step (v := .slice axd_0 xd.1.length cxd_0) (Yields.load 2 rfl rfl Tryz.underlying28 rfl (by kernel_rfl)) rfl rfl ?_)
      obtain ⟨hp16, hF⟩ := hF
      refine Ok.op rfl (OpOk.callSee enr (fun W hW => dcl_c xd.1 (hW.seeOwn 3 rfl hLxd_0) hp16) rfl fun g17 _ _ _ hx17 hV17 => ?_)
      obtain ⟨a17_0, c17_0, xs17_0, rfl, hL17_0, rfl⟩ := hV17
      replace hL17_0 := RepL.any (g' := g17) rfl hL17_0
      replace hLxd_0 := hLxd_0.mono hx17.1
      replace hMxd_1 := hMxd_1.mono hx17.1
      refine Ok.bat 1 [4] [(50, .agg #[.int .i64 0, sv ([] : Bs), .bool false, .slice a17_0 (dclS xd.1).length c17_0])] ?_
      refine Ok.op rfl (OpOk.sto (k := 4) (v := .agg #[.int .i64 0, sv ([] : Bs), .bool false, .slice a17_0 (dclS xd.1).length c17_0]) 1 #[.int .i64 0, sv ([] : Bs), .bool false, .slice a17_0 (dclS xd.1).length c17_0] rfl rfl rfl ?_)
      refine Ok.nil (Ok.thenN (Ok.ret (Ok.blockR (Ok.thenR (Ok.frz 0 rfl hL17_0 fun g18 hx18 hRf18 => ?_)))))
      replace hLxd_0 := hLxd_0.mono hx18.1
      replace hMxd_1 := hMxd_1.mono hx18.1
      exact Ok.resP (vs := [.agg #[.int .i64 0, sv ([] : Bs), .bool false, .slice a17_0 (dclS xd.1).length c17_0]]) [2, 3, 4] [.blk bxd (.cells #[.slice axd_0 xd.1.length cxd_0, .map (some bmxd_1), .int .i64 xd.2.2] 42), .own (.slice axd_0 xd.1.length cxd_0) 9 1 xd.1.length xsxd_0, .blk bmxd_1 (.map esxd_1 ckxd_1)] (by decide) rfl (.inl rfl) rfl (.cons (.cellAgg 0 4 #[.int .i64 0, sv ([] : Bs), .bool false, .slice a17_0 (dclS xd.1).length c17_0] rfl rfl Tryz.underlying30 rfl (by kernel_rfl) (by kernel_rfl) (by kernel_rfl)) .nil) (hx17.trans hx18) ⟨(0, ([] : Bs), false, (dclS xd.1)), xd, a17_0, c17_0, axd_0, cxd_0, xsxd_0, esxd_1, ckxd_1, rfl, hRf18, hLxd_0, hMxd_1, rfl, hF⟩
     ·replace hF := hF.2 hc15
      refine Ok.skip (Ok.blockN (Ok.thenN (Ok.seq (Ok.region (Ok.bat 1 [4] [(51, .agg #[.int .i64 1, sv ([] : Bs), .bool false, .slice none 0 0])] ?_)))))
      refine Ok.op rfl (OpOk.sto (k := 4) (v := .agg #[.int .i64 1, sv ([] : Bs), .bool false, .slice none 0 0]) 0 #[.int .i64 1, sv ([] : Bs), .bool false, .slice none 0 0] rfl rfl rfl ?_)
      refine Ok.nil (Ok.thenN (Ok.ret ?_))
      exact Ok.resP (vs := [.agg #[.int .i64 1, sv ([] : Bs), .bool false, .slice none 0 0]]) [2, 3, 4] [.blk bxd (.cells #[.slice axd_0 xd.1.length cxd_0, .map (some bmxd_1), .int .i64 xd.2.2] 42), .own (.slice axd_0 xd.1.length cxd_0) 9 1 xd.1.length xsxd_0, .blk bmxd_1 (.map esxd_1 ckxd_1)] (by decide) rfl (.inl rfl) rfl (.cons (.cellAgg 0 4 #[.int .i64 1, sv ([] : Bs), .bool false, .slice none 0 0] rfl rfl Tryz.underlying30 rfl (by kernel_rfl) (by kernel_rfl) (by kernel_rfl)) .nil) (Gext.refl w0 g) ⟨(1, ([] : Bs), false, []), xd, none, 0, axd_0, cxd_0, xsxd_0, esxd_1, ckxd_1, rfl, Rep.nil, hLxd_0, hMxd_1, rfl, hF⟩
abbrev OP := Int × Bt × Bt × Bt
def ddoS (d : DR) (o : OP) : AN × DR := if (o.1 == 1) = true then dputS d o.2.2.1 o.2.2.2 else if (o.1 == 2) = true then ((0, (assocK o.2.2.1 d.2.1).getD [], (assocK o.2.2.1 d.2.1).isSome, []), d) else if (o.1 == 3) = true then ddrpS d o.2.2.1 else if (o.1 == 4) = true then dempS d else if (o.1 == 5) = true then ((0, [], false, d.1), d) else ((1, [], false, []), d)
def ddoP (d : DR) (o : OP) : Prop := drP d ∧ txP o.2.2.1 ∧ txP o.2.2.2
theorem ddo_F (d : DR) (o : OP) (hp : ddoP d o) : ddoF d o (fun a b => (a, b) = ddoS d o) := by
 obtain ⟨h1, h2, h3⟩ := hp
 unfold ddoS
 refine ⟨fun h => ⟨⟨h1, h2, h3⟩, by rw [if_pos h]⟩, fun k1 => ⟨fun h => ?_, fun k2 => ⟨fun h => ⟨⟨h1, h2⟩, ?_⟩, fun k3 => ⟨fun h => ?_, fun k4 => ⟨fun h => ⟨?_, ?_⟩, fun k5 => ?_⟩⟩⟩⟩⟩
 ·rw [k1, if_neg (by decide), if_pos h]
  refine ⟨fun w hw => ?_, fun hw => ?_⟩ <;> (unfold ddoj16; rw [hw]; rfl)
 ·rw [k1, if_neg (by decide), k2, if_neg (by decide), if_pos h]
 ·rw [k1, if_neg (by decide), k2, if_neg (by decide), k3, if_neg (by decide), if_pos h]
 ·unfold dclP; have := h1.1; omega
 ·rw [k1, if_neg (by decide), k2, if_neg (by decide), k3, if_neg (by decide), k4, if_neg (by decide), if_pos h]; rfl
 ·rw [k1, if_neg (by decide), k2, if_neg (by decide), k3, if_neg (by decide), k4, if_neg (by decide), k5, if_neg (by decide)]
theorem ddo_c {g : Ghost} {bxd : Nat} {axd_0 : Option Addr} {cxd_0 : Nat} {xsxd_0 : List Value} {bmxd_1 : Nat} {esxd_1 : Array MapEntry} {ckxd_1 : Nat} (xd : List Bs × (List (Bs × Bs)) × Int) (xo : Int × Bs × Bs × Bs) (hLxd_0 : RepL g (.str) xsxd_0 xd.1) (hMxd_1 : RepMapA g (.str) true (fun k : Bs => Value.string ⟨⟨k⟩⟩) esxd_1 ckxd_1 xd.2.1)  (hp : ddoP xd xo) : CallsH Tryz.prog 9 #[pv bxd 0, .agg #[.int .i64 xo.1, sv xo.2.1, sv xo.2.2.1, sv xo.2.2.2]] g [.blk bxd (.cells #[.slice axd_0 xd.1.length cxd_0, .map (some bmxd_1), .int .i64 xd.2.2] 42), .own (.slice axd_0 xd.1.length cxd_0) 9 1 xd.1.length xsxd_0, .blk bmxd_1 (.map esxd_1 ckxd_1)] (fun g' H' v => ∃ (ar0_0 : Option Addr) (cr0_0 : Nat), ∃ (afxd_0 : Option Addr) (cfxd_0 : Nat) (xsfxd_0 : List Value), ∃ (esfxd_1 : Array MapEntry) (ckfxd_1 : Nat), v = .agg #[.int .i64 (ddoS xd xo).1.1, sv ((ddoS xd xo).1.2.1), .bool (ddoS xd xo).1.2.2.1, .slice ar0_0 (ddoS xd xo).1.2.2.2.length cr0_0] ∧ Rep g' (.slice (.str)) [.slice ar0_0 (ddoS xd xo).1.2.2.2.length cr0_0] (ddoS xd xo).1.2.2.2 ∧ RepL g' (.str) xsfxd_0 (ddoS xd xo).2.1 ∧ RepMapA g' (.str) true (fun k : Bs => Value.string ⟨⟨k⟩⟩) esfxd_1 ckfxd_1 (ddoS xd xo).2.2.1 ∧ H' = [.blk bxd (.cells #[.slice afxd_0 (ddoS xd xo).2.1.length cfxd_0, .map (some bmxd_1), .int .i64 (ddoS xd xo).2.2.2] 42), .own (.slice afxd_0 (ddoS xd xo).2.1.length cfxd_0) 9 1 (ddoS xd xo).2.1.length xsfxd_0, .blk bmxd_1 (.map esfxd_1 ckfxd_1)]) :=
 (ddo_ok xd xo hLxd_0 hMxd_1 _ (ddo_F xd xo hp)).mono (by rintro g' H' v _ ⟨r0, fxd, ar0_0, cr0_0, afxd_0, cfxd_0, xsfxd_0, esfxd_1, ckfxd_1, rfl, hRr0_0, hLfxd_0, hMfxd_1, rfl, hK⟩; obtain ⟨rfl, rfl⟩ : r0 = (ddoS xd xo).1 ∧ fxd = (ddoS xd xo).2 := ⟨congrArg (fun z => z.1) hK, congrArg (fun z => z.2) hK⟩; exact ⟨ar0_0, cr0_0, afxd_0, cfxd_0, xsfxd_0, esfxd_1, ckfxd_1, rfl, hRr0_0, hLfxd_0, hMfxd_1, rfl⟩)
end
end Go.Proofs.YtdjcgbejnpbjlaaGreatDoor.Sd
