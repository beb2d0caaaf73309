/- A stable sort, as the library has it: the walks. -/
import Derived.Test.YtjkimpnppldekaaFrk
import Derived.Test.YtjkimpnppldekaaTnl
import Derived.Test.YtjkimpnppldekaaMor
import Derived.Test.YtjkimpnppldekaaProg
import Derived.Test.YtjkimpnppldekaaStb
import Derived.Test.YtjkimpnppldekaaPl
namespace Go.Proofs.Ytjkimpnppldekaa.So
open Go Go.Eng Go.RowKit
set_option linter.unusedVariables false
def sswl4b (xa : Int) (xb : Int) (xn : Int) (K : (List (Int)) → Prop) (x10l4 : Int) (yown_xdata_0l4 : List (Int)) (C4 : Int → (List (Int)) → Prop) : Prop :=
  ((decide (x10l4 < xn)) = true → (0 : Int) ≤ (IntKind.wrap .i64 (xb + x10l4)) ∧ Int.toNat (IntKind.wrap .i64 (xb + x10l4)) < yown_xdata_0l4.length ∧ (0 : Int) ≤ (IntKind.wrap .i64 (xa + x10l4)) ∧ Int.toNat (IntKind.wrap .i64 (xa + x10l4)) < yown_xdata_0l4.length ∧ (0 : Int) ≤ (IntKind.wrap .i64 (xb + x10l4)) ∧ Int.toNat (IntKind.wrap .i64 (xb + x10l4)) < (yown_xdata_0l4.set (Int.toNat (IntKind.wrap .i64 (xa + x10l4))) (yown_xdata_0l4.getD (Int.toNat (IntKind.wrap .i64 (xb + x10l4))) default)).length ∧ C4 (IntKind.wrap .i64 (x10l4 + 1)) ((yown_xdata_0l4.set (Int.toNat (IntKind.wrap .i64 (xa + x10l4))) (yown_xdata_0l4.getD (Int.toNat (IntKind.wrap .i64 (xb + x10l4))) default)).set (Int.toNat (IntKind.wrap .i64 (xb + x10l4))) (yown_xdata_0l4.getD (Int.toNat (IntKind.wrap .i64 (xa + x10l4))) default))) ∧ ((decide (x10l4 < xn)) = false → K yown_xdata_0l4)
def sswl4 (xa : Int) (xb : Int) (xn : Int) (K : (List (Int)) → Prop) : Nat → Int → (List (Int)) → Prop
  | 0, _, _ => False
  | k + 1, x10l4, yown_xdata_0l4 => sswl4b xa xb xn K x10l4 yown_xdata_0l4 (sswl4 xa xb xn K k)
def sswF (xdata : List (Int)) (xa : Int) (xb : Int) (xn : Int) (xcmp : Int → Int → Int) (pxcmp : Int → Int → Prop) (K : (List (Int)) → Prop) : Prop :=
  ∃ k, sswl4 xa xb xn K k 0 xdata
set_option maxHeartbeats 4000000 in
set_option maxRecDepth 100000 in
set_option linter.unusedVariables false in
theorem ssw_ok {g : Ghost} {axdata : Option Addr} {cxdata : Nat} {xsxdata : List Value} (xdata : List (Int)) (xa : Int) (xb : Int) (xn : Int) {vxcmp : Value} (xcmp : Int → Int → Int) (pxcmp : Int → Int → Prop) (hLxdata : RepL g (.int .i64) xsxdata xdata) (hfxcmp : ∀ (y0 : Int) (y1 : Int), pxcmp y0 y1 → FnG Try.prog vxcmp #[.int .i64 y0, .int .i64 y1] g (.int .i64 (xcmp y0 y1))) (K : (List (Int)) → Prop)
    (hF : sswF xdata xa xb xn xcmp pxcmp K) : CallsH Try.prog 21 #[.slice axdata xdata.length cxdata, .int .i64 xa, .int .i64 xb, .int .i64 xn, vxcmp] g [.own (.slice axdata xdata.length cxdata) 3 1 xdata.length xsxdata] (fun g' H' v => ∃ (fxdata : List (Int)), ∃ (xsfxdata : List Value), v = .tuple #[] ∧ RepL g' (.int .i64) xsfxdata fxdata ∧ H' = [.own (.slice axdata fxdata.length cxdata) 3 1 fxdata.length xsfxdata] ∧ fxdata.length = xdata.length ∧ K fxdata) := by
  refine CallsH.enter 38 [(0, .slice axdata xdata.length cxdata), (1, .int .i64 xa), (2, .int .i64 xb), (3, .int .i64 xn), (4, vxcmp)] Try.func21 rfl (by kernel_rfl) (by kernel_rfl) (by kernel_rfl) fun w0 => ?_
  refine Ok.seq ?_
  refine Ok.region ?_
  refine Ok.batch 1 [(0, .slice axdata xdata.length cxdata), (1, .int .i64 xa), (2, .int .i64 xb), (3, .int .i64 xn), (10, .int .i64 0)] (by kernel_rfl) ?_
  refine Ok.nil ?_
  refine Ok.thenN ?_
  refine Ok.block ?_
  obtain ⟨k, hF⟩ := hF
  refine Ok.loop (fun k a W => ∃ gl4 : Ghost, Gext w0 g gl4 ∧ ∃ (x10l4 : Int) (yown_xdata_0l4 : List (Int)) (xsyown_xdata_0l4 : List Value), RepL gl4 (.int .i64) xsyown_xdata_0l4 yown_xdata_0l4 ∧ yown_xdata_0l4.length = xdata.length ∧ StA 38 [(0, .slice axdata yown_xdata_0l4.length cxdata), (1, .int .i64 xa), (2, .int .i64 xb), (3, .int .i64 xn), (10, .int .i64 x10l4)] a ∧ StW w0 [.own (.slice axdata yown_xdata_0l4.length cxdata) 3 1 yown_xdata_0l4.length xsyown_xdata_0l4] gl4 W ∧ sswl4 xa xb xn K k x10l4 yown_xdata_0l4) k ?_ ?_
  ·
    exact fun a W hA hW => ⟨g, (Gext.refl w0 g), 0, xdata, xsxdata, hLxdata, rfl, hA.sub (by kernel_rfl), hW, hF⟩
  ·
    clear hF
    rintro k4 a W ⟨gl4, hxl4, x10l4, yown_xdata_0l4, xsyown_xdata_0l4, hLyown_xdata_0l4, hnyown_xdata_0l4, hA, hW, hF⟩
    cases k4 with
    | zero => exact (hF : False).elim
    | succ k4 =>
      refine (?_ : Ok _ _ _ _ _ _) a W hA hW
      clear hA hW
      replace hfxcmp := (fun y0 y1 hp => (hfxcmp y0 y1 hp).mono hxl4.1)
      refine Ok.seq ?_
      refine Ok.seq ?_
      refine Ok.region ?_
      refine Ok.batch 3 [(0, .slice axdata yown_xdata_0l4.length cxdata), (1, .int .i64 xa), (2, .int .i64 xb), (3, .int .i64 xn), (10, .int .i64 x10l4), (13, .bool (decide (x10l4 < xn)))] (by kernel_rfl) ?_
      refine Ok.nil ?_
      refine Ok.thenN ?_
      refine Ok.cond (b := decide (x10l4 < xn)) rfl (fun hc1 => ?_) (fun hc1 => ?_)
      · replace hF := hF.1 hc1
        refine Ok.skip ?_
        refine Ok.thenN ?_
        refine Ok.seq ?_
        refine Ok.block ?_
        refine Ok.mix [0, 1, 2, 3, 8, 9, 10, 11, 12, 13, 14, 17, 18, 19, 20] [] [] [(0, true), (1, true), (2, true), (3, true), (4, true), (5, true), (6, true), (7, true), (8, true), (9, true), (10, true), (11, true), (12, true), (13, true), (14, true), (15, true), (16, true), (17, true), (18, true), (19, true), (20, true), (21, false), (22, false), (23, false)] (by kernel_rfl) (by kernel_rfl) (.cons _ .slnil) ?_
        refine OkM.batch 12 [(0, .slice axdata yown_xdata_0l4.length cxdata), (1, .int .i64 xa), (2, .int .i64 xb), (3, .int .i64 xn), (10, .int .i64 x10l4), (16, .slice axdata yown_xdata_0l4.length cxdata), (19, .int .i64 (IntKind.wrap .i64 (xa + x10l4))), (20, .slice axdata yown_xdata_0l4.length cxdata), (23, .int .i64 (IntKind.wrap .i64 (xb + x10l4))), (24, .slice axdata yown_xdata_0l4.length cxdata), (27, .int .i64 (IntKind.wrap .i64 (xb + x10l4)))] (by kernel_rfl) ?_
        obtain ⟨h03, h13, hF⟩ := hF
        have he3 := get_of (l := yown_xdata_0l4) (default : Int) h13
        generalize hg3 : (yown_xdata_0l4.getD (Int.toNat (IntKind.wrap .i64 (xb + x10l4))) default) = e3 at he3 hF ⊢
        refine OkM.head rfl rfl (show _ = [.own (.slice axdata yown_xdata_0l4.length cxdata) 3 1 yown_xdata_0l4.length xsyown_xdata_0l4] from rfl) (OpQ.indexOwn (e := .int .i64) (q := IntKind.wrap .i64 (xb + x10l4)) (el := e3) 0 rfl hLyown_xdata_0l4 rfl rfl Try.underlying24 (by kernel_rfl) (by kernel_rfl) h03 he3 rfl fun cs2 _ hr2 hc2 => ?_)
        obtain rfl := hr2
        replace hc2 : ∀ j v, ([.int .i64 e3] : List Value)[j]? = some v → xsyown_xdata_0l4[Int.toNat (IntKind.wrap .i64 (xb + x10l4)) * 1 + j]? = some v := hc2
        refine OkM.head rfl rfl (show _ = [.own (.slice axdata yown_xdata_0l4.length cxdata) 3 1 yown_xdata_0l4.length xsyown_xdata_0l4] from rfl) (OpQ.step (v := .int .i64 e3) (Yields.loadOwn 0 0 rfl hc2 rfl Try.underlying3 rfl (by kernel_rfl)) rfl rfl ?_)
        refine OkM.batch 4 [(0, .slice axdata yown_xdata_0l4.length cxdata), (1, .int .i64 xa), (2, .int .i64 xb), (3, .int .i64 xn), (10, .int .i64 x10l4), (16, .slice axdata yown_xdata_0l4.length cxdata), (19, .int .i64 (IntKind.wrap .i64 (xa + x10l4))), (20, .slice axdata yown_xdata_0l4.length cxdata), (23, .int .i64 (IntKind.wrap .i64 (xb + x10l4))), (29, .int .i64 e3), (30, .slice axdata yown_xdata_0l4.length cxdata), (33, .int .i64 (IntKind.wrap .i64 (xa + x10l4)))] (by kernel_rfl) ?_
        obtain ⟨h05, h15, hF⟩ := hF
        have he5 := get_of (l := yown_xdata_0l4) (default : Int) h15
        generalize hg5 : (yown_xdata_0l4.getD (Int.toNat (IntKind.wrap .i64 (xa + x10l4))) default) = e5 at he5 hF ⊢
        refine OkM.head rfl rfl (show _ = [.own (.slice axdata yown_xdata_0l4.length cxdata) 3 1 yown_xdata_0l4.length xsyown_xdata_0l4] from rfl) (OpQ.indexOwn (e := .int .i64) (q := IntKind.wrap .i64 (xa + x10l4)) (el := e5) 0 rfl hLyown_xdata_0l4 rfl rfl Try.underlying24 (by kernel_rfl) (by kernel_rfl) h05 he5 rfl fun cs4 _ hr4 hc4 => ?_)
        obtain rfl := hr4
        replace hc4 : ∀ j v, ([.int .i64 e5] : List Value)[j]? = some v → xsyown_xdata_0l4[Int.toNat (IntKind.wrap .i64 (xa + x10l4)) * 1 + j]? = some v := hc4
        refine OkM.head rfl rfl (show _ = [.own (.slice axdata yown_xdata_0l4.length cxdata) 3 1 yown_xdata_0l4.length xsyown_xdata_0l4] from rfl) (OpQ.step (v := .int .i64 e5) (Yields.loadOwn 0 0 rfl hc4 rfl Try.underlying3 rfl (by kernel_rfl)) rfl rfl ?_)
        refine OkM.head rfl rfl (show _ = [.own (.slice axdata yown_xdata_0l4.length cxdata) 3 1 yown_xdata_0l4.length xsyown_xdata_0l4] from rfl) (OpQ.indexOwn (e := .int .i64) (q := IntKind.wrap .i64 (xa + x10l4)) (el := e5) 0 rfl hLyown_xdata_0l4 rfl rfl Try.underlying24 (by kernel_rfl) (by kernel_rfl) h05 he5 rfl fun cs6 _ hr6 hc6 => ?_)
        obtain rfl := hr6
        replace hc6 : ∀ j v, ([.int .i64 e5] : List Value)[j]? = some v → xsyown_xdata_0l4[Int.toNat (IntKind.wrap .i64 (xa + x10l4)) * 1 + j]? = some v := hc6
        refine OkM.tail rfl rfl (OpOk.storeOwn (e := .int .i64) (q := Int.toNat (IntKind.wrap .i64 (xa + x10l4))) (cells := [.int .i64 e5]) (vs := [.int .i64 e3]) (el' := e3) 0 0 1 rfl hLyown_xdata_0l4 hc6 (by kernel_rfl) rfl rfl rfl (by kernel_rfl) (by kernel_rfl) (by kernel_rfl) (by kernel_rfl) (by kernel_rfl) (show Rep _ _ [.int .i64 e3] _ from rfl) fun xs7 hL7 => ?_)
        rw [show yown_xdata_0l4.length = (yown_xdata_0l4.set (Int.toNat (IntKind.wrap .i64 (xa + x10l4))) e3).length from (List.length_set ..).symm]
        refine OkM.leaf (i := 21) (show _ = [] from rfl) (Gle.refl _) (.cons _ .slnil) ?_
        obtain ⟨h09, h19, hF⟩ := hF
        have he9 := get_of (l := (yown_xdata_0l4.set (Int.toNat (IntKind.wrap .i64 (xa + x10l4))) e3)) (default : Int) h19
        generalize hg9 : ((yown_xdata_0l4.set (Int.toNat (IntKind.wrap .i64 (xa + x10l4))) e3).getD (Int.toNat (IntKind.wrap .i64 (xb + x10l4))) default) = e9 at he9 hF ⊢
        refine OkM.tail rfl rfl (OpOk.indexOwn (e := .int .i64) (q := IntKind.wrap .i64 (xb + x10l4)) (el := e9) 0 rfl hL7 rfl rfl Try.underlying24 (by kernel_rfl) (by kernel_rfl) h09 he9 rfl fun cs8 _ hr8 hc8 => ?_)
        obtain rfl := hr8
        replace hc8 : ∀ j v, ([.int .i64 e9] : List Value)[j]? = some v → xs7[Int.toNat (IntKind.wrap .i64 (xb + x10l4)) * 1 + j]? = some v := hc8
        refine OkM.leaf (i := 22) (show _ = [] from rfl) (Gle.refl _) (.cons _ .slnil) ?_
        refine OkM.tail rfl rfl (OpOk.storeOwn (e := .int .i64) (q := Int.toNat (IntKind.wrap .i64 (xb + x10l4))) (cells := [.int .i64 e9]) (vs := [.int .i64 e5]) (el' := e5) 0 0 1 rfl hL7 hc8 (by kernel_rfl) rfl rfl rfl (by kernel_rfl) (by kernel_rfl) (by kernel_rfl) (by kernel_rfl) (by kernel_rfl) (show Rep _ _ [.int .i64 e5] _ from rfl) fun xs10 hL10 => ?_)
        rw [show (yown_xdata_0l4.set (Int.toNat (IntKind.wrap .i64 (xa + x10l4))) e3).length = ((yown_xdata_0l4.set (Int.toNat (IntKind.wrap .i64 (xa + x10l4))) e3).set (Int.toNat (IntKind.wrap .i64 (xb + x10l4))) e5).length from (List.length_set ..).symm]
        refine OkM.leaf (i := 23) (show _ = [] from rfl) (Gle.refl _) (.cons _ .slnil) ?_
        refine OkM.nil ?_
        refine Ok.blockN ?_
        refine Ok.thenN ?_
        refine Ok.region ?_
        refine Ok.batch 3 [(0, .slice axdata ((yown_xdata_0l4.set (Int.toNat (IntKind.wrap .i64 (xa + x10l4))) e3).set (Int.toNat (IntKind.wrap .i64 (xb + x10l4))) e5).length cxdata), (1, .int .i64 xa), (2, .int .i64 xb), (3, .int .i64 xn), (10, .int .i64 (IntKind.wrap .i64 (x10l4 + 1)))] (by kernel_rfl) ?_
        refine Ok.nil ?_
        refine Ok.thenN ?_
        subst hg9
        subst hg5
        subst hg3
        exact fun a W hA hW => ⟨k4, Nat.lt_succ_self _, gl4, hxl4, IntKind.wrap .i64 (x10l4 + 1), ((yown_xdata_0l4.set (Int.toNat (IntKind.wrap .i64 (xa + x10l4))) (yown_xdata_0l4.getD (Int.toNat (IntKind.wrap .i64 (xb + x10l4))) default)).set (Int.toNat (IntKind.wrap .i64 (xb + x10l4))) (yown_xdata_0l4.getD (Int.toNat (IntKind.wrap .i64 (xa + x10l4))) default)), xs10, hL10, (by simp only [List.length_set, hnyown_xdata_0l4]), hA.sub (by kernel_rfl), hW, hF⟩
      · replace hF := hF.2 hc1
        refine Ok.exit ?_
        refine Ok.thenE ?_
        refine Ok.thenE ?_
        refine Ok.blockHit ?_
        exact Ok.resH (vs := []) (.inr rfl) rfl .nil hxl4 ⟨yown_xdata_0l4, xsyown_xdata_0l4, rfl, hLyown_xdata_0l4, rfl, hnyown_xdata_0l4, hF⟩
def sswS (l : List Int) (a b n : Int) (_ : Int → Int → Int) : List Int := Stb.swN default l a.toNat b.toNat n.toNat
def sswP (l : List Int) (a b n : Int) (_ : Int → Int → Int) (_ : Int → Int → Prop) : Prop := 0 ≤ a ∧ 0 ≤ n ∧ a + n ≤ b ∧ b + n ≤ l.length ∧ l.length ≤ 100000
theorem swN_len (d : Int) : ∀ (n : Nat) (l : List Int) (a b : Nat), (Stb.swN d l a b n).length = l.length
  | 0, l, a, b => rfl
  | n + 1, l, a, b => by rw [Stb.swN, Stb.sw, List.length_set, List.length_set, swN_len d n]
theorem ssw_F (l : List Int) (a b n : Int) (c : Int → Int → Int) (p : Int → Int → Prop) (hp : sswP l a b n c p) : sswF l a b n c p (fun r => r = sswS l a b n c) := by
  obtain ⟨h0, h1, h2, h3, h4⟩ := hp
  have loop : ∀ (k i : Nat), i + k = n.toNat → sswl4 a b n (fun r => r = sswS l a b n c) (k + 1) (i : Int) (Stb.swN default l a.toNat b.toNat i) := by
    intro k
    induction k with
    | zero =>
      intro i hi
      refine ⟨fun hh => by have := of_decide_eq_true hh; omega, fun _ => ?_⟩
      unfold sswS
      rw [show i = n.toNat by omega]
    | succ k ih =>
      intro i hi
      have hl := swN_len default i l a.toNat b.toNat
      have e1 : IntKind.wrap .i64 (b + (i : Int)) = b + (i : Int) := w64 (by omega)
      have e2 : IntKind.wrap .i64 (a + (i : Int)) = a + (i : Int) := w64 (by omega)
      have e3 : IntKind.wrap .i64 ((i : Int) + 1) = ((i + 1 : Nat) : Int) := w64 (by omega)
      refine ⟨fun _ => ?_, fun hh => by have := of_decide_eq_false hh; omega⟩
      rw [e1, e2, e3]
      refine ⟨by omega, by rw [hl]; omega, by omega, by rw [hl]; omega, by omega, by rw [List.length_set, hl]; omega, ?_⟩
      have := ih (i + 1) (by omega)
      rw [Stb.swN, Stb.sw] at this
      rw [show (a + (i : Int)).toNat = a.toNat + i by omega, show (b + (i : Int)).toNat = b.toNat + i by omega]
      exact this
  exact ⟨_, loop n.toNat 0 (by omega)⟩
set_option linter.unusedVariables false in
theorem ssw_c {g : Ghost} {axdata : Option Addr} {cxdata : Nat} {xsxdata : List Value} (xdata : List (Int)) (xa : Int) (xb : Int) (xn : Int) {vxcmp : Value} (xcmp : Int → Int → Int) (pxcmp : Int → Int → Prop) (hLxdata : RepL g (.int .i64) xsxdata xdata) (hfxcmp : ∀ (y0 : Int) (y1 : Int), pxcmp y0 y1 → FnG Try.prog vxcmp #[.int .i64 y0, .int .i64 y1] g (.int .i64 (xcmp y0 y1)))  (hp : sswP xdata xa xb xn xcmp pxcmp) : CallsH Try.prog 21 #[.slice axdata xdata.length cxdata, .int .i64 xa, .int .i64 xb, .int .i64 xn, vxcmp] g [.own (.slice axdata xdata.length cxdata) 3 1 xdata.length xsxdata] (fun g' H' v => ∃ (xsfxdata : List Value), v = .tuple #[] ∧ RepL g' (.int .i64) xsfxdata (sswS xdata xa xb xn xcmp) ∧ H' = [.own (.slice axdata (sswS xdata xa xb xn xcmp).length cxdata) 3 1 (sswS xdata xa xb xn xcmp).length xsfxdata] ∧ (sswS xdata xa xb xn xcmp).length = xdata.length) :=
  (ssw_ok xdata xa xb xn xcmp pxcmp hLxdata hfxcmp _ (ssw_F xdata xa xb xn xcmp pxcmp hp)).mono (by rintro g' H' v _ ⟨fxdata, xsfxdata, rfl, hLfxdata, rfl, hlen0, hK⟩; subst hK; exact ⟨xsfxdata, rfl, hLfxdata, rfl, hlen0⟩)
def srol7b (xm : Int) (xcmp : Int → Int → Int) (pxcmp : Int → Int → Prop) (K : (List (Int)) → Prop) (x10l7 : Int) (x11l7 : Int) (yown_xdata_0l7 : List (Int)) (C7 : Int → Int → (List (Int)) → Prop) : Prop :=
  (((x10l7 != x11l7)) = true → ((decide (x10l7 > x11l7)) = true → sswP yown_xdata_0l7 (IntKind.wrap .i64 (xm - x10l7)) xm x11l7 xcmp pxcmp ∧ C7 (IntKind.wrap .i64 (x10l7 - x11l7)) x11l7 (sswS yown_xdata_0l7 (IntKind.wrap .i64 (xm - x10l7)) xm x11l7 xcmp)) ∧ ((decide (x10l7 > x11l7)) = false → sswP yown_xdata_0l7 (IntKind.wrap .i64 (xm - x10l7)) (IntKind.wrap .i64 ((IntKind.wrap .i64 (xm + x11l7)) - x10l7)) x10l7 xcmp pxcmp ∧ C7 x10l7 (IntKind.wrap .i64 (x11l7 - x10l7)) (sswS yown_xdata_0l7 (IntKind.wrap .i64 (xm - x10l7)) (IntKind.wrap .i64 ((IntKind.wrap .i64 (xm + x11l7)) - x10l7)) x10l7 xcmp))) ∧ (((x10l7 != x11l7)) = false → sswP yown_xdata_0l7 (IntKind.wrap .i64 (xm - x10l7)) xm x10l7 xcmp pxcmp ∧ K (sswS yown_xdata_0l7 (IntKind.wrap .i64 (xm - x10l7)) xm x10l7 xcmp))
def srol7 (xm : Int) (xcmp : Int → Int → Int) (pxcmp : Int → Int → Prop) (K : (List (Int)) → Prop) : Nat → Int → Int → (List (Int)) → Prop
  | 0, _, _, _ => False
  | k + 1, x10l7, x11l7, yown_xdata_0l7 => srol7b xm xcmp pxcmp K x10l7 x11l7 yown_xdata_0l7 (srol7 xm xcmp pxcmp K k)
def sroF (xdata : List (Int)) (xa : Int) (xm : Int) (xb : Int) (xcmp : Int → Int → Int) (pxcmp : Int → Int → Prop) (K : (List (Int)) → Prop) : Prop :=
  ∃ k, srol7 xm xcmp pxcmp K k (IntKind.wrap .i64 (xm - xa)) (IntKind.wrap .i64 (xb - xm)) xdata
set_option maxHeartbeats 4000000 in
set_option maxRecDepth 100000 in
set_option linter.unusedVariables false in
theorem sro_ok {g : Ghost} {axdata : Option Addr} {cxdata : Nat} {xsxdata : List Value} (xdata : List (Int)) (xa : Int) (xm : Int) (xb : Int) {vxcmp : Value} (xcmp : Int → Int → Int) (pxcmp : Int → Int → Prop) (hLxdata : RepL g (.int .i64) xsxdata xdata) (hfxcmp : ∀ (y0 : Int) (y1 : Int), pxcmp y0 y1 → FnG Try.prog vxcmp #[.int .i64 y0, .int .i64 y1] g (.int .i64 (xcmp y0 y1))) (K : (List (Int)) → Prop)
    (hF : sroF xdata xa xm xb xcmp pxcmp K) : CallsH Try.prog 20 #[.slice axdata xdata.length cxdata, .int .i64 xa, .int .i64 xm, .int .i64 xb, vxcmp] g [.own (.slice axdata xdata.length cxdata) 3 1 xdata.length xsxdata] (fun g' H' v => ∃ (fxdata : List (Int)), ∃ (xsfxdata : List Value), v = .tuple #[] ∧ RepL g' (.int .i64) xsfxdata fxdata ∧ H' = [.own (.slice axdata fxdata.length cxdata) 3 1 fxdata.length xsfxdata] ∧ fxdata.length = xdata.length ∧ K fxdata) := by
  refine CallsH.enter 58 [(0, .slice axdata xdata.length cxdata), (1, .int .i64 xa), (2, .int .i64 xm), (3, .int .i64 xb), (4, vxcmp)] Try.func20 rfl (by kernel_rfl) (by kernel_rfl) (by kernel_rfl) fun w0 => ?_
  refine Ok.seq ?_
  refine Ok.region ?_
  refine Ok.batch 4 [(0, .slice axdata xdata.length cxdata), (2, .int .i64 xm), (3, .int .i64 xb), (4, vxcmp), (10, .int .i64 (IntKind.wrap .i64 (xm - xa)))] (by kernel_rfl) ?_
  refine Ok.nil ?_
  refine Ok.thenN ?_
  refine Ok.seq ?_
  refine Ok.region ?_
  refine Ok.batch 4 [(0, .slice axdata xdata.length cxdata), (2, .int .i64 xm), (4, vxcmp), (10, .int .i64 (IntKind.wrap .i64 (xm - xa))), (11, .int .i64 (IntKind.wrap .i64 (xb - xm)))] (by kernel_rfl) ?_
  refine Ok.nil ?_
  refine Ok.thenN ?_
  refine Ok.seq ?_
  refine Ok.block ?_
  obtain ⟨k, hF⟩ := hF
  refine Ok.loop (fun k a W => ∃ gl7 : Ghost, Gext w0 g gl7 ∧ ∃ (x10l7 : Int) (x11l7 : Int) (yown_xdata_0l7 : List (Int)) (xsyown_xdata_0l7 : List Value), RepL gl7 (.int .i64) xsyown_xdata_0l7 yown_xdata_0l7 ∧ yown_xdata_0l7.length = xdata.length ∧ StA 58 [(0, .slice axdata yown_xdata_0l7.length cxdata), (2, .int .i64 xm), (4, vxcmp), (10, .int .i64 x10l7), (11, .int .i64 x11l7)] a ∧ StW w0 [.own (.slice axdata yown_xdata_0l7.length cxdata) 3 1 yown_xdata_0l7.length xsyown_xdata_0l7] gl7 W ∧ srol7 xm xcmp pxcmp K k x10l7 x11l7 yown_xdata_0l7) k ?_ ?_
  ·
    exact fun a W hA hW => ⟨g, (Gext.refl w0 g), IntKind.wrap .i64 (xm - xa), IntKind.wrap .i64 (xb - xm), xdata, xsxdata, hLxdata, rfl, hA.sub (by kernel_rfl), hW, hF⟩
  ·
    clear hF
    rintro k7 a W ⟨gl7, hxl7, x10l7, x11l7, yown_xdata_0l7, xsyown_xdata_0l7, hLyown_xdata_0l7, hnyown_xdata_0l7, hA, hW, hF⟩
    cases k7 with
    | zero => exact (hF : False).elim
    | succ k7 =>
      refine (?_ : Ok _ _ _ _ _ _) a W hA hW
      clear hA hW
      replace hfxcmp := (fun y0 y1 hp => (hfxcmp y0 y1 hp).mono hxl7.1)
      refine Ok.seq ?_
      refine Ok.seq ?_
      refine Ok.region ?_
      refine Ok.batch 3 [(0, .slice axdata yown_xdata_0l7.length cxdata), (2, .int .i64 xm), (4, vxcmp), (10, .int .i64 x10l7), (11, .int .i64 x11l7), (20, .bool (x10l7 != x11l7))] (by kernel_rfl) ?_
      refine Ok.nil ?_
      refine Ok.thenN ?_
      refine Ok.cond (b := (x10l7 != x11l7)) rfl (fun hc1 => ?_) (fun hc1 => ?_)
      · replace hF := hF.1 hc1
        refine Ok.skip ?_
        refine Ok.thenN ?_
        refine Ok.block ?_
        refine Ok.seq ?_
        refine Ok.region ?_
        refine Ok.batch 3 [(0, .slice axdata yown_xdata_0l7.length cxdata), (2, .int .i64 xm), (4, vxcmp), (10, .int .i64 x10l7), (11, .int .i64 x11l7), (23, .bool (decide (x10l7 > x11l7)))] (by kernel_rfl) ?_
        refine Ok.nil ?_
        refine Ok.thenN ?_
        refine Ok.cond (b := decide (x10l7 > x11l7)) rfl (fun hc2 => ?_) (fun hc2 => ?_)
        · replace hF := hF.1 hc2
          refine Ok.seq ?_
          refine Ok.region ?_
          refine Ok.batch 7 [(0, .slice axdata yown_xdata_0l7.length cxdata), (2, .int .i64 xm), (4, vxcmp), (10, .int .i64 x10l7), (11, .int .i64 x11l7), (24, .slice axdata yown_xdata_0l7.length cxdata), (27, .int .i64 (IntKind.wrap .i64 (xm - x10l7))), (28, .int .i64 xm), (29, .int .i64 x11l7), (30, vxcmp)] (by kernel_rfl) ?_
          obtain ⟨hp3, hF⟩ := hF
          refine Ok.op rfl (OpOk.callH [.own (.slice axdata yown_xdata_0l7.length cxdata) 3 1 yown_xdata_0l7.length xsyown_xdata_0l7] [] (enters (by kernel_rfl) (fun _ => by kernel_rfl)) rfl (ssw_c yown_xdata_0l7 (IntKind.wrap .i64 (xm - x10l7)) xm x11l7 xcmp pxcmp hLyown_xdata_0l7 hfxcmp hp3) rfl fun g4 _ _ hx4 hV4 => ?_)
          obtain ⟨xs4_0, rfl, hL4_0, rfl, hlen4_0⟩ := hV4
          replace hLyown_xdata_0l7 := hLyown_xdata_0l7.mono hx4.1
          replace hfxcmp := (fun y0 y1 hp => (hfxcmp y0 y1 hp).mono hx4.1)
          refine Ok.reval 0 rfl (show (.slice axdata yown_xdata_0l7.length cxdata : Value) = .slice axdata (sswS yown_xdata_0l7 (IntKind.wrap .i64 (xm - x10l7)) xm x11l7 xcmp).length cxdata from by rw [hlen4_0]) ?_
          refine Ok.reval 24 rfl (show (.slice axdata yown_xdata_0l7.length cxdata : Value) = .slice axdata (sswS yown_xdata_0l7 (IntKind.wrap .i64 (xm - x10l7)) xm x11l7 xcmp).length cxdata from by rw [hlen4_0]) ?_
          refine Ok.nil ?_
          refine Ok.thenN ?_
          refine Ok.region ?_
          refine Ok.batch 4 [(0, .slice axdata (sswS yown_xdata_0l7 (IntKind.wrap .i64 (xm - x10l7)) xm x11l7 xcmp).length cxdata), (2, .int .i64 xm), (4, vxcmp), (10, .int .i64 (IntKind.wrap .i64 (x10l7 - x11l7))), (11, .int .i64 x11l7)] (by kernel_rfl) ?_
          refine Ok.nil ?_
          refine Ok.blockN ?_
          refine Ok.thenN ?_
          exact fun a W hA hW => ⟨k7, Nat.lt_succ_self _, g4, (hxl7.trans hx4), IntKind.wrap .i64 (x10l7 - x11l7), x11l7, (sswS yown_xdata_0l7 (IntKind.wrap .i64 (xm - x10l7)) xm x11l7 xcmp), xs4_0, hL4_0, (by simp only [*]), hA.sub (by kernel_rfl), hW, hF⟩
        · replace hF := hF.2 hc2
          refine Ok.seq ?_
          refine Ok.region ?_
          refine Ok.batch 11 [(0, .slice axdata yown_xdata_0l7.length cxdata), (2, .int .i64 xm), (4, vxcmp), (10, .int .i64 x10l7), (11, .int .i64 x11l7), (35, .slice axdata yown_xdata_0l7.length cxdata), (38, .int .i64 (IntKind.wrap .i64 (xm - x10l7))), (43, .int .i64 (IntKind.wrap .i64 ((IntKind.wrap .i64 (xm + x11l7)) - x10l7))), (44, .int .i64 x10l7), (45, vxcmp)] (by kernel_rfl) ?_
          obtain ⟨hp5, hF⟩ := hF
          refine Ok.op rfl (OpOk.callH [.own (.slice axdata yown_xdata_0l7.length cxdata) 3 1 yown_xdata_0l7.length xsyown_xdata_0l7] [] (enters (by kernel_rfl) (fun _ => by kernel_rfl)) rfl (ssw_c yown_xdata_0l7 (IntKind.wrap .i64 (xm - x10l7)) (IntKind.wrap .i64 ((IntKind.wrap .i64 (xm + x11l7)) - x10l7)) x10l7 xcmp pxcmp hLyown_xdata_0l7 hfxcmp hp5) rfl fun g6 _ _ hx6 hV6 => ?_)
          obtain ⟨xs6_0, rfl, hL6_0, rfl, hlen6_0⟩ := hV6
          replace hLyown_xdata_0l7 := hLyown_xdata_0l7.mono hx6.1
          replace hfxcmp := (fun y0 y1 hp => (hfxcmp y0 y1 hp).mono hx6.1)
          refine Ok.reval 0 rfl (show (.slice axdata yown_xdata_0l7.length cxdata : Value) = .slice axdata (sswS yown_xdata_0l7 (IntKind.wrap .i64 (xm - x10l7)) (IntKind.wrap .i64 ((IntKind.wrap .i64 (xm + x11l7)) - x10l7)) x10l7 xcmp).length cxdata from by rw [hlen6_0]) ?_
          refine Ok.reval 35 rfl (show (.slice axdata yown_xdata_0l7.length cxdata : Value) = .slice axdata (sswS yown_xdata_0l7 (IntKind.wrap .i64 (xm - x10l7)) (IntKind.wrap .i64 ((IntKind.wrap .i64 (xm + x11l7)) - x10l7)) x10l7 xcmp).length cxdata from by rw [hlen6_0]) ?_
          refine Ok.nil ?_
          refine Ok.thenN ?_
          refine Ok.region ?_
          refine Ok.batch 4 [(0, .slice axdata (sswS yown_xdata_0l7 (IntKind.wrap .i64 (xm - x10l7)) (IntKind.wrap .i64 ((IntKind.wrap .i64 (xm + x11l7)) - x10l7)) x10l7 xcmp).length cxdata), (2, .int .i64 xm), (4, vxcmp), (10, .int .i64 x10l7), (11, .int .i64 (IntKind.wrap .i64 (x11l7 - x10l7)))] (by kernel_rfl) ?_
          refine Ok.nil ?_
          refine Ok.blockN ?_
          refine Ok.thenN ?_
          exact fun a W hA hW => ⟨k7, Nat.lt_succ_self _, g6, (hxl7.trans hx6), x10l7, IntKind.wrap .i64 (x11l7 - x10l7), (sswS yown_xdata_0l7 (IntKind.wrap .i64 (xm - x10l7)) (IntKind.wrap .i64 ((IntKind.wrap .i64 (xm + x11l7)) - x10l7)) x10l7 xcmp), xs6_0, hL6_0, (by simp only [*]), hA.sub (by kernel_rfl), hW, hF⟩
      · replace hF := hF.2 hc1
        refine Ok.exit ?_
        refine Ok.thenE ?_
        refine Ok.thenE ?_
        refine Ok.blockHit ?_
        refine Ok.thenN ?_
        refine Ok.region ?_
        refine Ok.batch 7 [(50, .slice axdata yown_xdata_0l7.length cxdata), (53, .int .i64 (IntKind.wrap .i64 (xm - x10l7))), (54, .int .i64 xm), (55, .int .i64 x10l7), (56, vxcmp)] (by kernel_rfl) ?_
        obtain ⟨hp7, hF⟩ := hF
        refine Ok.op rfl (OpOk.callH [.own (.slice axdata yown_xdata_0l7.length cxdata) 3 1 yown_xdata_0l7.length xsyown_xdata_0l7] [] (enters (by kernel_rfl) (fun _ => by kernel_rfl)) rfl (ssw_c yown_xdata_0l7 (IntKind.wrap .i64 (xm - x10l7)) xm x10l7 xcmp pxcmp hLyown_xdata_0l7 hfxcmp hp7) rfl fun g8 _ _ hx8 hV8 => ?_)
        obtain ⟨xs8_0, rfl, hL8_0, rfl, hlen8_0⟩ := hV8
        replace hLyown_xdata_0l7 := hLyown_xdata_0l7.mono hx8.1
        replace hfxcmp := (fun y0 y1 hp => (hfxcmp y0 y1 hp).mono hx8.1)
        refine Ok.reval 50 rfl (show (.slice axdata yown_xdata_0l7.length cxdata : Value) = .slice axdata (sswS yown_xdata_0l7 (IntKind.wrap .i64 (xm - x10l7)) xm x10l7 xcmp).length cxdata from by rw [hlen8_0]) ?_
        refine Ok.nil ?_
        exact Ok.resH (vs := []) (.inr rfl) rfl .nil (hxl7.trans hx8) ⟨(sswS yown_xdata_0l7 (IntKind.wrap .i64 (xm - x10l7)) xm x10l7 xcmp), xs8_0, rfl, hL8_0, rfl, (by simp only [*]), hF⟩
def sroS (l : List Int) (a m b : Int) (_ : Int → Int → Int) : List Int := Stb.rotN default l m.toNat (m - a).toNat (b - m).toNat (b - a).toNat
def sroP (l : List Int) (a m b : Int) (_ : Int → Int → Int) (_ : Int → Int → Prop) : Prop := 0 ≤ a ∧ a < m ∧ m < b ∧ b ≤ l.length ∧ l.length ≤ 100000
theorem sro_F (l : List Int) (a m b : Int) (c : Int → Int → Int) (p : Int → Int → Prop) (hp : sroP l a m b c p) : sroF l a m b c p (fun r => r = sroS l a m b c) := by
  obtain ⟨h0, h1, h2, h3, h4⟩ := hp
  have loop : ∀ (k i j : Nat) (l' : List Int), i + j ≤ k → 0 < i → 0 < j → (i : Int) ≤ m → m + j ≤ l'.length → l'.length ≤ 100000 → Stb.rotN default l' m.toNat i j k = sroS l a m b c → srol7 m c p (fun r => r = sroS l a m b c) k (i : Int) (j : Int) l' := by
    intro k
    induction k with
    | zero => intro i j l' hk hi; omega
    | succ k ih =>
      intro i j l' hk hi hj him hml hl hR
      have e1 : IntKind.wrap .i64 (m - (i : Int)) = m - (i : Int) := w64 (by omega)
      have e2 : IntKind.wrap .i64 (m + (j : Int)) = m + (j : Int) := w64 (by omega)
      have e3 : IntKind.wrap .i64 (m + (j : Int) - (i : Int)) = m + (j : Int) - (i : Int) := w64 (by omega)
      have e4 : IntKind.wrap .i64 ((i : Int) - (j : Int)) = (i : Int) - (j : Int) := w64 (by omega)
      have e5 : IntKind.wrap .i64 ((j : Int) - (i : Int)) = (j : Int) - (i : Int) := w64 (by omega)
      rw [Stb.rotN] at hR
      refine ⟨fun hh => ?_, fun hh => ?_⟩
      · rw [bne_iff_ne] at hh
        rw [if_neg (by omega)] at hR
        refine ⟨fun hg => ?_, fun hg => ?_⟩
        · have hg := of_decide_eq_true hg
          rw [if_pos (by omega)] at hR
          rw [e1, e4]
          refine ⟨⟨by omega, by omega, by omega, by omega, by omega⟩, ?_⟩
          rw [show ((i : Int) - (j : Int)) = ((i - j : Nat) : Int) by omega]
          unfold sswS
          rw [show (m - (i : Int)).toNat = m.toNat - i by omega, Int.toNat_natCast]
          exact ih (i - j) j _ (by omega) (by omega) hj (by omega) (by rw [swN_len]; exact hml) (by rw [swN_len]; exact hl) hR
        · have hg := of_decide_eq_false hg
          rw [if_neg (by omega)] at hR
          rw [e1, e2, e3, e5]
          refine ⟨⟨by omega, by omega, by omega, by omega, by omega⟩, ?_⟩
          rw [show ((j : Int) - (i : Int)) = ((j - i : Nat) : Int) by omega]
          unfold sswS
          rw [show (m - (i : Int)).toNat = m.toNat - i by omega, show (m + (j : Int) - (i : Int)).toNat = m.toNat + j - i by omega, Int.toNat_natCast]
          exact ih i (j - i) _ (by omega) hi (by omega) him (by rw [swN_len]; omega) (by rw [swN_len]; exact hl) hR
      · rw [bne_eq_false_iff_eq] at hh
        rw [if_pos (by omega)] at hR
        rw [e1]
        refine ⟨⟨by omega, by omega, by omega, by omega, by omega⟩, ?_⟩
        unfold sswS
        rw [show (m - (i : Int)).toNat = m.toNat - i by omega, Int.toNat_natCast]
        exact hR
  refine ⟨(b - a).toNat, ?_⟩
  rw [show IntKind.wrap .i64 (m - a) = ((m - a).toNat : Int) by rw [w64 (by omega)]; omega, show IntKind.wrap .i64 (b - m) = ((b - m).toNat : Int) by rw [w64 (by omega)]; omega]
  exact loop (b - a).toNat (m - a).toNat (b - m).toNat l (by omega) (by omega) (by omega) (by omega) (by omega) h4 rfl
set_option linter.unusedVariables false in
theorem sro_c {g : Ghost} {axdata : Option Addr} {cxdata : Nat} {xsxdata : List Value} (xdata : List (Int)) (xa : Int) (xm : Int) (xb : Int) {vxcmp : Value} (xcmp : Int → Int → Int) (pxcmp : Int → Int → Prop) (hLxdata : RepL g (.int .i64) xsxdata xdata) (hfxcmp : ∀ (y0 : Int) (y1 : Int), pxcmp y0 y1 → FnG Try.prog vxcmp #[.int .i64 y0, .int .i64 y1] g (.int .i64 (xcmp y0 y1)))  (hp : sroP xdata xa xm xb xcmp pxcmp) : CallsH Try.prog 20 #[.slice axdata xdata.length cxdata, .int .i64 xa, .int .i64 xm, .int .i64 xb, vxcmp] g [.own (.slice axdata xdata.length cxdata) 3 1 xdata.length xsxdata] (fun g' H' v => ∃ (xsfxdata : List Value), v = .tuple #[] ∧ RepL g' (.int .i64) xsfxdata (sroS xdata xa xm xb xcmp) ∧ H' = [.own (.slice axdata (sroS xdata xa xm xb xcmp).length cxdata) 3 1 (sroS xdata xa xm xb xcmp).length xsfxdata] ∧ (sroS xdata xa xm xb xcmp).length = xdata.length) :=
  (sro_ok xdata xa xm xb xcmp pxcmp hLxdata hfxcmp _ (sro_F xdata xa xm xb xcmp pxcmp hp)).mono (by rintro g' H' v _ ⟨fxdata, xsfxdata, rfl, hLfxdata, rfl, hlen0, hK⟩; subst hK; exact ⟨xsfxdata, rfl, hLfxdata, rfl, hlen0⟩)
def sisV1 (xa : Int) (xcmp : Int → Int → Int) (x9l16 : Int) (yown_xdata_0l16 : List (Int)) : Bool :=
  ((decide (x9l16 > xa)) && (decide ((xcmp (yown_xdata_0l16.getD (Int.toNat x9l16) default) (yown_xdata_0l16.getD (Int.toNat (IntKind.wrap .i64 (x9l16 - 1))) default)) < 0)))
def sisj18 (xa : Int) (xcmp : Int → Int → Int) (x9l16 : Int) (yown_xdata_0l16 : List (Int)) (x8l4 : Int) (C4 : Int → (List (Int)) → Prop) (C16 : Int → (List (Int)) → Prop) : Prop :=
  (((sisV1 xa xcmp x9l16 yown_xdata_0l16)) = true → (0 : Int) ≤ (IntKind.wrap .i64 (x9l16 - 1)) ∧ Int.toNat (IntKind.wrap .i64 (x9l16 - 1)) < yown_xdata_0l16.length ∧ (0 : Int) ≤ x9l16 ∧ Int.toNat x9l16 < yown_xdata_0l16.length ∧ (0 : Int) ≤ (IntKind.wrap .i64 (x9l16 - 1)) ∧ Int.toNat (IntKind.wrap .i64 (x9l16 - 1)) < (yown_xdata_0l16.set (Int.toNat x9l16) (yown_xdata_0l16.getD (Int.toNat (IntKind.wrap .i64 (x9l16 - 1))) default)).length ∧ C16 (IntKind.wrap .i64 (x9l16 - 1)) ((yown_xdata_0l16.set (Int.toNat x9l16) (yown_xdata_0l16.getD (Int.toNat (IntKind.wrap .i64 (x9l16 - 1))) default)).set (Int.toNat (IntKind.wrap .i64 (x9l16 - 1))) (yown_xdata_0l16.getD (Int.toNat x9l16) default))) ∧ (((sisV1 xa xcmp x9l16 yown_xdata_0l16)) = false → C4 (IntKind.wrap .i64 (x8l4 + 1)) yown_xdata_0l16)
def sisl16b (xa : Int) (xcmp : Int → Int → Int) (pxcmp : Int → Int → Prop) (x8l4 : Int) (C4 : Int → (List (Int)) → Prop) (x9l16 : Int) (yown_xdata_0l16 : List (Int)) (C16 : Int → (List (Int)) → Prop) : Prop :=
  ((decide (x9l16 > xa)) = true → (0 : Int) ≤ x9l16 ∧ Int.toNat x9l16 < yown_xdata_0l16.length ∧ (0 : Int) ≤ (IntKind.wrap .i64 (x9l16 - 1)) ∧ Int.toNat (IntKind.wrap .i64 (x9l16 - 1)) < yown_xdata_0l16.length ∧ pxcmp (yown_xdata_0l16.getD (Int.toNat x9l16) default) (yown_xdata_0l16.getD (Int.toNat (IntKind.wrap .i64 (x9l16 - 1))) default) ∧ sisj18 xa xcmp x9l16 yown_xdata_0l16 x8l4 C4 C16) ∧ ((decide (x9l16 > xa)) = false → sisj18 xa xcmp x9l16 yown_xdata_0l16 x8l4 C4 C16)
def sisl16 (xa : Int) (xcmp : Int → Int → Int) (pxcmp : Int → Int → Prop) (x8l4 : Int) (C4 : Int → (List (Int)) → Prop) : Nat → Int → (List (Int)) → Prop
  | 0, _, _ => False
  | k + 1, x9l16, yown_xdata_0l16 => sisl16b xa xcmp pxcmp x8l4 C4 x9l16 yown_xdata_0l16 (sisl16 xa xcmp pxcmp x8l4 C4 k)
def sisl4b (xa : Int) (xb : Int) (xcmp : Int → Int → Int) (pxcmp : Int → Int → Prop) (K : (List (Int)) → Prop) (x8l4 : Int) (yown_xdata_0l4 : List (Int)) (C4 : Int → (List (Int)) → Prop) : Prop :=
  ((decide (x8l4 < xb)) = true → ∃ k, sisl16 xa xcmp pxcmp x8l4 C4 k x8l4 yown_xdata_0l4) ∧ ((decide (x8l4 < xb)) = false → K yown_xdata_0l4)
def sisl4 (xa : Int) (xb : Int) (xcmp : Int → Int → Int) (pxcmp : Int → Int → Prop) (K : (List (Int)) → Prop) : Nat → Int → (List (Int)) → Prop
  | 0, _, _ => False
  | k + 1, x8l4, yown_xdata_0l4 => sisl4b xa xb xcmp pxcmp K x8l4 yown_xdata_0l4 (sisl4 xa xb xcmp pxcmp K k)
def sisF (xdata : List (Int)) (xa : Int) (xb : Int) (xcmp : Int → Int → Int) (pxcmp : Int → Int → Prop) (K : (List (Int)) → Prop) : Prop :=
  ∃ k, sisl4 xa xb xcmp pxcmp K k (IntKind.wrap .i64 (xa + 1)) xdata
set_option maxHeartbeats 4000000 in
set_option maxRecDepth 100000 in
set_option linter.unusedVariables false in
theorem sis_ok {g : Ghost} {axdata : Option Addr} {cxdata : Nat} {xsxdata : List Value} (xdata : List (Int)) (xa : Int) (xb : Int) {vxcmp : Value} (xcmp : Int → Int → Int) (pxcmp : Int → Int → Prop) (hLxdata : RepL g (.int .i64) xsxdata xdata) (hfxcmp : ∀ (y0 : Int) (y1 : Int), pxcmp y0 y1 → FnG Try.prog vxcmp #[.int .i64 y0, .int .i64 y1] g (.int .i64 (xcmp y0 y1))) (K : (List (Int)) → Prop)
    (hF : sisF xdata xa xb xcmp pxcmp K) : CallsH Try.prog 17 #[.slice axdata xdata.length cxdata, .int .i64 xa, .int .i64 xb, vxcmp] g [.own (.slice axdata xdata.length cxdata) 3 1 xdata.length xsxdata] (fun g' H' v => ∃ (fxdata : List (Int)), ∃ (xsfxdata : List Value), v = .tuple #[] ∧ RepL g' (.int .i64) xsfxdata fxdata ∧ H' = [.own (.slice axdata fxdata.length cxdata) 3 1 fxdata.length xsfxdata] ∧ fxdata.length = xdata.length ∧ K fxdata) := by
  refine CallsH.enter 53 [(0, .slice axdata xdata.length cxdata), (1, .int .i64 xa), (2, .int .i64 xb), (3, vxcmp)] Try.func17 rfl (by kernel_rfl) (by kernel_rfl) (by kernel_rfl) fun w0 => ?_
  refine Ok.seq ?_
  refine Ok.region ?_
  refine Ok.batch 3 [(0, .slice axdata xdata.length cxdata), (1, .int .i64 xa), (2, .int .i64 xb), (3, vxcmp), (8, .int .i64 (IntKind.wrap .i64 (xa + 1)))] (by kernel_rfl) ?_
  refine Ok.nil ?_
  refine Ok.thenN ?_
  refine Ok.block ?_
  obtain ⟨k, hF⟩ := hF
  refine Ok.loop (fun k a W => ∃ gl4 : Ghost, Gext w0 g gl4 ∧ ∃ (x8l4 : Int) (yown_xdata_0l4 : List (Int)) (xsyown_xdata_0l4 : List Value), RepL gl4 (.int .i64) xsyown_xdata_0l4 yown_xdata_0l4 ∧ yown_xdata_0l4.length = xdata.length ∧ StA 53 [(0, .slice axdata yown_xdata_0l4.length cxdata), (1, .int .i64 xa), (2, .int .i64 xb), (3, vxcmp), (8, .int .i64 x8l4)] a ∧ StW w0 [.own (.slice axdata yown_xdata_0l4.length cxdata) 3 1 yown_xdata_0l4.length xsyown_xdata_0l4] gl4 W ∧ sisl4 xa xb xcmp pxcmp K k x8l4 yown_xdata_0l4) k ?_ ?_
  ·
    exact fun a W hA hW => ⟨g, (Gext.refl w0 g), IntKind.wrap .i64 (xa + 1), xdata, xsxdata, hLxdata, rfl, hA.sub (by kernel_rfl), hW, hF⟩
  ·
    clear hF
    rintro k4 a W ⟨gl4, hxl4, x8l4, yown_xdata_0l4, xsyown_xdata_0l4, hLyown_xdata_0l4, hnyown_xdata_0l4, hA, hW, hF⟩
    cases k4 with
    | zero => exact (hF : False).elim
    | succ k4 =>
      refine (?_ : Ok _ _ _ _ _ _) a W hA hW
      clear hA hW
      replace hfxcmp := (fun y0 y1 hp => (hfxcmp y0 y1 hp).mono hxl4.1)
      refine Ok.seq ?_
      refine Ok.seq ?_
      refine Ok.region ?_
      refine Ok.batch 3 [(0, .slice axdata yown_xdata_0l4.length cxdata), (1, .int .i64 xa), (2, .int .i64 xb), (3, vxcmp), (8, .int .i64 x8l4), (14, .bool (decide (x8l4 < xb)))] (by kernel_rfl) ?_
      refine Ok.nil ?_
      refine Ok.thenN ?_
      refine Ok.cond (b := decide (x8l4 < xb)) rfl (fun hc1 => ?_) (fun hc1 => ?_)
      · replace hF := hF.1 hc1
        refine Ok.skip ?_
        refine Ok.thenN ?_
        refine Ok.seq ?_
        refine Ok.block ?_
        refine Ok.seq ?_
        refine Ok.region ?_
        refine Ok.batch 2 [(0, .slice axdata yown_xdata_0l4.length cxdata), (1, .int .i64 xa), (2, .int .i64 xb), (3, vxcmp), (8, .int .i64 x8l4), (9, .int .i64 x8l4)] (by kernel_rfl) ?_
        refine Ok.nil ?_
        refine Ok.thenN ?_
        refine Ok.block ?_
        obtain ⟨k, hF⟩ := hF
        refine Ok.loop (fun k a W => ∃ gl16 : Ghost, Gext w0 gl4 gl16 ∧ ∃ (x9l16 : Int) (yown_xdata_0l16 : List (Int)) (xsyown_xdata_0l16 : List Value), RepL gl16 (.int .i64) xsyown_xdata_0l16 yown_xdata_0l16 ∧ yown_xdata_0l16.length = xdata.length ∧ StA 53 [(0, .slice axdata yown_xdata_0l16.length cxdata), (1, .int .i64 xa), (2, .int .i64 xb), (3, vxcmp), (8, .int .i64 x8l4), (9, .int .i64 x9l16)] a ∧ StW w0 [.own (.slice axdata yown_xdata_0l16.length cxdata) 3 1 yown_xdata_0l16.length xsyown_xdata_0l16] gl16 W ∧ sisl16 xa xcmp pxcmp x8l4 (sisl4 xa xb xcmp pxcmp K k4) k x9l16 yown_xdata_0l16) k ?_ ?_
        ·
          exact fun a W hA hW => ⟨gl4, (Gext.refl w0 gl4), x8l4, yown_xdata_0l4, xsyown_xdata_0l4, hLyown_xdata_0l4, hnyown_xdata_0l4, hA.sub (by kernel_rfl), hW, hF⟩
        ·
          clear hF
          rintro k16 a W ⟨gl16, hxl16, x9l16, yown_xdata_0l16, xsyown_xdata_0l16, hLyown_xdata_0l16, hnyown_xdata_0l16, hA, hW, hF⟩
          cases k16 with
          | zero => exact (hF : False).elim
          | succ k16 =>
            refine (?_ : Ok _ _ _ _ _ _) a W hA hW
            clear hA hW
            replace hfxcmp := (fun y0 y1 hp => (hfxcmp y0 y1 hp).mono hxl16.1)
            refine Ok.seq ?_
            refine Ok.cut (fun a W => ∃ gj18 : Ghost, Gext w0 gl16 gj18 ∧ StA 53 [(0, .slice axdata yown_xdata_0l16.length cxdata), (1, .int .i64 xa), (2, .int .i64 xb), (3, vxcmp), (8, .int .i64 x8l4), (9, .int .i64 x9l16), (34, .bool (sisV1 xa xcmp x9l16 yown_xdata_0l16))] a ∧ StW w0 [.own (.slice axdata yown_xdata_0l16.length cxdata) 3 1 yown_xdata_0l16.length xsyown_xdata_0l16] gj18 W ∧ sisj18 xa xcmp x9l16 yown_xdata_0l16 x8l4 (sisl4 xa xb xcmp pxcmp K k4) (sisl16 xa xcmp pxcmp x8l4 (sisl4 xa xb xcmp pxcmp K k4) k16)) ?_ ?_
            ·
              refine Ok.quiet' (by kernel_rfl) (by kernel_rfl) ?_
              refine OkQ.batch 4 [(0, .slice axdata yown_xdata_0l16.length cxdata), (1, .int .i64 xa), (2, .int .i64 xb), (3, vxcmp), (8, .int .i64 x8l4), (9, .int .i64 x9l16), (21, .bool (decide (x9l16 > xa)))] (by kernel_rfl) ?_
              refine OkQ.boolAt 21 (decide (x9l16 > xa)) rfl (fun hc12 => ?_) (fun hc12 => ?_)
              · replace hF := hF.1 hc12
                refine OkQ.batch 3 [(0, .slice axdata yown_xdata_0l16.length cxdata), (1, .int .i64 xa), (2, .int .i64 xb), (3, vxcmp), (8, .int .i64 x8l4), (9, .int .i64 x9l16), (21, .bool true), (22, vxcmp), (23, .slice axdata yown_xdata_0l16.length cxdata), (24, .int .i64 x9l16)] (by kernel_rfl) ?_
                obtain ⟨h014, h114, hF⟩ := hF
                have he14 := get_of (l := yown_xdata_0l16) (default : Int) h114
                generalize hg14 : (yown_xdata_0l16.getD (Int.toNat x9l16) default) = e14 at he14 hF ⊢
                refine OkQ.opYes (j := 3) (d := 21) (want := true) (b := true) rfl (by kernel_rfl) (by kernel_rfl) rfl (OpQ.indexOwn (e := .int .i64) (q := x9l16) (el := e14) 0 rfl hLyown_xdata_0l16 rfl rfl Try.underlying24 (by kernel_rfl) (by kernel_rfl) h014 he14 rfl fun cs13 _ hr13 hc13 => ?_)
                obtain rfl := hr13
                replace hc13 : ∀ j v, ([.int .i64 e14] : List Value)[j]? = some v → xsyown_xdata_0l16[Int.toNat x9l16 * 1 + j]? = some v := hc13
                refine OkQ.opYes (j := 3) (d := 21) (want := true) (b := true) rfl (by kernel_rfl) (by kernel_rfl) rfl (OpQ.step (v := .int .i64 e14) (Yields.loadOwn 0 0 rfl hc13 rfl Try.underlying3 rfl (by kernel_rfl)) rfl rfl ?_)
                refine OkQ.batch 3 [(0, .slice axdata yown_xdata_0l16.length cxdata), (1, .int .i64 xa), (2, .int .i64 xb), (3, vxcmp), (8, .int .i64 x8l4), (9, .int .i64 x9l16), (21, .bool true), (22, vxcmp), (26, .int .i64 e14), (27, .slice axdata yown_xdata_0l16.length cxdata), (29, .int .i64 (IntKind.wrap .i64 (x9l16 - 1)))] (by kernel_rfl) ?_
                obtain ⟨h016, h116, hF⟩ := hF
                have he16 := get_of (l := yown_xdata_0l16) (default : Int) h116
                generalize hg16 : (yown_xdata_0l16.getD (Int.toNat (IntKind.wrap .i64 (x9l16 - 1))) default) = e16 at he16 hF ⊢
                refine OkQ.opYes (j := 3) (d := 21) (want := true) (b := true) rfl (by kernel_rfl) (by kernel_rfl) rfl (OpQ.indexOwn (e := .int .i64) (q := IntKind.wrap .i64 (x9l16 - 1)) (el := e16) 0 rfl hLyown_xdata_0l16 rfl rfl Try.underlying24 (by kernel_rfl) (by kernel_rfl) h016 he16 rfl fun cs15 _ hr15 hc15 => ?_)
                obtain rfl := hr15
                replace hc15 : ∀ j v, ([.int .i64 e16] : List Value)[j]? = some v → xsyown_xdata_0l16[Int.toNat (IntKind.wrap .i64 (x9l16 - 1)) * 1 + j]? = some v := hc15
                refine OkQ.opYes (j := 3) (d := 21) (want := true) (b := true) rfl (by kernel_rfl) (by kernel_rfl) rfl (OpQ.step (v := .int .i64 e16) (Yields.loadOwn 0 0 rfl hc15 rfl Try.underlying3 rfl (by kernel_rfl)) rfl rfl ?_)
                obtain ⟨hq17, hF⟩ := hF
                refine OkQ.opYes (j := 3) (d := 21) (want := true) (b := true) rfl (by kernel_rfl) (by kernel_rfl) rfl (OpQ.apply (args := #[.int .i64 e14, .int .i64 e16]) (v := .int .i64 (xcmp e14 e16)) rfl (by kernel_rfl) (by kernel_rfl) (hfxcmp e14 e16 hq17) rfl ?_)
                refine OkQ.batch 2 [(0, .slice axdata yown_xdata_0l16.length cxdata), (1, .int .i64 xa), (2, .int .i64 xb), (3, vxcmp), (8, .int .i64 x8l4), (9, .int .i64 x9l16), (34, .bool (decide ((xcmp e14 e16) < 0)))] (by kernel_rfl) ?_
                refine OkQ.nil ?_
                refine Ok.thenN ?_
                subst hg16
                subst hg14
                refine Ok.reval 34 rfl (show (.bool (decide ((xcmp (yown_xdata_0l16.getD (Int.toNat x9l16) default) (yown_xdata_0l16.getD (Int.toNat (IntKind.wrap .i64 (x9l16 - 1))) default)) < 0)) : Value) = .bool (sisV1 xa xcmp x9l16 yown_xdata_0l16) from congrArg (Value.bool) (mand_t hc12)) ?_
                exact fun a W hA hW => ⟨gl16, (Gext.refl w0 gl16), hA.sub (by kernel_rfl), hW, hF⟩
              · replace hF := hF.2 hc12
                refine OkQ.batch 13 [(0, .slice axdata yown_xdata_0l16.length cxdata), (1, .int .i64 xa), (2, .int .i64 xb), (3, vxcmp), (8, .int .i64 x8l4), (9, .int .i64 x9l16), (34, .bool false)] (by kernel_rfl) ?_
                refine OkQ.nil ?_
                refine Ok.thenN ?_
                refine Ok.reval 34 rfl (show (.bool false : Value) = .bool (sisV1 xa xcmp x9l16 yown_xdata_0l16) from congrArg (Value.bool) (mand_f hc12)) ?_
                exact fun a W hA hW => ⟨gl16, (Gext.refl w0 gl16), hA.sub (by kernel_rfl), hW, hF⟩
            ·
              clear hF
              rintro a W ⟨gj18, hxj18, hA, hW, hF⟩
              refine (?_ : Ok _ _ _ _ _ _) a W hA hW
              clear hA hW
              replace hLyown_xdata_0l16 := hLyown_xdata_0l16.mono hxj18.1
              replace hfxcmp := (fun y0 y1 hp => (hfxcmp y0 y1 hp).mono hxj18.1)
              refine Ok.cond (b := (sisV1 xa xcmp x9l16 yown_xdata_0l16)) rfl (fun hc2 => ?_) (fun hc2 => ?_)
              · replace hF := hF.1 hc2
                refine Ok.skip ?_
                refine Ok.thenN ?_
                refine Ok.seq ?_
                refine Ok.block ?_
                refine Ok.mix [0, 1, 5, 6, 7, 8, 9, 10, 11, 12, 13, 14] [] [] [(0, true), (1, true), (2, true), (3, true), (4, true), (5, true), (6, true), (7, true), (8, true), (9, true), (10, true), (11, true), (12, true), (13, true), (14, true), (15, false), (16, false), (17, false)] (by kernel_rfl) (by kernel_rfl) (.cons _ .slnil) ?_
                refine OkM.batch 8 [(0, .slice axdata yown_xdata_0l16.length cxdata), (1, .int .i64 xa), (2, .int .i64 xb), (3, vxcmp), (8, .int .i64 x8l4), (9, .int .i64 x9l16), (37, .slice axdata yown_xdata_0l16.length cxdata), (38, .int .i64 x9l16), (39, .slice axdata yown_xdata_0l16.length cxdata), (41, .int .i64 (IntKind.wrap .i64 (x9l16 - 1))), (42, .slice axdata yown_xdata_0l16.length cxdata), (44, .int .i64 (IntKind.wrap .i64 (x9l16 - 1)))] (by kernel_rfl) ?_
                obtain ⟨h04, h14, hF⟩ := hF
                have he4 := get_of (l := yown_xdata_0l16) (default : Int) h14
                generalize hg4 : (yown_xdata_0l16.getD (Int.toNat (IntKind.wrap .i64 (x9l16 - 1))) default) = e4 at he4 hF ⊢
                refine OkM.head rfl rfl (show _ = [.own (.slice axdata yown_xdata_0l16.length cxdata) 3 1 yown_xdata_0l16.length xsyown_xdata_0l16] from rfl) (OpQ.indexOwn (e := .int .i64) (q := IntKind.wrap .i64 (x9l16 - 1)) (el := e4) 0 rfl hLyown_xdata_0l16 rfl rfl Try.underlying24 (by kernel_rfl) (by kernel_rfl) h04 he4 rfl fun cs3 _ hr3 hc3 => ?_)
                obtain rfl := hr3
                replace hc3 : ∀ j v, ([.int .i64 e4] : List Value)[j]? = some v → xsyown_xdata_0l16[Int.toNat (IntKind.wrap .i64 (x9l16 - 1)) * 1 + j]? = some v := hc3
                refine OkM.head rfl rfl (show _ = [.own (.slice axdata yown_xdata_0l16.length cxdata) 3 1 yown_xdata_0l16.length xsyown_xdata_0l16] from rfl) (OpQ.step (v := .int .i64 e4) (Yields.loadOwn 0 0 rfl hc3 rfl Try.underlying3 rfl (by kernel_rfl)) rfl rfl ?_)
                refine OkM.batch 2 [(0, .slice axdata yown_xdata_0l16.length cxdata), (1, .int .i64 xa), (2, .int .i64 xb), (3, vxcmp), (8, .int .i64 x8l4), (9, .int .i64 x9l16), (37, .slice axdata yown_xdata_0l16.length cxdata), (38, .int .i64 x9l16), (39, .slice axdata yown_xdata_0l16.length cxdata), (41, .int .i64 (IntKind.wrap .i64 (x9l16 - 1))), (46, .int .i64 e4), (47, .slice axdata yown_xdata_0l16.length cxdata), (48, .int .i64 x9l16)] (by kernel_rfl) ?_
                obtain ⟨h06, h16, hF⟩ := hF
                have he6 := get_of (l := yown_xdata_0l16) (default : Int) h16
                generalize hg6 : (yown_xdata_0l16.getD (Int.toNat x9l16) default) = e6 at he6 hF ⊢
                refine OkM.head rfl rfl (show _ = [.own (.slice axdata yown_xdata_0l16.length cxdata) 3 1 yown_xdata_0l16.length xsyown_xdata_0l16] from rfl) (OpQ.indexOwn (e := .int .i64) (q := x9l16) (el := e6) 0 rfl hLyown_xdata_0l16 rfl rfl Try.underlying24 (by kernel_rfl) (by kernel_rfl) h06 he6 rfl fun cs5 _ hr5 hc5 => ?_)
                obtain rfl := hr5
                replace hc5 : ∀ j v, ([.int .i64 e6] : List Value)[j]? = some v → xsyown_xdata_0l16[Int.toNat x9l16 * 1 + j]? = some v := hc5
                refine OkM.head rfl rfl (show _ = [.own (.slice axdata yown_xdata_0l16.length cxdata) 3 1 yown_xdata_0l16.length xsyown_xdata_0l16] from rfl) (OpQ.step (v := .int .i64 e6) (Yields.loadOwn 0 0 rfl hc5 rfl Try.underlying3 rfl (by kernel_rfl)) rfl rfl ?_)
                refine OkM.head rfl rfl (show _ = [.own (.slice axdata yown_xdata_0l16.length cxdata) 3 1 yown_xdata_0l16.length xsyown_xdata_0l16] from rfl) (OpQ.indexOwn (e := .int .i64) (q := x9l16) (el := e6) 0 rfl hLyown_xdata_0l16 rfl rfl Try.underlying24 (by kernel_rfl) (by kernel_rfl) h06 he6 rfl fun cs7 _ hr7 hc7 => ?_)
                obtain rfl := hr7
                replace hc7 : ∀ j v, ([.int .i64 e6] : List Value)[j]? = some v → xsyown_xdata_0l16[Int.toNat x9l16 * 1 + j]? = some v := hc7
                refine OkM.tail rfl rfl (OpOk.storeOwn (e := .int .i64) (q := Int.toNat x9l16) (cells := [.int .i64 e6]) (vs := [.int .i64 e4]) (el' := e4) 0 0 1 rfl hLyown_xdata_0l16 hc7 (by kernel_rfl) rfl rfl rfl (by kernel_rfl) (by kernel_rfl) (by kernel_rfl) (by kernel_rfl) (by kernel_rfl) (show Rep _ _ [.int .i64 e4] _ from rfl) fun xs8 hL8 => ?_)
                rw [show yown_xdata_0l16.length = (yown_xdata_0l16.set (Int.toNat x9l16) e4).length from (List.length_set ..).symm]
                refine OkM.leaf (i := 15) (show _ = [] from rfl) (Gle.refl _) (.cons _ .slnil) ?_
                obtain ⟨h010, h110, hF⟩ := hF
                have he10 := get_of (l := (yown_xdata_0l16.set (Int.toNat x9l16) e4)) (default : Int) h110
                generalize hg10 : ((yown_xdata_0l16.set (Int.toNat x9l16) e4).getD (Int.toNat (IntKind.wrap .i64 (x9l16 - 1))) default) = e10 at he10 hF ⊢
                refine OkM.tail rfl rfl (OpOk.indexOwn (e := .int .i64) (q := IntKind.wrap .i64 (x9l16 - 1)) (el := e10) 0 rfl hL8 rfl rfl Try.underlying24 (by kernel_rfl) (by kernel_rfl) h010 he10 rfl fun cs9 _ hr9 hc9 => ?_)
                obtain rfl := hr9
                replace hc9 : ∀ j v, ([.int .i64 e10] : List Value)[j]? = some v → xs8[Int.toNat (IntKind.wrap .i64 (x9l16 - 1)) * 1 + j]? = some v := hc9
                refine OkM.leaf (i := 16) (show _ = [] from rfl) (Gle.refl _) (.cons _ .slnil) ?_
                refine OkM.tail rfl rfl (OpOk.storeOwn (e := .int .i64) (q := Int.toNat (IntKind.wrap .i64 (x9l16 - 1))) (cells := [.int .i64 e10]) (vs := [.int .i64 e6]) (el' := e6) 0 0 1 rfl hL8 hc9 (by kernel_rfl) rfl rfl rfl (by kernel_rfl) (by kernel_rfl) (by kernel_rfl) (by kernel_rfl) (by kernel_rfl) (show Rep _ _ [.int .i64 e6] _ from rfl) fun xs11 hL11 => ?_)
                rw [show (yown_xdata_0l16.set (Int.toNat x9l16) e4).length = ((yown_xdata_0l16.set (Int.toNat x9l16) e4).set (Int.toNat (IntKind.wrap .i64 (x9l16 - 1))) e6).length from (List.length_set ..).symm]
                refine OkM.leaf (i := 17) (show _ = [] from rfl) (Gle.refl _) (.cons _ .slnil) ?_
                refine OkM.nil ?_
                refine Ok.blockN ?_
                refine Ok.thenN ?_
                refine Ok.region ?_
                refine Ok.batch 3 [(0, .slice axdata ((yown_xdata_0l16.set (Int.toNat x9l16) e4).set (Int.toNat (IntKind.wrap .i64 (x9l16 - 1))) e6).length cxdata), (1, .int .i64 xa), (2, .int .i64 xb), (3, vxcmp), (8, .int .i64 x8l4), (9, .int .i64 (IntKind.wrap .i64 (x9l16 - 1)))] (by kernel_rfl) ?_
                refine Ok.nil ?_
                refine Ok.thenN ?_
                subst hg10
                subst hg6
                subst hg4
                exact fun a W hA hW => ⟨k16, Nat.lt_succ_self _, gj18, (hxl16.trans hxj18), IntKind.wrap .i64 (x9l16 - 1), ((yown_xdata_0l16.set (Int.toNat x9l16) (yown_xdata_0l16.getD (Int.toNat (IntKind.wrap .i64 (x9l16 - 1))) default)).set (Int.toNat (IntKind.wrap .i64 (x9l16 - 1))) (yown_xdata_0l16.getD (Int.toNat x9l16) default)), xs11, hL11, (by simp only [List.length_set, hnyown_xdata_0l16]), hA.sub (by kernel_rfl), hW, hF⟩
              · replace hF := hF.2 hc2
                refine Ok.exit ?_
                refine Ok.thenE ?_
                refine Ok.thenE ?_
                refine Ok.blockHit ?_
                refine Ok.blockN ?_
                refine Ok.thenN ?_
                refine Ok.region ?_
                refine Ok.batch 3 [(0, .slice axdata yown_xdata_0l16.length cxdata), (1, .int .i64 xa), (2, .int .i64 xb), (3, vxcmp), (8, .int .i64 (IntKind.wrap .i64 (x8l4 + 1)))] (by kernel_rfl) ?_
                refine Ok.nil ?_
                refine Ok.thenN ?_
                exact fun a W hA hW => ⟨k4, Nat.lt_succ_self _, gj18, ((hxl4.trans hxl16).trans hxj18), IntKind.wrap .i64 (x8l4 + 1), yown_xdata_0l16, xsyown_xdata_0l16, hLyown_xdata_0l16, hnyown_xdata_0l16, hA.sub (by kernel_rfl), hW, hF⟩
      · replace hF := hF.2 hc1
        refine Ok.exit ?_
        refine Ok.thenE ?_
        refine Ok.thenE ?_
        refine Ok.blockHit ?_
        exact Ok.resH (vs := []) (.inr rfl) rfl .nil hxl4 ⟨yown_xdata_0l4, xsyown_xdata_0l4, rfl, hLyown_xdata_0l4, rfl, hnyown_xdata_0l4, hF⟩
def ltc (c : Int → Int → Int) (x y : Int) : Bool := decide (c x y < 0)
open Stb in
theorem sis_in {c : Int → Int → Int} {p : Int → Int → Prop} (hw : Wk (ltc c)) : ∀ (n : Nat) (P Q X Z : List Int) (x i : Int) (C4 : Int → List Int → Prop), P.length = n → (X ++ P ++ x :: Q ++ Z).length ≤ 100000 → Srt (ltc c) (P ++ Q) → (∀ q ∈ Q, ltc c x q = true) → (∀ u ∈ P, p x u) →
    C4 (IntKind.wrap .i64 (i + 1)) (X ++ mrg (ltc c) (P ++ Q) [x] ++ Z) → sisl16 (X.length : Int) c p i C4 (n + 1) ((X.length + P.length : Nat) : Int) (X ++ P ++ x :: Q ++ Z) := by
  intro n
  induction n with
  | zero =>
    intro P Q X Z x i C4 hn hlen hs hq hp hC
    have := List.eq_nil_of_length_eq_zero hn
    subst this
    rw [mrg_one [] Q x (fun a ha => (List.not_mem_nil ha).elim) hq] at hC
    have hC : C4 (IntKind.wrap .i64 (i + 1)) (X ++ [] ++ x :: Q ++ Z) := by simpa using hC
    have hno : ¬ (((X.length + ([] : List Int).length : Nat) : Int) > (X.length : Int)) := by simp
    refine ⟨fun hh => absurd (of_decide_eq_true hh) hno, fun _ => ⟨fun hv => ?_, fun _ => hC⟩⟩
    unfold sisV1 at hv
    rw [Bool.and_eq_true] at hv
    exact absurd (of_decide_eq_true hv.1) hno
  | succ n ih =>
    intro P Q X Z x i C4 hn hlen hs hq hp hC
    obtain ⟨P, y, rfl, hP⟩ := snoc_of hn
    have eD : X ++ (P ++ [y]) ++ x :: Q ++ Z = (X ++ P) ++ y :: x :: (Q ++ Z) := by simp
    have eD2 : (X ++ P) ++ y :: x :: (Q ++ Z) = (X ++ P ++ [y]) ++ x :: (Q ++ Z) := by simp
    have eN : X ++ P ++ x :: (y :: Q) ++ Z = (X ++ P) ++ x :: y :: (Q ++ Z) := by simp
    have ej : X.length + (P ++ [y]).length = (X ++ P).length + 1 := by simp; omega
    have hl : ((X ++ P) ++ y :: x :: (Q ++ Z)).length = (X ++ P).length + 2 + (Q ++ Z).length := by simp only [List.length_append, List.length_cons]; omega
    rw [eD] at hlen ⊢
    rw [ej]
    have ih := ih P (y :: Q) X Z x i C4 hP (by rw [eN]; simp only [List.length_append, List.length_cons] at hlen ⊢; omega) (by simpa using hs)
    have g1 : ((X ++ P) ++ y :: x :: (Q ++ Z)).getD (X ++ P).length default = y := getD_at default _ _ _
    have g2 : ((X ++ P) ++ y :: x :: (Q ++ Z)).getD ((X ++ P).length + 1) default = x := by
      have := getD_at default (X ++ P ++ [y]) (Q ++ Z) x
      rw [← eD2, show (X ++ P ++ [y]).length = (X ++ P).length + 1 by simp only [List.length_append, List.length_cons, List.length_nil]] at this
      exact this
    have gs : (((X ++ P) ++ y :: x :: (Q ++ Z)).set ((X ++ P).length + 1) y).set (X ++ P).length x = X ++ P ++ x :: (y :: Q) ++ Z := by
      have := set_at (X ++ P ++ [y]) (Q ++ Z) x y
      rw [← eD2, show (X ++ P ++ [y]).length = (X ++ P).length + 1 by simp only [List.length_append, List.length_cons, List.length_nil]] at this
      rw [this, show X ++ P ++ [y] ++ y :: (Q ++ Z) = (X ++ P) ++ y :: y :: (Q ++ Z) by simp, set_at, eN]
    rw [show (X.length + P.length : Nat) = (X ++ P).length by rw [List.length_append]] at ih
    have hXP : X.length ≤ (X ++ P).length := by rw [List.length_append]; omega
    generalize hD : (X ++ P) ++ y :: x :: (Q ++ Z) = D at *
    generalize (X ++ P).length = k at *
    have e1 : IntKind.wrap .i64 (((k + 1 : Nat) : Int) - 1) = (k : Int) := by rw [w64 (by omega)]; omega
    have hV : sisV1 (X.length : Int) c ((k + 1 : Nat) : Int) D = ltc c x y := by
      unfold sisV1 ltc
      rw [e1, Int.toNat_natCast, Int.toNat_natCast, g1, g2, decide_eq_true (show ((k + 1 : Nat) : Int) > (X.length : Int) by omega), Bool.true_and]
    have j18 : sisj18 (X.length : Int) c ((k + 1 : Nat) : Int) D i C4 (sisl16 (X.length : Int) c p i C4 (n + 1)) := by
      refine ⟨fun hv => ?_, fun hv => ?_⟩
      · rw [hV] at hv
        rw [e1, Int.toNat_natCast, Int.toNat_natCast, g1, g2, gs]
        exact ⟨by omega, by omega, by omega, by omega, by omega, by rw [List.length_set]; omega, ih (fun q hq2 => by
          rcases List.mem_cons.1 hq2 with rfl | hq2
          · exact hv
          · exact hq q hq2) (fun u hu => hp u (List.mem_append.2 (.inl hu))) (by simpa using hC)⟩
      · rw [hV] at hv
        have hs' := hs
        unfold Srt at hs'
        rw [List.pairwise_append] at hs'
        have := mrg_one (lt := ltc c) (P ++ [y]) Q x (fun u hu => by
          rcases List.mem_append.1 hu with hu | hu
          · exact hw.neg hv ((List.pairwise_append.1 hs'.1).2.2 u hu y (List.mem_singleton.2 rfl))
          · rw [List.mem_singleton] at hu; subst hu; exact hv) hq
        rw [this] at hC
        rw [← eD]
        simpa using hC
    refine ⟨fun _ => ⟨by omega, by rw [Int.toNat_natCast]; omega, by rw [e1]; omega, by rw [e1, Int.toNat_natCast]; omega, ?_, j18⟩, fun _ => j18⟩
    rw [e1, Int.toNat_natCast, Int.toNat_natCast, g1, g2]
    exact hp y (List.mem_append.2 (.inr (List.mem_singleton.2 rfl)))
open Stb in
def sisS (l : List Int) (a b : Int) (c : Int → Int → Int) : List Int := l.take a.toNat ++ ins (ltc c) ((l.drop a.toNat).take (b - a).toNat) ++ l.drop b.toNat
open Stb in
def sisP (l : List Int) (a b : Int) (c : Int → Int → Int) (p : Int → Int → Prop) : Prop := 0 ≤ a ∧ a ≤ b ∧ b ≤ l.length ∧ l.length ≤ 100000 ∧ Wk (ltc c) ∧ ∀ x ∈ l, ∀ y ∈ l, p x y
open Stb in
theorem sis_F (l : List Int) (a b : Int) (c : Int → Int → Int) (p : Int → Int → Prop) (hp : sisP l a b c p) : sisF l a b c p (fun r => r = sisS l a b c) := by
  obtain ⟨h0, h1, h2, h3, hw, hpp⟩ := hp
  have e0 : IntKind.wrap .i64 (a + 1) = ((a.toNat + 1 : Nat) : Int) := by rw [w64 (by omega)]; omega
  by_cases hab : a = b
  · refine ⟨1, ?_⟩
    rw [e0]
    refine ⟨fun hh => by have := of_decide_eq_true hh; omega, fun _ => ?_⟩
    unfold sisS
    subst hab
    rw [Int.sub_self]
    show l = l.take a.toNat ++ ins (ltc c) ((l.drop a.toNat).take 0) ++ l.drop a.toNat
    rw [List.take_zero]
    show l = l.take a.toNat ++ [] ++ l.drop a.toNat
    rw [List.append_nil, List.take_append_drop]
  have hX : (l.take a.toNat).length = a.toNat := by rw [List.length_take]; omega
  have loop : ∀ (k i : Nat), 0 < i → a.toNat + i + k = b.toNat → sisl4 a b c p (fun r => r = sisS l a b c) (k + 1) ((a.toNat + i : Nat) : Int) (l.take a.toNat ++ ins (ltc c) ((l.drop a.toNat).take i) ++ l.drop (a.toNat + i)) := by
    intro k
    induction k with
    | zero =>
      intro i hi hk
      refine ⟨fun hh => by have := of_decide_eq_true hh; omega, fun _ => ?_⟩
      unfold sisS
      rw [show i = (b - a).toNat by omega, show a.toNat + (b - a).toNat = b.toNat by omega]
    | succ k ih =>
      intro i hi hk
      refine ⟨fun _ => ?_, fun hh => by have := of_decide_eq_false hh; omega⟩
      have hil : a.toNat + i < l.length := by omega
      have hil2 : i < (l.drop a.toNat).length := by rw [List.length_drop]; omega
      have eg : (l.drop a.toNat).getD i default = l.getD (a.toNat + i) default := by
        rw [List.getD_eq_getElem?_getD, List.getElem?_drop, ← List.getD_eq_getElem?_getD]
      have ih := ih (i + 1) (by omega) (by omega)
      rw [take_get default hil2, eg, ins_append hw, ins_one] at ih
      have hlen : (ins (ltc c) ((l.drop a.toNat).take i)).length = i := by rw [(ins_perm _).length_eq, List.length_take]; omega
      have hmem : ∀ u ∈ ins (ltc c) ((l.drop a.toNat).take i), u ∈ l := fun u hu => List.mem_of_mem_drop (List.mem_of_mem_take ((ins_perm _).mem_iff.1 hu))
      have hx : l.getD (a.toNat + i) default ∈ l := by
        rw [List.getD_eq_getElem?_getD, List.getElem?_eq_getElem hil]; exact List.getElem_mem hil
      have hsrt := ins_srt hw ((l.drop a.toNat).take i)
      rw [drop_get default hil]
      generalize ins (ltc c) ((l.drop a.toNat).take i) = P at *
      generalize l.getD (a.toNat + i) default = x at *
      have hin := sis_in (p := p) hw P.length P [] (l.take a.toNat) (l.drop (a.toNat + i + 1)) x ((a.toNat + i : Nat) : Int) (sisl4 a b c p (fun r => r = sisS l a b c) (k + 1)) rfl (by
        simp only [List.length_append, List.length_cons, List.length_nil, List.length_drop, hX, hlen]; omega) (by rw [List.append_nil]; exact hsrt) (fun q hq => (List.not_mem_nil hq).elim) (fun u hu => hpp x hx u (hmem u hu)) (by
        rw [List.append_nil, w64 (by omega)]; exact ih)
      refine ⟨i + 1, ?_⟩
      rw [hX, hlen, show ((a.toNat : Nat) : Int) = a by omega, show l.take a.toNat ++ P ++ x :: [] ++ l.drop (a.toNat + i + 1) = l.take a.toNat ++ P ++ x :: l.drop (a.toNat + i + 1) by simp] at hin
      exact hin
  refine ⟨(b - a).toNat - 1 + 1, ?_⟩
  rw [e0]
  have := loop ((b - a).toNat - 1) 1 (by omega) (by omega)
  have e1 : ins (ltc c) ((l.drop a.toNat).take 1) = (l.drop a.toNat).take 1 := by
    cases hd : l.drop a.toNat with
    | nil => rfl
    | cons x t => exact ins_one x
  rw [e1, List.append_assoc, show l.drop (a.toNat + 1) = (l.drop a.toNat).drop 1 by rw [List.drop_drop], List.take_append_drop, List.take_append_drop] at this
  exact this
set_option linter.unusedVariables false in
theorem sis_c {g : Ghost} {axdata : Option Addr} {cxdata : Nat} {xsxdata : List Value} (xdata : List (Int)) (xa : Int) (xb : Int) {vxcmp : Value} (xcmp : Int → Int → Int) (pxcmp : Int → Int → Prop) (hLxdata : RepL g (.int .i64) xsxdata xdata) (hfxcmp : ∀ (y0 : Int) (y1 : Int), pxcmp y0 y1 → FnG Try.prog vxcmp #[.int .i64 y0, .int .i64 y1] g (.int .i64 (xcmp y0 y1)))  (hp : sisP xdata xa xb xcmp pxcmp) : CallsH Try.prog 17 #[.slice axdata xdata.length cxdata, .int .i64 xa, .int .i64 xb, vxcmp] g [.own (.slice axdata xdata.length cxdata) 3 1 xdata.length xsxdata] (fun g' H' v => ∃ (xsfxdata : List Value), v = .tuple #[] ∧ RepL g' (.int .i64) xsfxdata (sisS xdata xa xb xcmp) ∧ H' = [.own (.slice axdata (sisS xdata xa xb xcmp).length cxdata) 3 1 (sisS xdata xa xb xcmp).length xsfxdata] ∧ (sisS xdata xa xb xcmp).length = xdata.length) :=
  (sis_ok xdata xa xb xcmp pxcmp hLxdata hfxcmp _ (sis_F xdata xa xb xcmp pxcmp hp)).mono (by rintro g' H' v _ ⟨fxdata, xsfxdata, rfl, hLfxdata, rfl, hlen0, hK⟩; subst hK; exact ⟨xsfxdata, rfl, hLfxdata, rfl, hlen0⟩)
end Go.Proofs.Ytjkimpnppldekaa.So
