/- Heaps: what is reached, what is swept. -/
import Derived.Test.YtbifbljdmndjbaaHec
import Derived.Test.YtbifbljdmndjbaaSrt
namespace Go.Proofs.Ytbifbljdmndjbaa.Hp
open Go Go.Eng Go.RowKit Sr
set_option linter.unusedVariables false
def hRel26x2b (xroots : List (JV)) (K : (List (Int)) → Int → Prop) (x32l26i16 : Int) (yb7_0l26i16 : List (Int × List (List UInt8) × List (JV))) (yown6_0l26i16 : List (Int)) (yown5_0l26i16 : List (Int)) (C26x2 : Int → (List (Int × List (List UInt8) × List (JV))) → (List (Int)) → (List (Int)) → Prop) : Prop :=
  ((decide (x32l26i16 < (xroots.length : Int))) = true → (0 : Int) ≤ x32l26i16 ∧ Int.toNat x32l26i16 < xroots.length ∧ hcoPE (yb7_0l26i16, yown5_0l26i16, yown6_0l26i16) (xroots.getD (Int.toNat x32l26i16) default) ∧ C26x2 (IntKind.wrap .i64 (x32l26i16 + 1)) ((hcoS (yb7_0l26i16, yown5_0l26i16, yown6_0l26i16) (xroots.getD (Int.toNat x32l26i16) default)).1) (((hcoS (yb7_0l26i16, yown5_0l26i16, yown6_0l26i16) (xroots.getD (Int.toNat x32l26i16) default)).2).2) (((hcoS (yb7_0l26i16, yown5_0l26i16, yown6_0l26i16) (xroots.getD (Int.toNat x32l26i16) default)).2).1)) ∧ ((decide (x32l26i16 < (xroots.length : Int))) = false → srtP yown6_0l26i16 ∧ K (srtS yown6_0l26i16) 0)
def hRel26x2 (xroots : List (JV)) (K : (List (Int)) → Int → Prop) : Nat → Int → (List (Int × List (List UInt8) × List (JV))) → (List (Int)) → (List (Int)) → Prop
  | 0, _, _, _, _ => False
  | k + 1, x32l26i16, yb7_0l26i16, yown6_0l26i16, yown5_0l26i16 => hRel26x2b xroots K x32l26i16 yb7_0l26i16 yown6_0l26i16 yown5_0l26i16 (hRel26x2 xroots K k)
def hRel9x1b (xh : List (Int × List (List UInt8) × List (JV))) (xroots : List (JV)) (K : (List (Int)) → Int → Prop) (x20l9i16 : Int) (yown5_0l9i16 : List (Int)) (C9x1 : Int → (List (Int)) → Prop) : Prop :=
  ((decide (x20l9i16 < ((List.replicate (Int.toNat (xh.length : Int)) (0 : Int)).length : Int))) = true → (0 : Int) ≤ x20l9i16 ∧ Int.toNat x20l9i16 < yown5_0l9i16.length ∧ C9x1 (IntKind.wrap .i64 (x20l9i16 + 1)) (yown5_0l9i16.set (Int.toNat x20l9i16) (-1))) ∧ ((decide (x20l9i16 < ((List.replicate (Int.toNat (xh.length : Int)) (0 : Int)).length : Int))) = false → ∃ k, hRel26x2 xroots K k 0 xh ([] : List (Int)) yown5_0l9i16)
def hRel9x1 (xh : List (Int × List (List UInt8) × List (JV))) (xroots : List (JV)) (K : (List (Int)) → Int → Prop) : Nat → Int → (List (Int)) → Prop
  | 0, _, _ => False
  | k + 1, x20l9i16, yown5_0l9i16 => hRel9x1b xh xroots K x20l9i16 yown5_0l9i16 (hRel9x1 xh xroots K k)
def hReF (xh : List (Int × List (List UInt8) × List (JV))) (xroots : List (JV)) (K : (List (Int)) → Int → Prop) : Prop :=
  haskP xh xroots ∧ ((((haskS xh xroots) != 0)) = true → K ([] : List (Int)) (haskS xh xroots)) ∧ ((((haskS xh xroots) != 0)) = false → (0 : Int) ≤ (xh.length : Int) ∧ (xh.length : Int) ≤ 17592186044416 ∧ ∃ k, hRel9x1 xh xroots K k 0 (List.replicate (Int.toNat (xh.length : Int)) (0 : Int)))
set_option maxHeartbeats 4000000 in
set_option maxRecDepth 100000 in
set_option linter.unusedVariables false in
theorem hRe_ok {g : Ghost} {axh_0 : Option Addr} {cxh_0 : Nat} (xh : List (Int × List (List UInt8) × List (JV))) {axroots_0 : Option Addr} {cxroots_0 : Nat} (xroots : List (JV)) (hRxh_0 : Rep g (.slice (.pair (.int .i64) (.pair (.slice (.str)) (.slice (.pair (.int .i64) (.pair (.int .i64) (.str))))))) [.slice axh_0 xh.length cxh_0] xh) (hRxroots_0 : Rep g (.slice (.pair (.int .i64) (.pair (.int .i64) (.str)))) [.slice axroots_0 xroots.length cxroots_0] xroots) (K : (List (Int)) → Int → Prop)
    (hF : hReF xh xroots K) : CallsH Try.prog 24 #[.slice axh_0 xh.length cxh_0, .slice axroots_0 xroots.length cxroots_0] g [] (fun g' H' v => ∃ (r0 : List (Int)), ∃ (r1 : Int), ∃ (ar0_0 : Option Addr) (cr0_0 : Nat), v = .tuple #[.slice ar0_0 r0.length cr0_0, .int .i64 r1] ∧ Rep g' (.slice (.int .i64)) [.slice ar0_0 r0.length cr0_0] r0 ∧ H' = [] ∧ K r0 r1) := by
  refine CallsH.enter 23 [(0, .slice axh_0 xh.length cxh_0), (1, .slice axroots_0 xroots.length cxroots_0)] Try.func24 rfl (by kernel_rfl) (by kernel_rfl) (by kernel_rfl) fun w0 => ?_
  refine Ok.seq ?_
  refine Ok.region ?_
  refine Ok.batch 1 [(0, .slice axh_0 xh.length cxh_0), (1, .slice axroots_0 xroots.length cxroots_0)] (by kernel_rfl) ?_
  refine Ok.batch 1 [(0, .slice axh_0 xh.length cxh_0), (1, .slice axroots_0 xroots.length cxroots_0)] (by kernel_rfl) ?_
  refine Ok.nil ?_
  refine Ok.thenN ?_
  refine Ok.seq ?_
  refine Ok.seq ?_
  refine Ok.region ?_
  refine Ok.batch 2 [(0, .slice axh_0 xh.length cxh_0), (1, .slice axroots_0 xroots.length cxroots_0), (8, .slice axh_0 xh.length cxh_0), (9, .slice axroots_0 xroots.length cxroots_0)] (by kernel_rfl) ?_
  obtain ⟨hp1, hF⟩ := hF
  refine Ok.op rfl (OpOk.callG (v := .int .i64 (haskS xh xroots)) (enters (by kernel_rfl) (fun _ => by kernel_rfl)) (fun W hW => hask_c xh xroots (hRxh_0.mono hW.sees) (hRxroots_0.mono hW.sees) hp1) rfl ?_)
  refine Ok.batch 1 [(0, .slice axh_0 xh.length cxh_0), (1, .slice axroots_0 xroots.length cxroots_0), (6, .int .i64 (haskS xh xroots))] (by kernel_rfl) ?_
  refine Ok.nil ?_
  refine Ok.thenN ?_
  refine Ok.seq ?_
  refine Ok.region ?_
  refine Ok.batch 2 [(0, .slice axh_0 xh.length cxh_0), (1, .slice axroots_0 xroots.length cxroots_0), (6, .int .i64 (haskS xh xroots)), (12, .bool ((haskS xh xroots) != 0))] (by kernel_rfl) ?_
  refine Ok.nil ?_
  refine Ok.thenN ?_
  refine Ok.cond (b := ((haskS xh xroots) != 0)) rfl (fun hc2 => ?_) (fun hc2 => ?_)
  · replace hF := hF.1 hc2
    refine Ok.seq ?_
    refine Ok.region ?_
    refine Ok.batch 2 [(4, .slice none 0 0), (13, .int .i64 (haskS xh xroots))] (by kernel_rfl) ?_
    have hL3 : RepL g (.int .i64) [] [] := rfl
    refine Ok.ownNil 3 1 ?_
    refine Ok.batch 1 [(4, .slice none ([] : List (Int)).length 0), (5, .int .i64 (haskS xh xroots))] (by kernel_rfl) ?_
    refine Ok.nil ?_
    refine Ok.thenN ?_
    refine Ok.ret ?_
    refine Ok.thenR ?_
    refine Ok.freeze (H' := []) 0 rfl hL3 rfl fun g4 hx4 hRf4 => ?_
    exact Ok.resH (vs := [.slice none ([] : List (Int)).length 0, .int .i64 (haskS xh xroots)]) (.inl rfl) rfl (.cons (.tmp rfl) (.cons (.tmp rfl) .nil)) hx4 ⟨([] : List (Int)), (haskS xh xroots), none, 0, rfl, hRf4, rfl, hF⟩
  · replace hF := hF.2 hc2
    refine Ok.skip ?_
    refine Ok.thenN ?_
    refine Ok.seq ?_
    refine Ok.region ?_
    refine Ok.batch 2 [(14, .slice axh_0 xh.length cxh_0), (15, .slice axroots_0 xroots.length cxroots_0)] (by kernel_rfl) ?_
    refine Ok.op rfl (OpOk.inline (args := #[.slice axh_0 xh.length cxh_0, .slice axroots_0 xroots.length cxroots_0]) 41 [(0, .slice axh_0 xh.length cxh_0), (1, .slice axroots_0 xroots.length cxroots_0)] (enters (by kernel_rfl) (fun _ => by kernel_rfl)) Try.func58 rfl rfl rfl rfl ?_)
    refine Ok.seq ?_
    refine Ok.region ?_
    refine Ok.batch 1 [(0, .slice axh_0 xh.length cxh_0), (1, .slice axroots_0 xroots.length cxroots_0)] (by kernel_rfl) ?_
    refine Ok.nil ?_
    refine Ok.thenN ?_
    refine Ok.seq ?_
    refine Ok.region ?_
    refine Ok.batch 3 [(1, .slice axroots_0 xroots.length cxroots_0), (9, .slice axh_0 xh.length cxh_0), (11, .int .i64 (xh.length : Int))] (by kernel_rfl) ?_
    obtain ⟨h05, h15, hF⟩ := hF
    refine Ok.op rfl (OpOk.makeZero (e := .int .i64) (E := 3) (nn := (xh.length : Int)) (y := 0) (z := .int .i64 0) 8 17592186044416 rfl rfl Try.underlying61 (by kernel_rfl) (by kernel_rfl) (by kernel_rfl) rfl h05 h15 rfl fun a5 c5 xs5 hL5 => ?_)
    refine Ok.batch 1 [(1, .slice axroots_0 xroots.length cxroots_0), (13, .agg #[.slice axh_0 xh.length cxh_0, .slice a5 (List.replicate (Int.toNat (xh.length : Int)) (0 : Int)).length c5, .slice none 0 0])] (by kernel_rfl) ?_
    have hL6 : RepL g (.int .i64) [] [] := rfl
    refine Ok.ownNil 3 1 ?_
    refine Ok.op rfl (OpOk.box (v := .agg #[.slice axh_0 xh.length cxh_0, .slice a5 (List.replicate (Int.toNat (xh.length : Int)) (0 : Int)).length c5, .slice none ([] : List (Int)).length 0]) (cs := #[.slice axh_0 xh.length cxh_0, .slice a5 (List.replicate (Int.toNat (xh.length : Int)) (0 : Int)).length c5, .slice none ([] : List (Int)).length 0]) rfl (by kernel_rfl) rfl fun b7 => ?_)
    refine Ok.batch 1 [(1, .slice axroots_0 xroots.length cxroots_0), (5, .pointer (some ⟨b7, 0, none⟩))] (by kernel_rfl) ?_
    refine Ok.nil ?_
    refine Ok.thenN ?_
    refine Ok.seq ?_
    refine Ok.seq ?_
    refine Ok.region ?_
    refine Ok.batch 3 [(1, .slice axroots_0 xroots.length cxroots_0), (5, .pointer (some ⟨b7, 0, none⟩)), (17, .pointer (some ⟨b7, 1, none⟩))] (by kernel_rfl) ?_
    refine Ok.op rfl (OpOk.step (v := .slice a5 (List.replicate (Int.toNat (xh.length : Int)) (0 : Int)).length c5) (Yields.load 0 rfl rfl Try.underlying61 rfl (by kernel_rfl)) rfl rfl ?_)
    refine Ok.batch 2 [(1, .slice axroots_0 xroots.length cxroots_0), (5, .pointer (some ⟨b7, 0, none⟩)), (19, .int .i64 ((List.replicate (Int.toNat (xh.length : Int)) (0 : Int)).length : Int)), (20, .int .i64 0)] (by kernel_rfl) ?_
    refine Ok.nil ?_
    refine Ok.thenN ?_
    refine Ok.block ?_
    obtain ⟨k, hF⟩ := hF
    refine Ok.loop (fun k a W => ∃ gl9i16 : Ghost, Gext w0 g gl9i16 ∧ ∃ (x20l9i16 : Int) (ayown5_0l9i16 : Option Addr) (cyown5_0l9i16 : Nat) (yown5_0l9i16 : List (Int)) (xsyown5_0l9i16 : List Value), RepL gl9i16 (.int .i64) xsyown5_0l9i16 yown5_0l9i16 ∧ StA 41 [(1, .slice axroots_0 xroots.length cxroots_0), (5, .pointer (some ⟨b7, 0, none⟩)), (19, .int .i64 ((List.replicate (Int.toNat (xh.length : Int)) (0 : Int)).length : Int)), (20, .int .i64 x20l9i16)] a ∧ StW w0 [.blk b7 (.cells #[.slice axh_0 xh.length cxh_0, .slice ayown5_0l9i16 yown5_0l9i16.length cyown5_0l9i16, .slice none ([] : List (Int)).length 0] 107), .own (.slice none ([] : List (Int)).length 0) 3 1 ([] : List (Int)).length ([]), .own (.slice ayown5_0l9i16 yown5_0l9i16.length cyown5_0l9i16) 3 1 yown5_0l9i16.length xsyown5_0l9i16] gl9i16 W ∧ hRel9x1 xh xroots K k x20l9i16 yown5_0l9i16) k ?_ ?_
    ·
      exact fun a W hA hW => ⟨g, (Gext.refl w0 g), 0, a5, c5, (List.replicate (Int.toNat (xh.length : Int)) (0 : Int)), xs5, hL5, hA.sub (by kernel_rfl), hW, hF⟩
    ·
      clear hF
      rintro k9x1 a W ⟨gl9i16, hxl9i16, x20l9i16, ayown5_0l9i16, cyown5_0l9i16, yown5_0l9i16, xsyown5_0l9i16, hLyown5_0l9i16, hA, hW, hF⟩
      cases k9x1 with
      | zero => exact (hF : False).elim
      | succ k9x1 =>
        refine (?_ : Ok _ _ _ _ _ _) a W hA hW
        clear hA hW
        replace hRxroots_0 := hRxroots_0.mono hxl9i16.1
        replace hRxh_0 := hRxh_0.mono hxl9i16.1
        replace hL6 := hL6.mono hxl9i16.1
        refine Ok.seq ?_
        refine Ok.region ?_
        refine Ok.batch 1 [(1, .slice axroots_0 xroots.length cxroots_0), (5, .pointer (some ⟨b7, 0, none⟩)), (19, .int .i64 ((List.replicate (Int.toNat (xh.length : Int)) (0 : Int)).length : Int)), (20, .int .i64 x20l9i16), (21, .bool (decide (x20l9i16 < ((List.replicate (Int.toNat (xh.length : Int)) (0 : Int)).length : Int))))] (by kernel_rfl) ?_
        refine Ok.nil ?_
        refine Ok.thenN ?_
        refine Ok.seq ?_
        refine Ok.cond (b := decide (x20l9i16 < ((List.replicate (Int.toNat (xh.length : Int)) (0 : Int)).length : Int))) rfl (fun hc8 => ?_) (fun hc8 => ?_)
        · replace hF := hF.1 hc8
          refine Ok.skip ?_
          refine Ok.thenN ?_
          refine Ok.seq ?_
          refine Ok.block ?_
          refine Ok.seq ?_
          refine Ok.region ?_
          refine Ok.batch 2 [(1, .slice axroots_0 xroots.length cxroots_0), (5, .pointer (some ⟨b7, 0, none⟩)), (6, .int .i64 x20l9i16), (19, .int .i64 ((List.replicate (Int.toNat (xh.length : Int)) (0 : Int)).length : Int)), (20, .int .i64 x20l9i16)] (by kernel_rfl) ?_
          refine Ok.nil ?_
          refine Ok.thenN ?_
          refine Ok.region ?_
          refine Ok.batch 3 [(1, .slice axroots_0 xroots.length cxroots_0), (5, .pointer (some ⟨b7, 0, none⟩)), (6, .int .i64 x20l9i16), (19, .int .i64 ((List.replicate (Int.toNat (xh.length : Int)) (0 : Int)).length : Int)), (20, .int .i64 x20l9i16), (25, .pointer (some ⟨b7, 1, none⟩))] (by kernel_rfl) ?_
          refine Ok.op rfl (OpOk.step (v := .slice ayown5_0l9i16 yown5_0l9i16.length cyown5_0l9i16) (Yields.load 0 rfl rfl Try.underlying61 rfl (by kernel_rfl)) rfl rfl ?_)
          refine Ok.batch 1 [(1, .slice axroots_0 xroots.length cxroots_0), (5, .pointer (some ⟨b7, 0, none⟩)), (19, .int .i64 ((List.replicate (Int.toNat (xh.length : Int)) (0 : Int)).length : Int)), (20, .int .i64 x20l9i16), (26, .slice ayown5_0l9i16 yown5_0l9i16.length cyown5_0l9i16), (27, .int .i64 x20l9i16)] (by kernel_rfl) ?_
          obtain ⟨h010, h110, hF⟩ := hF
          have he10 := get_of (l := yown5_0l9i16) (default : Int) h110
          generalize hg10 : (yown5_0l9i16.getD (Int.toNat x20l9i16) default) = e10 at he10 hF ⊢
          refine Ok.op rfl (OpOk.indexOwn (e := .int .i64) (q := x20l9i16) (el := e10) 2 rfl hLyown5_0l9i16 rfl rfl Try.underlying61 (by kernel_rfl) (by kernel_rfl) h010 he10 rfl fun cs9 _ hr9 hc9 => ?_)
          obtain rfl := hr9
          replace hc9 : ∀ j v, ([.int .i64 e10] : List Value)[j]? = some v → xsyown5_0l9i16[Int.toNat x20l9i16 * 1 + j]? = some v := hc9
          refine Ok.op rfl (OpOk.storeOwn (e := .int .i64) (q := Int.toNat x20l9i16) (cells := [.int .i64 e10]) (vs := [.int .i64 (-1)]) (el' := -1) 2 0 1 rfl hLyown5_0l9i16 hc9 (by kernel_rfl) rfl rfl rfl (by kernel_rfl) (by kernel_rfl) (by kernel_rfl) (by kernel_rfl) (by kernel_rfl) (show Rep _ _ [.int .i64 (-1)] _ from rfl) fun xs11 hL11 => ?_)
          rw [show yown5_0l9i16.length = (yown5_0l9i16.set (Int.toNat x20l9i16) (-1)).length from (List.length_set ..).symm]
          refine Ok.nil ?_
          refine Ok.blockN ?_
          refine Ok.thenN ?_
          refine Ok.region ?_
          refine Ok.batch 2 [(1, .slice axroots_0 xroots.length cxroots_0), (5, .pointer (some ⟨b7, 0, none⟩)), (19, .int .i64 ((List.replicate (Int.toNat (xh.length : Int)) (0 : Int)).length : Int)), (20, .int .i64 (IntKind.wrap .i64 (x20l9i16 + 1)))] (by kernel_rfl) ?_
          refine Ok.nil ?_
          refine Ok.thenN ?_
          subst hg10
          exact fun a W hA hW => ⟨k9x1, Nat.lt_succ_self _, gl9i16, hxl9i16, IntKind.wrap .i64 (x20l9i16 + 1), ayown5_0l9i16, cyown5_0l9i16, (yown5_0l9i16.set (Int.toNat x20l9i16) (-1)), xs11, hL11, hA.sub (by kernel_rfl), hW, hF⟩
        · replace hF := hF.2 hc8
          refine Ok.exit ?_
          refine Ok.thenE ?_
          refine Ok.thenE ?_
          refine Ok.blockHit ?_
          refine Ok.thenN ?_
          refine Ok.seq ?_
          refine Ok.seq ?_
          refine Ok.region ?_
          refine Ok.batch 3 [(5, .pointer (some ⟨b7, 0, none⟩)), (30, .slice axroots_0 xroots.length cxroots_0), (31, .int .i64 (xroots.length : Int)), (32, .int .i64 0)] (by kernel_rfl) ?_
          refine Ok.nil ?_
          refine Ok.thenN ?_
          refine Ok.block ?_
          obtain ⟨k, hF⟩ := hF
          refine Ok.loop (fun k a W => ∃ gl26i16 : Ghost, Gext w0 gl9i16 gl26i16 ∧ ∃ (x32l26i16 : Int) (ayb7_0l26i16 : Option Addr) (cyb7_0l26i16 : Nat) (yb7_0l26i16 : List (Int × List (List UInt8) × List (JV))) (ayown6_0l26i16 : Option Addr) (cyown6_0l26i16 : Nat) (yown6_0l26i16 : List (Int)) (xsyown6_0l26i16 : List Value) (ayown5_0l26i16 : Option Addr) (cyown5_0l26i16 : Nat) (yown5_0l26i16 : List (Int)) (xsyown5_0l26i16 : List Value), Rep gl26i16 (.slice (.pair (.int .i64) (.pair (.slice (.str)) (.slice (.pair (.int .i64) (.pair (.int .i64) (.str))))))) [.slice ayb7_0l26i16 yb7_0l26i16.length cyb7_0l26i16] yb7_0l26i16 ∧ RepL gl26i16 (.int .i64) xsyown6_0l26i16 yown6_0l26i16 ∧ RepL gl26i16 (.int .i64) xsyown5_0l26i16 yown5_0l26i16 ∧ StA 41 [(5, .pointer (some ⟨b7, 0, none⟩)), (30, .slice axroots_0 xroots.length cxroots_0), (31, .int .i64 (xroots.length : Int)), (32, .int .i64 x32l26i16)] a ∧ StW w0 [.blk b7 (.cells #[.slice ayb7_0l26i16 yb7_0l26i16.length cyb7_0l26i16, .slice ayown5_0l26i16 yown5_0l26i16.length cyown5_0l26i16, .slice ayown6_0l26i16 yown6_0l26i16.length cyown6_0l26i16] 107), .own (.slice ayown6_0l26i16 yown6_0l26i16.length cyown6_0l26i16) 3 1 yown6_0l26i16.length xsyown6_0l26i16, .own (.slice ayown5_0l26i16 yown5_0l26i16.length cyown5_0l26i16) 3 1 yown5_0l26i16.length xsyown5_0l26i16] gl26i16 W ∧ hRel26x2 xroots K k x32l26i16 yb7_0l26i16 yown6_0l26i16 yown5_0l26i16) k ?_ ?_
          ·
            exact fun a W hA hW => ⟨gl9i16, (Gext.refl w0 gl9i16), 0, axh_0, cxh_0, xh, none, 0, ([] : List (Int)), [], ayown5_0l9i16, cyown5_0l9i16, yown5_0l9i16, xsyown5_0l9i16, hRxh_0, hL6, hLyown5_0l9i16, hA.sub (by kernel_rfl), hW, hF⟩
          ·
            clear hF
            rintro k26x2 a W ⟨gl26i16, hxl26i16, x32l26i16, ayb7_0l26i16, cyb7_0l26i16, yb7_0l26i16, ayown6_0l26i16, cyown6_0l26i16, yown6_0l26i16, xsyown6_0l26i16, ayown5_0l26i16, cyown5_0l26i16, yown5_0l26i16, xsyown5_0l26i16, hRyb7_0l26i16, hLyown6_0l26i16, hLyown5_0l26i16, hA, hW, hF⟩
            cases k26x2 with
            | zero => exact (hF : False).elim
            | succ k26x2 =>
              refine (?_ : Ok _ _ _ _ _ _) a W hA hW
              clear hA hW
              replace hRxroots_0 := hRxroots_0.mono hxl26i16.1
              refine Ok.seq ?_
              refine Ok.region ?_
              refine Ok.batch 1 [(5, .pointer (some ⟨b7, 0, none⟩)), (30, .slice axroots_0 xroots.length cxroots_0), (31, .int .i64 (xroots.length : Int)), (32, .int .i64 x32l26i16), (33, .bool (decide (x32l26i16 < (xroots.length : Int))))] (by kernel_rfl) ?_
              refine Ok.nil ?_
              refine Ok.thenN ?_
              refine Ok.seq ?_
              refine Ok.cond (b := decide (x32l26i16 < (xroots.length : Int))) rfl (fun hc12 => ?_) (fun hc12 => ?_)
              · replace hF := hF.1 hc12
                refine Ok.skip ?_
                refine Ok.thenN ?_
                refine Ok.seq ?_
                refine Ok.block ?_
                refine Ok.seq ?_
                refine Ok.region ?_
                obtain ⟨h014, h114, hF⟩ := hF
                have he14 := get_of (l := xroots) (default : JV) h114
                generalize hg14 : (xroots.getD (Int.toNat x32l26i16) default) = e14 at he14 hF ⊢
                refine Ok.op rfl (OpOk.indexRo (e := .pair (.int .i64) (.pair (.int .i64) (.str))) (i := x32l26i16) (el := e14) rfl rfl Try.underlying29 (by kernel_rfl) hRxroots_0 h014 he14 rfl fun q13 o13 cs13 _ hat13 hr13 => ?_)
                obtain ⟨_, _, rfl, rfl, ⟨_, _, rfl, rfl, rfl⟩⟩ := hr13
                replace hat13 : At gl26i16 q13 o13 [.int .i64 e14.1, .int .i64 e14.2.1, .string ⟨⟨e14.2.2⟩⟩] := hat13
                refine Ok.op rfl (OpOk.step (v := .agg #[.int .i64 e14.1, .int .i64 e14.2.1, .string ⟨⟨e14.2.2⟩⟩]) (Yields.loadAggRo 0 3 #[.int .i64 e14.1, .int .i64 e14.2.1, .string ⟨⟨e14.2.2⟩⟩] hat13 (by kernel_rfl) Try.underlying24 rfl (by kernel_rfl) (by kernel_rfl) (by kernel_rfl)) rfl rfl ?_)
                refine Ok.op rfl (OpOk.alloc (z := .agg #[.int .i64 0, .int .i64 0, .string ⟨⟨([] : List UInt8)⟩⟩]) (cs := #[.int .i64 0, .int .i64 0, .string ⟨⟨([] : List UInt8)⟩⟩]) (by kernel_rfl) (by kernel_rfl) rfl fun b15 => ?_)
                refine Ok.op rfl (OpOk.store (k := 3) (v := .agg #[.int .i64 e14.1, .int .i64 e14.2.1, .string ⟨⟨e14.2.2⟩⟩]) (H' := [.blk b15 (.cells #[.int .i64 e14.1, .int .i64 e14.2.1, .string ⟨⟨e14.2.2⟩⟩] 24), .blk b7 (.cells #[.slice ayb7_0l26i16 yb7_0l26i16.length cyb7_0l26i16, .slice ayown5_0l26i16 yown5_0l26i16.length cyown5_0l26i16, .slice ayown6_0l26i16 yown6_0l26i16.length cyown6_0l26i16] 107), .own (.slice ayown6_0l26i16 yown6_0l26i16.length cyown6_0l26i16) 3 1 yown6_0l26i16.length xsyown6_0l26i16, .own (.slice ayown5_0l26i16 yown5_0l26i16.length cyown5_0l26i16) 3 1 yown5_0l26i16.length xsyown5_0l26i16]) 0 rfl rfl rfl (by kernel_rfl) (by kernel_rfl) (by kernel_rfl) (by kernel_rfl) (by kernel_rfl) ?_)
                refine Ok.nil ?_
                refine Ok.thenN ?_
                refine Ok.region ?_
                refine Ok.batch 1 [(5, .pointer (some ⟨b7, 0, none⟩)), (8, .pointer (some ⟨b15, 0, none⟩)), (30, .slice axroots_0 xroots.length cxroots_0), (31, .int .i64 (xroots.length : Int)), (32, .int .i64 x32l26i16), (36, .pointer (some ⟨b7, 0, none⟩))] (by kernel_rfl) ?_
                refine Ok.op rfl (OpOk.step (v := .agg #[.int .i64 e14.1, .int .i64 e14.2.1, .string ⟨⟨e14.2.2⟩⟩]) (Yields.loadAgg 0 3 #[.int .i64 e14.1, .int .i64 e14.2.1, .string ⟨⟨e14.2.2⟩⟩] rfl rfl Try.underlying24 rfl (by kernel_rfl) (by kernel_rfl) (by kernel_rfl)) rfl rfl ?_)
                obtain ⟨hp16, hF⟩ := hF
                refine Ok.entries [1, 3, 2, 0] [.blk b7 (.cells #[.slice ayb7_0l26i16 yb7_0l26i16.length cyb7_0l26i16, .slice ayown5_0l26i16 yown5_0l26i16.length cyown5_0l26i16, .slice ayown6_0l26i16 yown6_0l26i16.length cyown6_0l26i16] 107), .own (.slice ayown5_0l26i16 yown5_0l26i16.length cyown5_0l26i16) 3 1 yown5_0l26i16.length xsyown5_0l26i16, .own (.slice ayown6_0l26i16 yown6_0l26i16.length cyown6_0l26i16) 3 1 yown6_0l26i16.length xsyown6_0l26i16, .blk b15 (.cells #[.int .i64 e14.1, .int .i64 e14.2.1, .string ⟨⟨e14.2.2⟩⟩] 24)] (by decide) rfl ?_
                refine Ok.op rfl (OpOk.callH [.blk b7 (.cells #[.slice ayb7_0l26i16 yb7_0l26i16.length cyb7_0l26i16, .slice ayown5_0l26i16 yown5_0l26i16.length cyown5_0l26i16, .slice ayown6_0l26i16 yown6_0l26i16.length cyown6_0l26i16] 107), .own (.slice ayown5_0l26i16 yown5_0l26i16.length cyown5_0l26i16) 3 1 yown5_0l26i16.length xsyown5_0l26i16, .own (.slice ayown6_0l26i16 yown6_0l26i16.length cyown6_0l26i16) 3 1 yown6_0l26i16.length xsyown6_0l26i16] [.blk b15 (.cells #[.int .i64 e14.1, .int .i64 e14.2.1, .string ⟨⟨e14.2.2⟩⟩] 24)] (enters (by kernel_rfl) (fun _ => by kernel_rfl)) rfl (hco_c (yb7_0l26i16, yown5_0l26i16, yown6_0l26i16) e14 hRyb7_0l26i16 hLyown5_0l26i16 hLyown6_0l26i16 hp16) rfl fun g17 _ _ hx17 hV17 => ?_)
                obtain ⟨a17_0, c17_0, a17_2, c17_2, xs17_2, a17_5, c17_5, xs17_5, rfl, hR17_0, hL17_2, hL17_5, rfl⟩ := hV17
                replace hRxroots_0 := hRxroots_0.mono hx17.1
                refine Ok.nil ?_
                refine Ok.blockN ?_
                refine Ok.thenN ?_
                refine Ok.region ?_
                refine Ok.batch 2 [(5, .pointer (some ⟨b7, 0, none⟩)), (30, .slice axroots_0 xroots.length cxroots_0), (31, .int .i64 (xroots.length : Int)), (32, .int .i64 (IntKind.wrap .i64 (x32l26i16 + 1)))] (by kernel_rfl) ?_
                refine Ok.nil ?_
                refine Ok.thenN ?_
                subst hg14
                exact fun a W hA hW => ⟨k26x2, Nat.lt_succ_self _, g17, (hxl26i16.trans hx17), IntKind.wrap .i64 (x32l26i16 + 1), a17_0, c17_0, (hcoS (yb7_0l26i16, yown5_0l26i16, yown6_0l26i16) (xroots.getD (Int.toNat x32l26i16) default)).1, a17_5, c17_5, ((hcoS (yb7_0l26i16, yown5_0l26i16, yown6_0l26i16) (xroots.getD (Int.toNat x32l26i16) default)).2).2, xs17_5, a17_2, c17_2, ((hcoS (yb7_0l26i16, yown5_0l26i16, yown6_0l26i16) (xroots.getD (Int.toNat x32l26i16) default)).2).1, xs17_2, hR17_0, hL17_5, hL17_2, hA.sub (by kernel_rfl), hW.pick [0, 2, 1] _ (by decide) rfl, hF⟩
              · replace hF := hF.2 hc12
                refine Ok.exit ?_
                refine Ok.thenE ?_
                refine Ok.thenE ?_
                refine Ok.blockHit ?_
                refine Ok.thenN ?_
                refine Ok.seq ?_
                refine Ok.region ?_
                refine Ok.batch 2 [(4, .pointer (some ⟨b7, 0, none⟩))] (by kernel_rfl) ?_
                refine Ok.nil ?_
                refine Ok.thenN ?_
                refine Ok.ret ?_
                refine Ok.back (vs := [.pointer (some ⟨b7, 0, none⟩)]) (.inl rfl) rfl (.cons (.tmp rfl) .nil) rfl ?_
                refine Ok.batch 2 [(18, .pointer (some ⟨b7, 2, none⟩))] (by kernel_rfl) ?_
                refine Ok.op rfl (OpOk.step (v := .slice ayown6_0l26i16 yown6_0l26i16.length cyown6_0l26i16) (Yields.load 0 rfl rfl Try.underlying61 rfl (by kernel_rfl)) rfl rfl ?_)
                refine Ok.batch 1 [(7, .slice ayown6_0l26i16 yown6_0l26i16.length cyown6_0l26i16)] (by kernel_rfl) ?_
                refine Ok.nil ?_
                refine Ok.thenN ?_
                refine Ok.seq ?_
                refine Ok.region ?_
                refine Ok.batch 1 [(7, .slice ayown6_0l26i16 yown6_0l26i16.length cyown6_0l26i16), (20, .slice ayown6_0l26i16 yown6_0l26i16.length cyown6_0l26i16)] (by kernel_rfl) ?_
                obtain ⟨hp18, hF⟩ := hF
                refine Ok.entries [1, 0, 2] [.own (.slice ayown6_0l26i16 yown6_0l26i16.length cyown6_0l26i16) 3 1 yown6_0l26i16.length xsyown6_0l26i16, .blk b7 (.cells #[.slice ayb7_0l26i16 yb7_0l26i16.length cyb7_0l26i16, .slice ayown5_0l26i16 yown5_0l26i16.length cyown5_0l26i16, .slice ayown6_0l26i16 yown6_0l26i16.length cyown6_0l26i16] 107), .own (.slice ayown5_0l26i16 yown5_0l26i16.length cyown5_0l26i16) 3 1 yown5_0l26i16.length xsyown5_0l26i16] (by decide) rfl ?_
                refine Ok.op rfl (OpOk.callH [.own (.slice ayown6_0l26i16 yown6_0l26i16.length cyown6_0l26i16) 3 1 yown6_0l26i16.length xsyown6_0l26i16] [.blk b7 (.cells #[.slice ayb7_0l26i16 yb7_0l26i16.length cyb7_0l26i16, .slice ayown5_0l26i16 yown5_0l26i16.length cyown5_0l26i16, .slice ayown6_0l26i16 yown6_0l26i16.length cyown6_0l26i16] 107), .own (.slice ayown5_0l26i16 yown5_0l26i16.length cyown5_0l26i16) 3 1 yown5_0l26i16.length xsyown5_0l26i16] (enters (by kernel_rfl) (fun _ => by kernel_rfl)) rfl (srt_c yown6_0l26i16 hLyown6_0l26i16 hp18) rfl fun g19 _ _ hx19 hV19 => ?_)
                obtain ⟨xs19_0, rfl, hL19_0, rfl, hlen19_0⟩ := hV19
                replace hLyown6_0l26i16 := hLyown6_0l26i16.mono hx19.1
                replace hRyb7_0l26i16 := hRyb7_0l26i16.mono hx19.1
                replace hLyown5_0l26i16 := hLyown5_0l26i16.mono hx19.1
                refine Ok.reval 7 rfl (show (.slice ayown6_0l26i16 yown6_0l26i16.length cyown6_0l26i16 : Value) = .slice ayown6_0l26i16 (srtS yown6_0l26i16).length cyown6_0l26i16 from by rw [hlen19_0]) ?_
                refine Ok.reval 20 rfl (show (.slice ayown6_0l26i16 yown6_0l26i16.length cyown6_0l26i16 : Value) = .slice ayown6_0l26i16 (srtS yown6_0l26i16).length cyown6_0l26i16 from by rw [hlen19_0]) ?_
                refine Ok.reH (H' := [.own (.slice ayown6_0l26i16 (srtS yown6_0l26i16).length cyown6_0l26i16) 3 1 (srtS yown6_0l26i16).length xs19_0, .blk b7 (.cells #[.slice ayb7_0l26i16 yb7_0l26i16.length cyb7_0l26i16, .slice ayown5_0l26i16 yown5_0l26i16.length cyown5_0l26i16, .slice ayown6_0l26i16 (srtS yown6_0l26i16).length cyown6_0l26i16] 107), .own (.slice ayown5_0l26i16 yown5_0l26i16.length cyown5_0l26i16) 3 1 yown5_0l26i16.length xsyown5_0l26i16]) (by simp only [hlen19_0, List.cons_append, List.nil_append]) ?_
                refine Ok.nil ?_
                refine Ok.thenN ?_
                refine Ok.seq ?_
                refine Ok.region ?_
                refine Ok.batch 3 [(4, .slice ayown6_0l26i16 (srtS yown6_0l26i16).length cyown6_0l26i16), (5, .int .i64 0)] (by kernel_rfl) ?_
                refine Ok.nil ?_
                refine Ok.thenN ?_
                refine Ok.ret ?_
                refine Ok.freeze (H' := [.blk b7 (.cells #[.slice ayb7_0l26i16 yb7_0l26i16.length cyb7_0l26i16, .slice ayown5_0l26i16 yown5_0l26i16.length cyown5_0l26i16, .slice ayown6_0l26i16 (srtS yown6_0l26i16).length cyown6_0l26i16] 107), .own (.slice ayown5_0l26i16 yown5_0l26i16.length cyown5_0l26i16) 3 1 yown5_0l26i16.length xsyown5_0l26i16]) 0 rfl hL19_0 rfl fun g20 hx20 hRf20 => ?_
                replace hRyb7_0l26i16 := hRyb7_0l26i16.mono hx20.1
                replace hLyown5_0l26i16 := hLyown5_0l26i16.mono hx20.1
                exact Ok.resP (vs := [.slice ayown6_0l26i16 (srtS yown6_0l26i16).length cyown6_0l26i16, .int .i64 0]) [] [] (by decide) rfl (.inl rfl) rfl (.cons (.tmp rfl) (.cons (.tmp rfl) .nil)) (((hxl9i16.trans hxl26i16).trans hx19).trans hx20) ⟨(srtS yown6_0l26i16), 0, ayown6_0l26i16, cyown6_0l26i16, rfl, hRf20, rfl, hF⟩
def hReS (h : List JC) (l : List JV) : List Int × Int := if (haskS h l != 0) = true then ([], haskS h l) else (srtS (order h l).2, 0)
theorem hRe_F (h : List JC) (l : List JV) (hp : haskP h l) : hReF h l (fun a b => (a, b) = hReS h l) := by
  have hp0 := hp
  obtain ⟨hr, hl⟩ := hp
  rw [maxLen_eq] at hl
  refine ⟨hp0, fun h1 => by unfold hReS; rw [if_t h1], fun h1 => ?_⟩
  have hR : hReS h l = (srtS (order h l).2, 0) := by unfold hReS; rw [if_f h1]
  obtain ⟨H, hrt⟩ := ask_zero (show haskS h l = 0 by simpa using h1)
  have h300 := H.few
  have hoI : Inv h (order h l) := (comes_ok H hrt (start_inv h)).1
  -- coming
  have comes : ∀ (k i : Nat) (s : SS), i + k = l.length → Inv h s → order h l = (l.drop i).foldl (come h) s → hRel26x2 l (fun a b => (a, b) = hReS h l) (k + 1) (i : Int) h s.2 s.1 := by
    intro k
    induction k with
    | zero =>
      intro i s hi I he
      rw [List.drop_of_length_le (by omega)] at he
      have he : order h l = s := he
      refine ⟨fun h2 => by have := of_decide_eq_true h2; omega, fun _ => ⟨?_, ?_⟩⟩
      · have := I.cnt; unfold srtP; omega
      · rw [hR, he]
    | succ k ih =>
      intro i s hi I he
      rw [drop_get (l := l) default (by omega), List.foldl_cons] at he
      have hv := hrt _ (mem_getD default (show i < l.length by omega))
      have hcn := I.cnt
      refine ⟨fun _ => ⟨by omega, by omega, ?_, ?_⟩, fun h2 => by have := of_decide_eq_false h2; omega⟩
      · rw [Int.toNat_natCast]; exact ⟨h.length + 1, H, I, hv, by show unv s.1 < _; omega⟩
      · rw [Int.toNat_natCast, w64 (by omega)]
        exact ih (i + 1) _ (by omega) (come_ok H I hv).1 he
  -- the marks
  have marks : ∀ (k i : Nat), i + k = h.length → hRel9x1 h l (fun a b => (a, b) = hReS h l) (k + 1) (i : Int) (List.replicate i (-1) ++ List.replicate k 0) := by
    intro k
    induction k with
    | zero =>
      intro i hi
      refine ⟨fun h2 => by have := of_decide_eq_true h2; rw [List.length_replicate] at this; omega, fun _ => ⟨l.length + 1, ?_⟩⟩
      rw [List.replicate_zero, List.append_nil, show i = h.length by omega]
      exact comes l.length 0 (start h) (by omega) (start_inv h) rfl
    | succ k ih =>
      intro i hi
      refine ⟨fun _ => ⟨by omega, by rw [List.length_append, List.length_replicate, List.length_replicate]; omega, ?_⟩, fun h2 => by have := of_decide_eq_false h2; rw [List.length_replicate] at this; omega⟩
      rw [Int.toNat_natCast, w64 (by omega), List.set_append_right _ _ (by simp), List.length_replicate, Nat.sub_self, List.replicate_succ, List.set_cons_zero]
      have := ih (i + 1) (by omega)
      rw [List.replicate_succ', List.append_assoc] at this
      exact this
  exact ⟨by omega, by omega, _, by rw [Int.toNat_natCast]; exact marks h.length 0 (by omega)⟩
set_option linter.unusedVariables false in
theorem hRe_c {g : Ghost} {axh_0 : Option Addr} {cxh_0 : Nat} (xh : List (Int × List (List UInt8) × List (Int × Int × List UInt8))) {axroots_0 : Option Addr} {cxroots_0 : Nat} (xroots : List (Int × Int × List UInt8)) (hRxh_0 : Rep g (.slice (.pair (.int .i64) (.pair (.slice (.str)) (.slice (.pair (.int .i64) (.pair (.int .i64) (.str))))))) [.slice axh_0 xh.length cxh_0] xh) (hRxroots_0 : Rep g (.slice (.pair (.int .i64) (.pair (.int .i64) (.str)))) [.slice axroots_0 xroots.length cxroots_0] xroots)  (hp : haskP xh xroots) : CallsH Try.prog 24 #[.slice axh_0 xh.length cxh_0, .slice axroots_0 xroots.length cxroots_0] g [] (fun g' H' v => ∃ (ar0_0 : Option Addr) (cr0_0 : Nat), v = .tuple #[.slice ar0_0 ((hReS xh xroots).1).length cr0_0, .int .i64 ((hReS xh xroots).2)] ∧ Rep g' (.slice (.int .i64)) [.slice ar0_0 ((hReS xh xroots).1).length cr0_0] ((hReS xh xroots).1) ∧ H' = []) :=
  (hRe_ok xh xroots hRxh_0 hRxroots_0 _ (hRe_F xh xroots hp)).mono (by rintro g' H' v _ ⟨r0, r1, ar0_0, cr0_0, rfl, hRr0_0, rfl, hK⟩; obtain ⟨rfl, rfl⟩ : r0 = (hReS xh xroots).1 ∧ r1 = (hReS xh xroots).2 := ⟨congrArg (fun z => z.1) hK, congrArg (fun z => z.2) hK⟩; exact ⟨ar0_0, cr0_0, rfl, hRr0_0, rfl⟩)
def hSwl21b (xh : List (Int × List (List UInt8) × List (JV))) (K : (List (Int × List (List UInt8) × List (JV))) → Int → Prop) (yown4_0l26i19 : List (Int)) (x28l21 : Int) (yown16_0l21 : List (Int × List (List UInt8) × List (JV))) (C21 : Int → (List (Int × List (List UInt8) × List (JV))) → Prop) : Prop :=
  ((decide (x28l21 < (yown4_0l26i19.length : Int))) = true → (0 : Int) ≤ x28l21 ∧ Int.toNat x28l21 < yown4_0l26i19.length ∧ (0 : Int) ≤ (yown4_0l26i19.getD (Int.toNat x28l21) default) ∧ Int.toNat (yown4_0l26i19.getD (Int.toNat x28l21) default) < xh.length ∧ hcpP (xh.getD (Int.toNat (yown4_0l26i19.getD (Int.toNat x28l21) default)) default) ∧ (0 : Int) ≤ (yown4_0l26i19.getD (Int.toNat x28l21) default) ∧ Int.toNat (yown4_0l26i19.getD (Int.toNat x28l21) default) < yown16_0l21.length ∧ C21 (IntKind.wrap .i64 (x28l21 + 1)) (yown16_0l21.set (Int.toNat (yown4_0l26i19.getD (Int.toNat x28l21) default)) ((hcpS (xh.getD (Int.toNat (yown4_0l26i19.getD (Int.toNat x28l21) default)) default)).1, ((hcpS (xh.getD (Int.toNat (yown4_0l26i19.getD (Int.toNat x28l21) default)) default)).2).1, ((hcpS (xh.getD (Int.toNat (yown4_0l26i19.getD (Int.toNat x28l21) default)) default)).2).2))) ∧ ((decide (x28l21 < (yown4_0l26i19.length : Int))) = false → K yown16_0l21 0)
def hSwl21 (xh : List (Int × List (List UInt8) × List (JV))) (K : (List (Int × List (List UInt8) × List (JV))) → Int → Prop) (yown4_0l26i19 : List (Int)) : Nat → Int → (List (Int × List (List UInt8) × List (JV))) → Prop
  | 0, _, _ => False
  | k + 1, x28l21, yown16_0l21 => hSwl21b xh K yown4_0l26i19 x28l21 yown16_0l21 (hSwl21 xh K yown4_0l26i19 k)
def hSwl26x2b (xh : List (Int × List (List UInt8) × List (JV))) (xroots : List (JV)) (K : (List (Int × List (List UInt8) × List (JV))) → Int → Prop) (x32l26i19 : Int) (yb5_0l26i19 : List (Int × List (List UInt8) × List (JV))) (yown4_0l26i19 : List (Int)) (yown3_0l26i19 : List (Int)) (C26x2 : Int → (List (Int × List (List UInt8) × List (JV))) → (List (Int)) → (List (Int)) → Prop) : Prop :=
  ((decide (x32l26i19 < (xroots.length : Int))) = true → (0 : Int) ≤ x32l26i19 ∧ Int.toNat x32l26i19 < xroots.length ∧ hcoPE (yb5_0l26i19, yown3_0l26i19, yown4_0l26i19) (xroots.getD (Int.toNat x32l26i19) default) ∧ C26x2 (IntKind.wrap .i64 (x32l26i19 + 1)) ((hcoS (yb5_0l26i19, yown3_0l26i19, yown4_0l26i19) (xroots.getD (Int.toNat x32l26i19) default)).1) (((hcoS (yb5_0l26i19, yown3_0l26i19, yown4_0l26i19) (xroots.getD (Int.toNat x32l26i19) default)).2).2) (((hcoS (yb5_0l26i19, yown3_0l26i19, yown4_0l26i19) (xroots.getD (Int.toNat x32l26i19) default)).2).1)) ∧ ((decide (x32l26i19 < (xroots.length : Int))) = false → (0 : Int) ≤ (xh.length : Int) ∧ (xh.length : Int) ≤ 2513169434916 ∧ ∃ k, hSwl21 xh K yown4_0l26i19 k 0 (List.replicate (Int.toNat (xh.length : Int)) ((0, [], []) : Int × List (List UInt8) × List (JV))))
def hSwl26x2 (xh : List (Int × List (List UInt8) × List (JV))) (xroots : List (JV)) (K : (List (Int × List (List UInt8) × List (JV))) → Int → Prop) : Nat → Int → (List (Int × List (List UInt8) × List (JV))) → (List (Int)) → (List (Int)) → Prop
  | 0, _, _, _, _ => False
  | k + 1, x32l26i19, yb5_0l26i19, yown4_0l26i19, yown3_0l26i19 => hSwl26x2b xh xroots K x32l26i19 yb5_0l26i19 yown4_0l26i19 yown3_0l26i19 (hSwl26x2 xh xroots K k)
def hSwl9x1b (xh : List (Int × List (List UInt8) × List (JV))) (xroots : List (JV)) (K : (List (Int × List (List UInt8) × List (JV))) → Int → Prop) (x20l9i19 : Int) (yown3_0l9i19 : List (Int)) (C9x1 : Int → (List (Int)) → Prop) : Prop :=
  ((decide (x20l9i19 < ((List.replicate (Int.toNat (xh.length : Int)) (0 : Int)).length : Int))) = true → (0 : Int) ≤ x20l9i19 ∧ Int.toNat x20l9i19 < yown3_0l9i19.length ∧ C9x1 (IntKind.wrap .i64 (x20l9i19 + 1)) (yown3_0l9i19.set (Int.toNat x20l9i19) (-1))) ∧ ((decide (x20l9i19 < ((List.replicate (Int.toNat (xh.length : Int)) (0 : Int)).length : Int))) = false → ∃ k, hSwl26x2 xh xroots K k 0 xh ([] : List (Int)) yown3_0l9i19)
def hSwl9x1 (xh : List (Int × List (List UInt8) × List (JV))) (xroots : List (JV)) (K : (List (Int × List (List UInt8) × List (JV))) → Int → Prop) : Nat → Int → (List (Int)) → Prop
  | 0, _, _ => False
  | k + 1, x20l9i19, yown3_0l9i19 => hSwl9x1b xh xroots K x20l9i19 yown3_0l9i19 (hSwl9x1 xh xroots K k)
def hSwF (xh : List (Int × List (List UInt8) × List (JV))) (xroots : List (JV)) (K : (List (Int × List (List UInt8) × List (JV))) → Int → Prop) : Prop :=
  haskP xh xroots ∧ ((((haskS xh xroots) != 0)) = true → K ([]) (haskS xh xroots)) ∧ ((((haskS xh xroots) != 0)) = false → (0 : Int) ≤ (xh.length : Int) ∧ (xh.length : Int) ≤ 17592186044416 ∧ ∃ k, hSwl9x1 xh xroots K k 0 (List.replicate (Int.toNat (xh.length : Int)) (0 : Int)))
set_option maxHeartbeats 4000000 in
set_option maxRecDepth 100000 in
set_option linter.unusedVariables false in
theorem hSw_ok {g : Ghost} {axh_0 : Option Addr} {cxh_0 : Nat} (xh : List (Int × List (List UInt8) × List (JV))) {axroots_0 : Option Addr} {cxroots_0 : Nat} (xroots : List (JV)) (hRxh_0 : Rep g (.slice (.pair (.int .i64) (.pair (.slice (.str)) (.slice (.pair (.int .i64) (.pair (.int .i64) (.str))))))) [.slice axh_0 xh.length cxh_0] xh) (hRxroots_0 : Rep g (.slice (.pair (.int .i64) (.pair (.int .i64) (.str)))) [.slice axroots_0 xroots.length cxroots_0] xroots) (K : (List (Int × List (List UInt8) × List (JV))) → Int → Prop)
    (hF : hSwF xh xroots K) : CallsH Try.prog 25 #[.slice axh_0 xh.length cxh_0, .slice axroots_0 xroots.length cxroots_0] g [] (fun g' H' v => ∃ (r0 : List (Int × List (List UInt8) × List (JV))), ∃ (r1 : Int), ∃ (ar0_0 : Option Addr) (cr0_0 : Nat), v = .tuple #[.slice ar0_0 r0.length cr0_0, .int .i64 r1] ∧ Rep g' (.slice (.pair (.int .i64) (.pair (.slice (.str)) (.slice (.pair (.int .i64) (.pair (.int .i64) (.str))))))) [.slice ar0_0 r0.length cr0_0] r0 ∧ H' = [] ∧ K r0 r1) := by
  refine CallsH.enter 42 [(0, .slice axh_0 xh.length cxh_0), (1, .slice axroots_0 xroots.length cxroots_0)] Try.func25 rfl (by kernel_rfl) (by kernel_rfl) (by kernel_rfl) fun w0 => ?_
  refine Ok.seq ?_
  refine Ok.region ?_
  refine Ok.batch 2 [(0, .slice axh_0 xh.length cxh_0), (1, .slice axroots_0 xroots.length cxroots_0)] (by kernel_rfl) ?_
  refine Ok.nil ?_
  refine Ok.thenN ?_
  refine Ok.seq ?_
  refine Ok.seq ?_
  refine Ok.region ?_
  refine Ok.batch 2 [(0, .slice axh_0 xh.length cxh_0), (1, .slice axroots_0 xroots.length cxroots_0), (11, .slice axh_0 xh.length cxh_0), (12, .slice axroots_0 xroots.length cxroots_0)] (by kernel_rfl) ?_
  obtain ⟨hp1, hF⟩ := hF
  refine Ok.op rfl (OpOk.callG (v := .int .i64 (haskS xh xroots)) (enters (by kernel_rfl) (fun _ => by kernel_rfl)) (fun W hW => hask_c xh xroots (hRxh_0.mono hW.sees) (hRxroots_0.mono hW.sees) hp1) rfl ?_)
  refine Ok.batch 1 [(0, .slice axh_0 xh.length cxh_0), (1, .slice axroots_0 xroots.length cxroots_0), (6, .int .i64 (haskS xh xroots))] (by kernel_rfl) ?_
  refine Ok.nil ?_
  refine Ok.thenN ?_
  refine Ok.seq ?_
  refine Ok.region ?_
  refine Ok.batch 2 [(0, .slice axh_0 xh.length cxh_0), (1, .slice axroots_0 xroots.length cxroots_0), (6, .int .i64 (haskS xh xroots)), (15, .bool ((haskS xh xroots) != 0))] (by kernel_rfl) ?_
  refine Ok.nil ?_
  refine Ok.thenN ?_
  refine Ok.cond (b := ((haskS xh xroots) != 0)) rfl (fun hc2 => ?_) (fun hc2 => ?_)
  · replace hF := hF.1 hc2
    refine Ok.seq ?_
    refine Ok.region ?_
    refine Ok.batch 3 [(4, .slice none 0 0), (5, .int .i64 (haskS xh xroots))] (by kernel_rfl) ?_
    refine Ok.nil ?_
    refine Ok.thenN ?_
    refine Ok.ret ?_
    refine Ok.thenR ?_
    exact Ok.resH (vs := [.slice none 0 0, .int .i64 (haskS xh xroots)]) (.inl rfl) rfl (.cons (.tmp rfl) (.cons (.tmp rfl) .nil)) (Gext.refl w0 g) ⟨([]), (haskS xh xroots), none, 0, rfl, Rep.nil, rfl, hF⟩
  · replace hF := hF.2 hc2
    refine Ok.skip ?_
    refine Ok.thenN ?_
    refine Ok.seq ?_
    refine Ok.region ?_
    refine Ok.batch 2 [(0, .slice axh_0 xh.length cxh_0), (17, .slice axh_0 xh.length cxh_0), (18, .slice axroots_0 xroots.length cxroots_0)] (by kernel_rfl) ?_
    refine Ok.op rfl (OpOk.inline (args := #[.slice axh_0 xh.length cxh_0, .slice axroots_0 xroots.length cxroots_0]) 41 [(0, .slice axh_0 xh.length cxh_0), (1, .slice axroots_0 xroots.length cxroots_0)] (enters (by kernel_rfl) (fun _ => by kernel_rfl)) Try.func58 rfl rfl rfl rfl ?_)
    refine Ok.seq ?_
    refine Ok.region ?_
    refine Ok.batch 1 [(0, .slice axh_0 xh.length cxh_0), (1, .slice axroots_0 xroots.length cxroots_0)] (by kernel_rfl) ?_
    refine Ok.nil ?_
    refine Ok.thenN ?_
    refine Ok.seq ?_
    refine Ok.region ?_
    refine Ok.batch 3 [(1, .slice axroots_0 xroots.length cxroots_0), (9, .slice axh_0 xh.length cxh_0), (11, .int .i64 (xh.length : Int))] (by kernel_rfl) ?_
    obtain ⟨h03, h13, hF⟩ := hF
    refine Ok.op rfl (OpOk.makeZero (e := .int .i64) (E := 3) (nn := (xh.length : Int)) (y := 0) (z := .int .i64 0) 8 17592186044416 rfl rfl Try.underlying61 (by kernel_rfl) (by kernel_rfl) (by kernel_rfl) rfl h03 h13 rfl fun a3 c3 xs3 hL3 => ?_)
    refine Ok.batch 1 [(1, .slice axroots_0 xroots.length cxroots_0), (13, .agg #[.slice axh_0 xh.length cxh_0, .slice a3 (List.replicate (Int.toNat (xh.length : Int)) (0 : Int)).length c3, .slice none 0 0])] (by kernel_rfl) ?_
    have hL4 : RepL g (.int .i64) [] [] := rfl
    refine Ok.ownNil 3 1 ?_
    refine Ok.op rfl (OpOk.box (v := .agg #[.slice axh_0 xh.length cxh_0, .slice a3 (List.replicate (Int.toNat (xh.length : Int)) (0 : Int)).length c3, .slice none ([] : List (Int)).length 0]) (cs := #[.slice axh_0 xh.length cxh_0, .slice a3 (List.replicate (Int.toNat (xh.length : Int)) (0 : Int)).length c3, .slice none ([] : List (Int)).length 0]) rfl (by kernel_rfl) rfl fun b5 => ?_)
    refine Ok.batch 1 [(1, .slice axroots_0 xroots.length cxroots_0), (5, .pointer (some ⟨b5, 0, none⟩))] (by kernel_rfl) ?_
    refine Ok.nil ?_
    refine Ok.thenN ?_
    refine Ok.seq ?_
    refine Ok.seq ?_
    refine Ok.region ?_
    refine Ok.batch 3 [(1, .slice axroots_0 xroots.length cxroots_0), (5, .pointer (some ⟨b5, 0, none⟩)), (17, .pointer (some ⟨b5, 1, none⟩))] (by kernel_rfl) ?_
    refine Ok.op rfl (OpOk.step (v := .slice a3 (List.replicate (Int.toNat (xh.length : Int)) (0 : Int)).length c3) (Yields.load 0 rfl rfl Try.underlying61 rfl (by kernel_rfl)) rfl rfl ?_)
    refine Ok.batch 2 [(1, .slice axroots_0 xroots.length cxroots_0), (5, .pointer (some ⟨b5, 0, none⟩)), (19, .int .i64 ((List.replicate (Int.toNat (xh.length : Int)) (0 : Int)).length : Int)), (20, .int .i64 0)] (by kernel_rfl) ?_
    refine Ok.nil ?_
    refine Ok.thenN ?_
    refine Ok.block ?_
    obtain ⟨k, hF⟩ := hF
    refine Ok.loop (fun k a W => ∃ gl9i19 : Ghost, Gext w0 g gl9i19 ∧ ∃ (x20l9i19 : Int) (ayown3_0l9i19 : Option Addr) (cyown3_0l9i19 : Nat) (yown3_0l9i19 : List (Int)) (xsyown3_0l9i19 : List Value), RepL gl9i19 (.int .i64) xsyown3_0l9i19 yown3_0l9i19 ∧ StA 41 [(1, .slice axroots_0 xroots.length cxroots_0), (5, .pointer (some ⟨b5, 0, none⟩)), (19, .int .i64 ((List.replicate (Int.toNat (xh.length : Int)) (0 : Int)).length : Int)), (20, .int .i64 x20l9i19)] a ∧ StW w0 [.blk b5 (.cells #[.slice axh_0 xh.length cxh_0, .slice ayown3_0l9i19 yown3_0l9i19.length cyown3_0l9i19, .slice none ([] : List (Int)).length 0] 107), .own (.slice none ([] : List (Int)).length 0) 3 1 ([] : List (Int)).length ([]), .own (.slice ayown3_0l9i19 yown3_0l9i19.length cyown3_0l9i19) 3 1 yown3_0l9i19.length xsyown3_0l9i19] gl9i19 W ∧ hSwl9x1 xh xroots K k x20l9i19 yown3_0l9i19) k ?_ ?_
    ·
      exact fun a W hA hW => ⟨g, (Gext.refl w0 g), 0, a3, c3, (List.replicate (Int.toNat (xh.length : Int)) (0 : Int)), xs3, hL3, hA.sub (by kernel_rfl), hW, hF⟩
    ·
      clear hF
      rintro k9x1 a W ⟨gl9i19, hxl9i19, x20l9i19, ayown3_0l9i19, cyown3_0l9i19, yown3_0l9i19, xsyown3_0l9i19, hLyown3_0l9i19, hA, hW, hF⟩
      cases k9x1 with
      | zero => exact (hF : False).elim
      | succ k9x1 =>
        refine (?_ : Ok _ _ _ _ _ _) a W hA hW
        clear hA hW
        replace hRxroots_0 := hRxroots_0.mono hxl9i19.1
        replace hRxh_0 := hRxh_0.mono hxl9i19.1
        replace hL4 := hL4.mono hxl9i19.1
        refine Ok.seq ?_
        refine Ok.region ?_
        refine Ok.batch 1 [(1, .slice axroots_0 xroots.length cxroots_0), (5, .pointer (some ⟨b5, 0, none⟩)), (19, .int .i64 ((List.replicate (Int.toNat (xh.length : Int)) (0 : Int)).length : Int)), (20, .int .i64 x20l9i19), (21, .bool (decide (x20l9i19 < ((List.replicate (Int.toNat (xh.length : Int)) (0 : Int)).length : Int))))] (by kernel_rfl) ?_
        refine Ok.nil ?_
        refine Ok.thenN ?_
        refine Ok.seq ?_
        refine Ok.cond (b := decide (x20l9i19 < ((List.replicate (Int.toNat (xh.length : Int)) (0 : Int)).length : Int))) rfl (fun hc6 => ?_) (fun hc6 => ?_)
        · replace hF := hF.1 hc6
          refine Ok.skip ?_
          refine Ok.thenN ?_
          refine Ok.seq ?_
          refine Ok.block ?_
          refine Ok.seq ?_
          refine Ok.region ?_
          refine Ok.batch 2 [(1, .slice axroots_0 xroots.length cxroots_0), (5, .pointer (some ⟨b5, 0, none⟩)), (6, .int .i64 x20l9i19), (19, .int .i64 ((List.replicate (Int.toNat (xh.length : Int)) (0 : Int)).length : Int)), (20, .int .i64 x20l9i19)] (by kernel_rfl) ?_
          refine Ok.nil ?_
          refine Ok.thenN ?_
          refine Ok.region ?_
          refine Ok.batch 3 [(1, .slice axroots_0 xroots.length cxroots_0), (5, .pointer (some ⟨b5, 0, none⟩)), (6, .int .i64 x20l9i19), (19, .int .i64 ((List.replicate (Int.toNat (xh.length : Int)) (0 : Int)).length : Int)), (20, .int .i64 x20l9i19), (25, .pointer (some ⟨b5, 1, none⟩))] (by kernel_rfl) ?_
          refine Ok.op rfl (OpOk.step (v := .slice ayown3_0l9i19 yown3_0l9i19.length cyown3_0l9i19) (Yields.load 0 rfl rfl Try.underlying61 rfl (by kernel_rfl)) rfl rfl ?_)
          refine Ok.batch 1 [(1, .slice axroots_0 xroots.length cxroots_0), (5, .pointer (some ⟨b5, 0, none⟩)), (19, .int .i64 ((List.replicate (Int.toNat (xh.length : Int)) (0 : Int)).length : Int)), (20, .int .i64 x20l9i19), (26, .slice ayown3_0l9i19 yown3_0l9i19.length cyown3_0l9i19), (27, .int .i64 x20l9i19)] (by kernel_rfl) ?_
          obtain ⟨h08, h18, hF⟩ := hF
          have he8 := get_of (l := yown3_0l9i19) (default : Int) h18
          generalize hg8 : (yown3_0l9i19.getD (Int.toNat x20l9i19) default) = e8 at he8 hF ⊢
          refine Ok.op rfl (OpOk.indexOwn (e := .int .i64) (q := x20l9i19) (el := e8) 2 rfl hLyown3_0l9i19 rfl rfl Try.underlying61 (by kernel_rfl) (by kernel_rfl) h08 he8 rfl fun cs7 _ hr7 hc7 => ?_)
          obtain rfl := hr7
          replace hc7 : ∀ j v, ([.int .i64 e8] : List Value)[j]? = some v → xsyown3_0l9i19[Int.toNat x20l9i19 * 1 + j]? = some v := hc7
          refine Ok.op rfl (OpOk.storeOwn (e := .int .i64) (q := Int.toNat x20l9i19) (cells := [.int .i64 e8]) (vs := [.int .i64 (-1)]) (el' := -1) 2 0 1 rfl hLyown3_0l9i19 hc7 (by kernel_rfl) rfl rfl rfl (by kernel_rfl) (by kernel_rfl) (by kernel_rfl) (by kernel_rfl) (by kernel_rfl) (show Rep _ _ [.int .i64 (-1)] _ from rfl) fun xs9 hL9 => ?_)
          rw [show yown3_0l9i19.length = (yown3_0l9i19.set (Int.toNat x20l9i19) (-1)).length from (List.length_set ..).symm]
          refine Ok.nil ?_
          refine Ok.blockN ?_
          refine Ok.thenN ?_
          refine Ok.region ?_
          refine Ok.batch 2 [(1, .slice axroots_0 xroots.length cxroots_0), (5, .pointer (some ⟨b5, 0, none⟩)), (19, .int .i64 ((List.replicate (Int.toNat (xh.length : Int)) (0 : Int)).length : Int)), (20, .int .i64 (IntKind.wrap .i64 (x20l9i19 + 1)))] (by kernel_rfl) ?_
          refine Ok.nil ?_
          refine Ok.thenN ?_
          subst hg8
          exact fun a W hA hW => ⟨k9x1, Nat.lt_succ_self _, gl9i19, hxl9i19, IntKind.wrap .i64 (x20l9i19 + 1), ayown3_0l9i19, cyown3_0l9i19, (yown3_0l9i19.set (Int.toNat x20l9i19) (-1)), xs9, hL9, hA.sub (by kernel_rfl), hW, hF⟩
        · replace hF := hF.2 hc6
          refine Ok.exit ?_
          refine Ok.thenE ?_
          refine Ok.thenE ?_
          refine Ok.blockHit ?_
          refine Ok.thenN ?_
          refine Ok.seq ?_
          refine Ok.seq ?_
          refine Ok.region ?_
          refine Ok.batch 3 [(5, .pointer (some ⟨b5, 0, none⟩)), (30, .slice axroots_0 xroots.length cxroots_0), (31, .int .i64 (xroots.length : Int)), (32, .int .i64 0)] (by kernel_rfl) ?_
          refine Ok.nil ?_
          refine Ok.thenN ?_
          refine Ok.block ?_
          obtain ⟨k, hF⟩ := hF
          refine Ok.loop (fun k a W => ∃ gl26i19 : Ghost, Gext w0 gl9i19 gl26i19 ∧ ∃ (x32l26i19 : Int) (ayb5_0l26i19 : Option Addr) (cyb5_0l26i19 : Nat) (yb5_0l26i19 : List (Int × List (List UInt8) × List (JV))) (ayown4_0l26i19 : Option Addr) (cyown4_0l26i19 : Nat) (yown4_0l26i19 : List (Int)) (xsyown4_0l26i19 : List Value) (ayown3_0l26i19 : Option Addr) (cyown3_0l26i19 : Nat) (yown3_0l26i19 : List (Int)) (xsyown3_0l26i19 : List Value), Rep gl26i19 (.slice (.pair (.int .i64) (.pair (.slice (.str)) (.slice (.pair (.int .i64) (.pair (.int .i64) (.str))))))) [.slice ayb5_0l26i19 yb5_0l26i19.length cyb5_0l26i19] yb5_0l26i19 ∧ RepL gl26i19 (.int .i64) xsyown4_0l26i19 yown4_0l26i19 ∧ RepL gl26i19 (.int .i64) xsyown3_0l26i19 yown3_0l26i19 ∧ StA 41 [(5, .pointer (some ⟨b5, 0, none⟩)), (30, .slice axroots_0 xroots.length cxroots_0), (31, .int .i64 (xroots.length : Int)), (32, .int .i64 x32l26i19)] a ∧ StW w0 [.blk b5 (.cells #[.slice ayb5_0l26i19 yb5_0l26i19.length cyb5_0l26i19, .slice ayown3_0l26i19 yown3_0l26i19.length cyown3_0l26i19, .slice ayown4_0l26i19 yown4_0l26i19.length cyown4_0l26i19] 107), .own (.slice ayown4_0l26i19 yown4_0l26i19.length cyown4_0l26i19) 3 1 yown4_0l26i19.length xsyown4_0l26i19, .own (.slice ayown3_0l26i19 yown3_0l26i19.length cyown3_0l26i19) 3 1 yown3_0l26i19.length xsyown3_0l26i19] gl26i19 W ∧ hSwl26x2 xh xroots K k x32l26i19 yb5_0l26i19 yown4_0l26i19 yown3_0l26i19) k ?_ ?_
          ·
            exact fun a W hA hW => ⟨gl9i19, (Gext.refl w0 gl9i19), 0, axh_0, cxh_0, xh, none, 0, ([] : List (Int)), [], ayown3_0l9i19, cyown3_0l9i19, yown3_0l9i19, xsyown3_0l9i19, hRxh_0, hL4, hLyown3_0l9i19, hA.sub (by kernel_rfl), hW, hF⟩
          ·
            clear hF
            rintro k26x2 a W ⟨gl26i19, hxl26i19, x32l26i19, ayb5_0l26i19, cyb5_0l26i19, yb5_0l26i19, ayown4_0l26i19, cyown4_0l26i19, yown4_0l26i19, xsyown4_0l26i19, ayown3_0l26i19, cyown3_0l26i19, yown3_0l26i19, xsyown3_0l26i19, hRyb5_0l26i19, hLyown4_0l26i19, hLyown3_0l26i19, hA, hW, hF⟩
            cases k26x2 with
            | zero => exact (hF : False).elim
            | succ k26x2 =>
              refine (?_ : Ok _ _ _ _ _ _) a W hA hW
              clear hA hW
              replace hRxroots_0 := hRxroots_0.mono hxl26i19.1
              replace hRxh_0 := hRxh_0.mono hxl26i19.1
              refine Ok.seq ?_
              refine Ok.region ?_
              refine Ok.batch 1 [(5, .pointer (some ⟨b5, 0, none⟩)), (30, .slice axroots_0 xroots.length cxroots_0), (31, .int .i64 (xroots.length : Int)), (32, .int .i64 x32l26i19), (33, .bool (decide (x32l26i19 < (xroots.length : Int))))] (by kernel_rfl) ?_
              refine Ok.nil ?_
              refine Ok.thenN ?_
              refine Ok.seq ?_
              refine Ok.cond (b := decide (x32l26i19 < (xroots.length : Int))) rfl (fun hc10 => ?_) (fun hc10 => ?_)
              · replace hF := hF.1 hc10
                refine Ok.skip ?_
                refine Ok.thenN ?_
                refine Ok.seq ?_
                refine Ok.block ?_
                refine Ok.seq ?_
                refine Ok.region ?_
                obtain ⟨h012, h112, hF⟩ := hF
                have he12 := get_of (l := xroots) (default : JV) h112
                generalize hg12 : (xroots.getD (Int.toNat x32l26i19) default) = e12 at he12 hF ⊢
                refine Ok.op rfl (OpOk.indexRo (e := .pair (.int .i64) (.pair (.int .i64) (.str))) (i := x32l26i19) (el := e12) rfl rfl Try.underlying29 (by kernel_rfl) hRxroots_0 h012 he12 rfl fun q11 o11 cs11 _ hat11 hr11 => ?_)
                obtain ⟨_, _, rfl, rfl, ⟨_, _, rfl, rfl, rfl⟩⟩ := hr11
                replace hat11 : At gl26i19 q11 o11 [.int .i64 e12.1, .int .i64 e12.2.1, .string ⟨⟨e12.2.2⟩⟩] := hat11
                refine Ok.op rfl (OpOk.step (v := .agg #[.int .i64 e12.1, .int .i64 e12.2.1, .string ⟨⟨e12.2.2⟩⟩]) (Yields.loadAggRo 0 3 #[.int .i64 e12.1, .int .i64 e12.2.1, .string ⟨⟨e12.2.2⟩⟩] hat11 (by kernel_rfl) Try.underlying24 rfl (by kernel_rfl) (by kernel_rfl) (by kernel_rfl)) rfl rfl ?_)
                refine Ok.op rfl (OpOk.alloc (z := .agg #[.int .i64 0, .int .i64 0, .string ⟨⟨([] : List UInt8)⟩⟩]) (cs := #[.int .i64 0, .int .i64 0, .string ⟨⟨([] : List UInt8)⟩⟩]) (by kernel_rfl) (by kernel_rfl) rfl fun b13 => ?_)
                refine Ok.op rfl (OpOk.store (k := 3) (v := .agg #[.int .i64 e12.1, .int .i64 e12.2.1, .string ⟨⟨e12.2.2⟩⟩]) (H' := [.blk b13 (.cells #[.int .i64 e12.1, .int .i64 e12.2.1, .string ⟨⟨e12.2.2⟩⟩] 24), .blk b5 (.cells #[.slice ayb5_0l26i19 yb5_0l26i19.length cyb5_0l26i19, .slice ayown3_0l26i19 yown3_0l26i19.length cyown3_0l26i19, .slice ayown4_0l26i19 yown4_0l26i19.length cyown4_0l26i19] 107), .own (.slice ayown4_0l26i19 yown4_0l26i19.length cyown4_0l26i19) 3 1 yown4_0l26i19.length xsyown4_0l26i19, .own (.slice ayown3_0l26i19 yown3_0l26i19.length cyown3_0l26i19) 3 1 yown3_0l26i19.length xsyown3_0l26i19]) 0 rfl rfl rfl (by kernel_rfl) (by kernel_rfl) (by kernel_rfl) (by kernel_rfl) (by kernel_rfl) ?_)
                refine Ok.nil ?_
                refine Ok.thenN ?_
                refine Ok.region ?_
                refine Ok.batch 1 [(5, .pointer (some ⟨b5, 0, none⟩)), (8, .pointer (some ⟨b13, 0, none⟩)), (30, .slice axroots_0 xroots.length cxroots_0), (31, .int .i64 (xroots.length : Int)), (32, .int .i64 x32l26i19), (36, .pointer (some ⟨b5, 0, none⟩))] (by kernel_rfl) ?_
                refine Ok.op rfl (OpOk.step (v := .agg #[.int .i64 e12.1, .int .i64 e12.2.1, .string ⟨⟨e12.2.2⟩⟩]) (Yields.loadAgg 0 3 #[.int .i64 e12.1, .int .i64 e12.2.1, .string ⟨⟨e12.2.2⟩⟩] rfl rfl Try.underlying24 rfl (by kernel_rfl) (by kernel_rfl) (by kernel_rfl)) rfl rfl ?_)
                obtain ⟨hp14, hF⟩ := hF
                refine Ok.entries [1, 3, 2, 0] [.blk b5 (.cells #[.slice ayb5_0l26i19 yb5_0l26i19.length cyb5_0l26i19, .slice ayown3_0l26i19 yown3_0l26i19.length cyown3_0l26i19, .slice ayown4_0l26i19 yown4_0l26i19.length cyown4_0l26i19] 107), .own (.slice ayown3_0l26i19 yown3_0l26i19.length cyown3_0l26i19) 3 1 yown3_0l26i19.length xsyown3_0l26i19, .own (.slice ayown4_0l26i19 yown4_0l26i19.length cyown4_0l26i19) 3 1 yown4_0l26i19.length xsyown4_0l26i19, .blk b13 (.cells #[.int .i64 e12.1, .int .i64 e12.2.1, .string ⟨⟨e12.2.2⟩⟩] 24)] (by decide) rfl ?_
                refine Ok.op rfl (OpOk.callH [.blk b5 (.cells #[.slice ayb5_0l26i19 yb5_0l26i19.length cyb5_0l26i19, .slice ayown3_0l26i19 yown3_0l26i19.length cyown3_0l26i19, .slice ayown4_0l26i19 yown4_0l26i19.length cyown4_0l26i19] 107), .own (.slice ayown3_0l26i19 yown3_0l26i19.length cyown3_0l26i19) 3 1 yown3_0l26i19.length xsyown3_0l26i19, .own (.slice ayown4_0l26i19 yown4_0l26i19.length cyown4_0l26i19) 3 1 yown4_0l26i19.length xsyown4_0l26i19] [.blk b13 (.cells #[.int .i64 e12.1, .int .i64 e12.2.1, .string ⟨⟨e12.2.2⟩⟩] 24)] (enters (by kernel_rfl) (fun _ => by kernel_rfl)) rfl (hco_c (yb5_0l26i19, yown3_0l26i19, yown4_0l26i19) e12 hRyb5_0l26i19 hLyown3_0l26i19 hLyown4_0l26i19 hp14) rfl fun g15 _ _ hx15 hV15 => ?_)
                obtain ⟨a15_0, c15_0, a15_2, c15_2, xs15_2, a15_5, c15_5, xs15_5, rfl, hR15_0, hL15_2, hL15_5, rfl⟩ := hV15
                replace hRxroots_0 := hRxroots_0.mono hx15.1
                replace hRxh_0 := hRxh_0.mono hx15.1
                refine Ok.nil ?_
                refine Ok.blockN ?_
                refine Ok.thenN ?_
                refine Ok.region ?_
                refine Ok.batch 2 [(5, .pointer (some ⟨b5, 0, none⟩)), (30, .slice axroots_0 xroots.length cxroots_0), (31, .int .i64 (xroots.length : Int)), (32, .int .i64 (IntKind.wrap .i64 (x32l26i19 + 1)))] (by kernel_rfl) ?_
                refine Ok.nil ?_
                refine Ok.thenN ?_
                subst hg12
                exact fun a W hA hW => ⟨k26x2, Nat.lt_succ_self _, g15, (hxl26i19.trans hx15), IntKind.wrap .i64 (x32l26i19 + 1), a15_0, c15_0, (hcoS (yb5_0l26i19, yown3_0l26i19, yown4_0l26i19) (xroots.getD (Int.toNat x32l26i19) default)).1, a15_5, c15_5, ((hcoS (yb5_0l26i19, yown3_0l26i19, yown4_0l26i19) (xroots.getD (Int.toNat x32l26i19) default)).2).2, xs15_5, a15_2, c15_2, ((hcoS (yb5_0l26i19, yown3_0l26i19, yown4_0l26i19) (xroots.getD (Int.toNat x32l26i19) default)).2).1, xs15_2, hR15_0, hL15_5, hL15_2, hA.sub (by kernel_rfl), hW.pick [0, 2, 1] _ (by decide) rfl, hF⟩
              · replace hF := hF.2 hc10
                refine Ok.exit ?_
                refine Ok.thenE ?_
                refine Ok.thenE ?_
                refine Ok.blockHit ?_
                refine Ok.thenN ?_
                refine Ok.seq ?_
                refine Ok.region ?_
                refine Ok.batch 2 [(4, .pointer (some ⟨b5, 0, none⟩))] (by kernel_rfl) ?_
                refine Ok.nil ?_
                refine Ok.thenN ?_
                refine Ok.ret ?_
                refine Ok.back (vs := [.pointer (some ⟨b5, 0, none⟩)]) (.inl rfl) rfl (.cons (.tmp rfl) .nil) rfl ?_
                refine Ok.batch 1 [(0, .slice axh_0 xh.length cxh_0), (7, .pointer (some ⟨b5, 0, none⟩))] (by kernel_rfl) ?_
                refine Ok.nil ?_
                refine Ok.thenN ?_
                refine Ok.seq ?_
                refine Ok.region ?_
                refine Ok.batch 2 [(0, .slice axh_0 xh.length cxh_0), (7, .pointer (some ⟨b5, 0, none⟩)), (21, .int .i64 (xh.length : Int))] (by kernel_rfl) ?_
                obtain ⟨h016, h116, hF⟩ := hF
                refine Ok.op rfl (OpOk.makeZero (e := .pair (.int .i64) (.pair (.slice (.str)) (.slice (.pair (.int .i64) (.pair (.int .i64) (.str)))))) (E := 72) (nn := (xh.length : Int)) (y := (0, [], [])) (z := .agg #[.int .i64 0, .slice none 0 0, .slice none 0 0]) 56 2513169434916 rfl rfl Try.underlying22 (by kernel_rfl) (by kernel_rfl) (by kernel_rfl) ⟨[.int .i64 0], [.slice none 0 0, .slice none 0 0], rfl, rfl, ⟨[.slice none 0 0], [.slice none 0 0], rfl, Rep.nil, Rep.nil⟩⟩ h016 h116 rfl fun a16 c16 xs16 hL16 => ?_)
                refine Ok.batch 1 [(0, .slice axh_0 xh.length cxh_0), (7, .pointer (some ⟨b5, 0, none⟩)), (8, .slice a16 (List.replicate (Int.toNat (xh.length : Int)) ((0, [], []) : Int × List (List UInt8) × List (JV))).length c16)] (by kernel_rfl) ?_
                refine Ok.nil ?_
                refine Ok.thenN ?_
                refine Ok.seq ?_
                refine Ok.seq ?_
                refine Ok.region ?_
                refine Ok.batch 3 [(0, .slice axh_0 xh.length cxh_0), (8, .slice a16 (List.replicate (Int.toNat (xh.length : Int)) ((0, [], []) : Int × List (List UInt8) × List (JV))).length c16), (25, .pointer (some ⟨b5, 2, none⟩))] (by kernel_rfl) ?_
                refine Ok.op rfl (OpOk.step (v := .slice ayown4_0l26i19 yown4_0l26i19.length cyown4_0l26i19) (Yields.load 1 rfl rfl Try.underlying61 rfl (by kernel_rfl)) rfl rfl ?_)
                refine Ok.batch 2 [(0, .slice axh_0 xh.length cxh_0), (8, .slice a16 (List.replicate (Int.toNat (xh.length : Int)) ((0, [], []) : Int × List (List UInt8) × List (JV))).length c16), (26, .slice ayown4_0l26i19 yown4_0l26i19.length cyown4_0l26i19), (27, .int .i64 (yown4_0l26i19.length : Int)), (28, .int .i64 0)] (by kernel_rfl) ?_
                refine Ok.nil ?_
                refine Ok.thenN ?_
                refine Ok.block ?_
                obtain ⟨k, hF⟩ := hF
                refine Ok.loop (fun k a W => ∃ gl21 : Ghost, Gext w0 gl26i19 gl21 ∧ ∃ (x28l21 : Int) (ayown16_0l21 : Option Addr) (cyown16_0l21 : Nat) (yown16_0l21 : List (Int × List (List UInt8) × List (JV))) (xsyown16_0l21 : List Value), RepL gl21 (.pair (.int .i64) (.pair (.slice (.str)) (.slice (.pair (.int .i64) (.pair (.int .i64) (.str)))))) xsyown16_0l21 yown16_0l21 ∧ StA 42 [(0, .slice axh_0 xh.length cxh_0), (8, .slice ayown16_0l21 yown16_0l21.length cyown16_0l21), (26, .slice ayown4_0l26i19 yown4_0l26i19.length cyown4_0l26i19), (27, .int .i64 (yown4_0l26i19.length : Int)), (28, .int .i64 x28l21)] a ∧ StW w0 [.own (.slice ayown16_0l21 yown16_0l21.length cyown16_0l21) 72 3 yown16_0l21.length xsyown16_0l21, .own (.slice ayown4_0l26i19 yown4_0l26i19.length cyown4_0l26i19) 3 1 yown4_0l26i19.length xsyown4_0l26i19] gl21 W ∧ hSwl21 xh K yown4_0l26i19 k x28l21 yown16_0l21) k ?_ ?_
                ·
                  exact fun a W hA hW => ⟨gl26i19, (Gext.refl w0 gl26i19), 0, a16, c16, (List.replicate (Int.toNat (xh.length : Int)) ((0, [], []) : Int × List (List UInt8) × List (JV))), xs16, hL16, hA.sub (by kernel_rfl), hW.sub (.cons_cons _ (.cons _ (.cons_cons _ (.cons _ .slnil)))), hF⟩
                ·
                  clear hF
                  rintro k21 a W ⟨gl21, hxl21, x28l21, ayown16_0l21, cyown16_0l21, yown16_0l21, xsyown16_0l21, hLyown16_0l21, hA, hW, hF⟩
                  cases k21 with
                  | zero => exact (hF : False).elim
                  | succ k21 =>
                    refine (?_ : Ok _ _ _ _ _ _) a W hA hW
                    clear hA hW
                    replace hRxh_0 := hRxh_0.mono hxl21.1
                    replace hLyown4_0l26i19 := hLyown4_0l26i19.mono hxl21.1
                    refine Ok.seq ?_
                    refine Ok.region ?_
                    refine Ok.batch 1 [(0, .slice axh_0 xh.length cxh_0), (8, .slice ayown16_0l21 yown16_0l21.length cyown16_0l21), (26, .slice ayown4_0l26i19 yown4_0l26i19.length cyown4_0l26i19), (27, .int .i64 (yown4_0l26i19.length : Int)), (28, .int .i64 x28l21), (29, .bool (decide (x28l21 < (yown4_0l26i19.length : Int))))] (by kernel_rfl) ?_
                    refine Ok.nil ?_
                    refine Ok.thenN ?_
                    refine Ok.seq ?_
                    refine Ok.cond (b := decide (x28l21 < (yown4_0l26i19.length : Int))) rfl (fun hc17 => ?_) (fun hc17 => ?_)
                    · replace hF := hF.1 hc17
                      refine Ok.skip ?_
                      refine Ok.thenN ?_
                      refine Ok.seq ?_
                      refine Ok.block ?_
                      refine Ok.seq ?_
                      refine Ok.region ?_
                      obtain ⟨h019, h119, hF⟩ := hF
                      have he19 := get_of (l := yown4_0l26i19) (default : Int) h119
                      generalize hg19 : (yown4_0l26i19.getD (Int.toNat x28l21) default) = e19 at he19 hF ⊢
                      refine Ok.op rfl (OpOk.indexOwn (e := .int .i64) (q := x28l21) (el := e19) 1 rfl hLyown4_0l26i19 rfl rfl Try.underlying61 (by kernel_rfl) (by kernel_rfl) h019 he19 rfl fun cs18 _ hr18 hc18 => ?_)
                      obtain rfl := hr18
                      replace hc18 : ∀ j v, ([.int .i64 e19] : List Value)[j]? = some v → xsyown4_0l26i19[Int.toNat x28l21 * 1 + j]? = some v := hc18
                      refine Ok.op rfl (OpOk.step (v := .int .i64 e19) (Yields.loadOwn 1 0 rfl hc18 rfl Try.underlying3 rfl (by kernel_rfl)) rfl rfl ?_)
                      refine Ok.batch 1 [(0, .slice axh_0 xh.length cxh_0), (8, .slice ayown16_0l21 yown16_0l21.length cyown16_0l21), (10, .int .i64 e19), (26, .slice ayown4_0l26i19 yown4_0l26i19.length cyown4_0l26i19), (27, .int .i64 (yown4_0l26i19.length : Int)), (28, .int .i64 x28l21)] (by kernel_rfl) ?_
                      refine Ok.nil ?_
                      refine Ok.thenN ?_
                      refine Ok.region ?_
                      refine Ok.batch 4 [(0, .slice axh_0 xh.length cxh_0), (8, .slice ayown16_0l21 yown16_0l21.length cyown16_0l21), (26, .slice ayown4_0l26i19 yown4_0l26i19.length cyown4_0l26i19), (27, .int .i64 (yown4_0l26i19.length : Int)), (28, .int .i64 x28l21), (32, .slice ayown16_0l21 yown16_0l21.length cyown16_0l21), (33, .int .i64 e19), (34, .slice axh_0 xh.length cxh_0), (35, .int .i64 e19)] (by kernel_rfl) ?_
                      obtain ⟨h021, h121, hF⟩ := hF
                      have he21 := get_of (l := xh) (default : Int × List (List UInt8) × List (JV)) h121
                      generalize hg21 : (xh.getD (Int.toNat e19) default) = e21 at he21 hF ⊢
                      refine Ok.op rfl (OpOk.indexRo (e := .pair (.int .i64) (.pair (.slice (.str)) (.slice (.pair (.int .i64) (.pair (.int .i64) (.str)))))) (i := e19) (el := e21) rfl rfl Try.underlying22 (by kernel_rfl) hRxh_0 h021 he21 rfl fun q20 o20 cs20 _ hat20 hr20 => ?_)
                      obtain ⟨_, _, rfl, rfl, ⟨_, _, rfl, ⟨a20_1, c20_1, rfl, hm20_1, hr20_1⟩, ⟨a20_2, c20_2, rfl, hm20_2, hr20_2⟩⟩⟩ := hr20
                      have hR20_1 : Rep gl21 (.slice (.str)) [.slice a20_1 e21.2.1.length c20_1] e21.2.1 := ⟨a20_1, c20_1, rfl, hm20_1, hr20_1⟩
                      have hR20_2 : Rep gl21 (.slice (.pair (.int .i64) (.pair (.int .i64) (.str)))) [.slice a20_2 e21.2.2.length c20_2] e21.2.2 := ⟨a20_2, c20_2, rfl, hm20_2, hr20_2⟩
                      replace hat20 : At gl21 q20 o20 [.int .i64 e21.1, .slice a20_1 e21.2.1.length c20_1, .slice a20_2 e21.2.2.length c20_2] := hat20
                      refine Ok.op rfl (OpOk.step (v := .agg #[.int .i64 e21.1, .slice a20_1 e21.2.1.length c20_1, .slice a20_2 e21.2.2.length c20_2]) (Yields.loadAggRo 0 3 #[.int .i64 e21.1, .slice a20_1 e21.2.1.length c20_1, .slice a20_2 e21.2.2.length c20_2] hat20 (by kernel_rfl) Try.underlying72 rfl (by kernel_rfl) (by kernel_rfl) (by kernel_rfl)) rfl rfl ?_)
                      obtain ⟨hp22, hF⟩ := hF
                      refine Ok.op rfl (OpOk.callH [] [.own (.slice ayown16_0l21 yown16_0l21.length cyown16_0l21) 72 3 yown16_0l21.length xsyown16_0l21, .own (.slice ayown4_0l26i19 yown4_0l26i19.length cyown4_0l26i19) 3 1 yown4_0l26i19.length xsyown4_0l26i19] (enters (by kernel_rfl) (fun _ => by kernel_rfl)) rfl (hcp_c e21 hR20_1 hR20_2 hp22) rfl fun g23 _ _ hx23 hV23 => ?_)
                      obtain ⟨a23_0, c23_0, a23_2, c23_2, rfl, hR23_0, hR23_2, rfl⟩ := hV23
                      replace hRxh_0 := hRxh_0.mono hx23.1
                      replace hLyown16_0l21 := hLyown16_0l21.mono hx23.1
                      replace hLyown4_0l26i19 := hLyown4_0l26i19.mono hx23.1
                      replace hR20_1 := hR20_1.mono hx23.1
                      replace hR20_2 := hR20_2.mono hx23.1
                      obtain ⟨h025, h125, hF⟩ := hF
                      have he25 := get_of (l := yown16_0l21) (default : Int × List (List UInt8) × List (JV)) h125
                      generalize hg25 : (yown16_0l21.getD (Int.toNat e19) default) = e25 at he25 hF ⊢
                      refine Ok.op rfl (OpOk.indexOwn (e := .pair (.int .i64) (.pair (.slice (.str)) (.slice (.pair (.int .i64) (.pair (.int .i64) (.str)))))) (q := e19) (el := e25) 0 rfl hLyown16_0l21 rfl rfl Try.underlying22 (by kernel_rfl) (by kernel_rfl) h025 he25 rfl fun cs24 _ hr24 hc24 => ?_)
                      obtain ⟨_, _, rfl, rfl, ⟨_, _, rfl, ⟨a24_1, c24_1, rfl, hm24_1, hr24_1⟩, ⟨a24_2, c24_2, rfl, hm24_2, hr24_2⟩⟩⟩ := hr24
                      have hR24_1 : Rep g23 (.slice (.str)) [.slice a24_1 e25.2.1.length c24_1] e25.2.1 := ⟨a24_1, c24_1, rfl, hm24_1, hr24_1⟩
                      have hR24_2 : Rep g23 (.slice (.pair (.int .i64) (.pair (.int .i64) (.str)))) [.slice a24_2 e25.2.2.length c24_2] e25.2.2 := ⟨a24_2, c24_2, rfl, hm24_2, hr24_2⟩
                      replace hc24 : ∀ j v, ([.int .i64 e25.1, .slice a24_1 e25.2.1.length c24_1, .slice a24_2 e25.2.2.length c24_2] : List Value)[j]? = some v → xsyown16_0l21[Int.toNat e19 * 3 + j]? = some v := hc24
                      refine Ok.op rfl (OpOk.storeOwn (e := .pair (.int .i64) (.pair (.slice (.str)) (.slice (.pair (.int .i64) (.pair (.int .i64) (.str)))))) (q := Int.toNat e19) (cells := [.int .i64 e25.1, .slice a24_1 e25.2.1.length c24_1, .slice a24_2 e25.2.2.length c24_2]) (vs := [.int .i64 ((hcpS e21).1), .slice a23_0 (((hcpS e21).2).1).length c23_0, .slice a23_2 (((hcpS e21).2).2).length c23_2]) (el' := ((hcpS e21).1, ((hcpS e21).2).1, ((hcpS e21).2).2)) 0 0 3 rfl hLyown16_0l21 hc24 (by kernel_rfl) rfl rfl rfl (by kernel_rfl) (by kernel_rfl) (by kernel_rfl) (by kernel_rfl) (by kernel_rfl) (show Rep _ _ [.int .i64 ((hcpS e21).1), .slice a23_0 (((hcpS e21).2).1).length c23_0, .slice a23_2 (((hcpS e21).2).2).length c23_2] _ from ⟨[.int .i64 ((hcpS e21).1)], [.slice a23_0 (((hcpS e21).2).1).length c23_0, .slice a23_2 (((hcpS e21).2).2).length c23_2], rfl, rfl, ⟨[.slice a23_0 (((hcpS e21).2).1).length c23_0], [.slice a23_2 (((hcpS e21).2).2).length c23_2], rfl, hR23_0, hR23_2⟩⟩) fun xs26 hL26 => ?_)
                      rw [show yown16_0l21.length = (yown16_0l21.set (Int.toNat e19) ((hcpS e21).1, ((hcpS e21).2).1, ((hcpS e21).2).2)).length from (List.length_set ..).symm]
                      refine Ok.nil ?_
                      refine Ok.blockN ?_
                      refine Ok.thenN ?_
                      refine Ok.region ?_
                      refine Ok.batch 2 [(0, .slice axh_0 xh.length cxh_0), (8, .slice ayown16_0l21 (yown16_0l21.set (Int.toNat e19) ((hcpS e21).1, ((hcpS e21).2).1, ((hcpS e21).2).2)).length cyown16_0l21), (26, .slice ayown4_0l26i19 yown4_0l26i19.length cyown4_0l26i19), (27, .int .i64 (yown4_0l26i19.length : Int)), (28, .int .i64 (IntKind.wrap .i64 (x28l21 + 1)))] (by kernel_rfl) ?_
                      refine Ok.nil ?_
                      refine Ok.thenN ?_
                      subst hg25
                      subst hg21
                      subst hg19
                      exact fun a W hA hW => ⟨k21, Nat.lt_succ_self _, g23, (hxl21.trans hx23), IntKind.wrap .i64 (x28l21 + 1), ayown16_0l21, cyown16_0l21, (yown16_0l21.set (Int.toNat (yown4_0l26i19.getD (Int.toNat x28l21) default)) ((hcpS (xh.getD (Int.toNat (yown4_0l26i19.getD (Int.toNat x28l21) default)) default)).1, ((hcpS (xh.getD (Int.toNat (yown4_0l26i19.getD (Int.toNat x28l21) default)) default)).2).1, ((hcpS (xh.getD (Int.toNat (yown4_0l26i19.getD (Int.toNat x28l21) default)) default)).2).2)), xs26, hL26, hA.sub (by kernel_rfl), hW, hF⟩
                    · replace hF := hF.2 hc17
                      refine Ok.exit ?_
                      refine Ok.thenE ?_
                      refine Ok.thenE ?_
                      refine Ok.blockHit ?_
                      refine Ok.thenN ?_
                      refine Ok.seq ?_
                      refine Ok.region ?_
                      refine Ok.batch 3 [(4, .slice ayown16_0l21 yown16_0l21.length cyown16_0l21), (5, .int .i64 0)] (by kernel_rfl) ?_
                      refine Ok.nil ?_
                      refine Ok.thenN ?_
                      refine Ok.ret ?_
                      refine Ok.freeze (H' := [.own (.slice ayown4_0l26i19 yown4_0l26i19.length cyown4_0l26i19) 3 1 yown4_0l26i19.length xsyown4_0l26i19]) 0 rfl hLyown16_0l21 rfl fun g27 hx27 hRf27 => ?_
                      replace hLyown4_0l26i19 := hLyown4_0l26i19.mono hx27.1
                      exact Ok.resP (vs := [.slice ayown16_0l21 yown16_0l21.length cyown16_0l21, .int .i64 0]) [] [] (by decide) rfl (.inl rfl) rfl (.cons (.tmp rfl) (.cons (.tmp rfl) .nil)) (((hxl9i19.trans hxl26i19).trans hxl21).trans hx27) ⟨yown16_0l21, 0, ayown16_0l21, cyown16_0l21, rfl, hRf27, rfl, hF⟩
def put (h : List JC) (out : List JC) (n : Int) : List JC := out.set n.toNat (h.getD n.toNat default)
def swept (h : List JC) (all : List Int) : List JC := all.foldl (put h) (List.replicate h.length ((0, [], []) : Int × List (List UInt8) × List (JV)))
def hSwS (h : List JC) (l : List JV) : List JC × Int := if (haskS h l != 0) = true then ([], haskS h l) else (swept h (order h l).2, 0)
theorem hSw_F (h : List JC) (l : List JV) (hp : haskP h l) : hSwF h l (fun a b => (a, b) = hSwS h l) := by
  have hp0 := hp
  obtain ⟨hr, hl⟩ := hp
  rw [maxLen_eq] at hl
  refine ⟨hp0, fun h1 => by unfold hSwS; rw [if_t h1], fun h1 => ?_⟩
  have hR : hSwS h l = (swept h (order h l).2, 0) := by unfold hSwS; rw [if_f h1]
  obtain ⟨H, hrt⟩ := ask_zero (show haskS h l = 0 by simpa using h1)
  have h300 := H.few
  have hoI : Inv h (order h l) := (comes_ok H hrt (start_inv h)).1
  -- putting
  have puts : ∀ (k i : Nat) (out : List JC), i + k = (order h l).2.length → out.length = h.length → swept h (order h l).2 = ((order h l).2.drop i).foldl (put h) out → hSwl21 h (fun a b => (a, b) = hSwS h l) (order h l).2 (k + 1) (i : Int) out := by
    intro k
    have hcnt := hoI.cnt
    induction k with
    | zero =>
      intro i out hi ho he
      rw [List.drop_of_length_le (by omega)] at he
      have he : swept h (order h l).2 = out := he
      exact ⟨fun h2 => by have := of_decide_eq_true h2; omega, fun _ => by rw [hR, he]⟩
    | succ k ih =>
      intro i out hi ho he
      rw [drop_get (l := (order h l).2) default (by omega), List.foldl_cons] at he
      have hn := hoI.ran _ (mem_getD default (show i < (order h l).2.length by omega))
      have hnl : ((order h l).2.getD i default).toNat < h.length := by omega
      have hsm := H.small _ (mem_getD default hnl)
      rw [hSwl21]
      unfold hSwl21b
      rw [Int.toNat_natCast]
      refine ⟨fun _ => ⟨by omega, by omega, hn.1, hnl, ⟨hsm.2, hsm.1⟩, hn.1, by rw [ho]; exact hnl, ?_⟩, fun h2 => by have := of_decide_eq_false h2; omega⟩
      rw [w64 (by omega)]
      exact ih (i + 1) _ (by omega) (by rw [List.length_set]; exact ho) he
  -- coming
  have comes : ∀ (k i : Nat) (s : SS), i + k = l.length → Inv h s → order h l = (l.drop i).foldl (come h) s → hSwl26x2 h l (fun a b => (a, b) = hSwS h l) (k + 1) (i : Int) h s.2 s.1 := by
    intro k
    induction k with
    | zero =>
      intro i s hi I he
      rw [List.drop_of_length_le (by omega)] at he
      have he : order h l = s := he
      refine ⟨fun h2 => by have := of_decide_eq_true h2; omega, fun _ => ⟨by omega, by omega, (order h l).2.length + 1, ?_⟩⟩
      rw [← he, Int.toNat_natCast]
      exact puts (order h l).2.length 0 _ (by omega) (by rw [List.length_replicate]) rfl
    | succ k ih =>
      intro i s hi I he
      rw [drop_get (l := l) default (by omega), List.foldl_cons] at he
      have hv := hrt _ (mem_getD default (show i < l.length by omega))
      have hcn := I.cnt
      refine ⟨fun _ => ⟨by omega, by omega, ?_, ?_⟩, fun h2 => by have := of_decide_eq_false h2; omega⟩
      · rw [Int.toNat_natCast]; exact ⟨h.length + 1, H, I, hv, by show unv s.1 < _; omega⟩
      · rw [Int.toNat_natCast, w64 (by omega)]
        exact ih (i + 1) _ (by omega) (come_ok H I hv).1 he
  -- the marks
  have marks : ∀ (k i : Nat), i + k = h.length → hSwl9x1 h l (fun a b => (a, b) = hSwS h l) (k + 1) (i : Int) (List.replicate i (-1) ++ List.replicate k 0) := by
    intro k
    induction k with
    | zero =>
      intro i hi
      refine ⟨fun h2 => by have := of_decide_eq_true h2; rw [List.length_replicate] at this; omega, fun _ => ⟨l.length + 1, ?_⟩⟩
      rw [List.replicate_zero, List.append_nil, show i = h.length by omega]
      exact comes l.length 0 (start h) (by omega) (start_inv h) rfl
    | succ k ih =>
      intro i hi
      refine ⟨fun _ => ⟨by omega, by rw [List.length_append, List.length_replicate, List.length_replicate]; omega, ?_⟩, fun h2 => by have := of_decide_eq_false h2; rw [List.length_replicate] at this; omega⟩
      rw [Int.toNat_natCast, w64 (by omega), List.set_append_right _ _ (by simp), List.length_replicate, Nat.sub_self, List.replicate_succ, List.set_cons_zero]
      have := ih (i + 1) (by omega)
      rw [List.replicate_succ', List.append_assoc] at this
      exact this
  exact ⟨by omega, by omega, _, by rw [Int.toNat_natCast]; exact marks h.length 0 (by omega)⟩
set_option linter.unusedVariables false in
theorem hSw_c {g : Ghost} {axh_0 : Option Addr} {cxh_0 : Nat} (xh : List (Int × List (List UInt8) × List (Int × Int × List UInt8))) {axroots_0 : Option Addr} {cxroots_0 : Nat} (xroots : List (Int × Int × List UInt8)) (hRxh_0 : Rep g (.slice (.pair (.int .i64) (.pair (.slice (.str)) (.slice (.pair (.int .i64) (.pair (.int .i64) (.str))))))) [.slice axh_0 xh.length cxh_0] xh) (hRxroots_0 : Rep g (.slice (.pair (.int .i64) (.pair (.int .i64) (.str)))) [.slice axroots_0 xroots.length cxroots_0] xroots)  (hp : haskP xh xroots) : CallsH Try.prog 25 #[.slice axh_0 xh.length cxh_0, .slice axroots_0 xroots.length cxroots_0] g [] (fun g' H' v => ∃ (ar0_0 : Option Addr) (cr0_0 : Nat), v = .tuple #[.slice ar0_0 ((hSwS xh xroots).1).length cr0_0, .int .i64 ((hSwS xh xroots).2)] ∧ Rep g' (.slice (.pair (.int .i64) (.pair (.slice (.str)) (.slice (.pair (.int .i64) (.pair (.int .i64) (.str))))))) [.slice ar0_0 ((hSwS xh xroots).1).length cr0_0] ((hSwS xh xroots).1) ∧ H' = []) :=
  (hSw_ok xh xroots hRxh_0 hRxroots_0 _ (hSw_F xh xroots hp)).mono (by rintro g' H' v _ ⟨r0, r1, ar0_0, cr0_0, rfl, hRr0_0, rfl, hK⟩; obtain ⟨rfl, rfl⟩ : r0 = (hSwS xh xroots).1 ∧ r1 = (hSwS xh xroots).2 := ⟨congrArg (fun z => z.1) hK, congrArg (fun z => z.2) hK⟩; exact ⟨ar0_0, cr0_0, rfl, hRr0_0, rfl⟩)
def ieql15b (xs1 : List (Int)) (xs2 : List (Int)) (K : Bool → Prop) (x13l15 : Int) (C15 : Int → Prop) : Prop :=
  ((decide (x13l15 < (xs1.length : Int))) = true → (0 : Int) ≤ x13l15 ∧ Int.toNat x13l15 < xs1.length ∧ (0 : Int) ≤ x13l15 ∧ Int.toNat x13l15 < xs2.length ∧ ((((xs1.getD (Int.toNat x13l15) default) != (xs2.getD (Int.toNat x13l15) default))) = true → K false) ∧ ((((xs1.getD (Int.toNat x13l15) default) != (xs2.getD (Int.toNat x13l15) default))) = false → C15 (IntKind.wrap .i64 (x13l15 + 1)))) ∧ ((decide (x13l15 < (xs1.length : Int))) = false → K true)
def ieql15 (xs1 : List (Int)) (xs2 : List (Int)) (K : Bool → Prop) : Nat → Int → Prop
  | 0, _ => False
  | k + 1, x13l15 => ieql15b xs1 xs2 K x13l15 (ieql15 xs1 xs2 K k)
def ieqF (xs1 : List (Int)) (xs2 : List (Int)) (K : Bool → Prop) : Prop :=
  ((((xs1.length : Int) != (xs2.length : Int))) = true → K false) ∧ ((((xs1.length : Int) != (xs2.length : Int))) = false → ∃ k, ieql15 xs1 xs2 K k 0)
set_option maxHeartbeats 4000000 in
set_option maxRecDepth 100000 in
set_option linter.unusedVariables false in
theorem ieq_ok {g : Ghost} {axs1_0 : Option Addr} {cxs1_0 : Nat} (xs1 : List (Int)) {axs2_0 : Option Addr} {cxs2_0 : Nat} (xs2 : List (Int)) (hRxs1_0 : Rep g (.slice (.int .i64)) [.slice axs1_0 xs1.length cxs1_0] xs1) (hRxs2_0 : Rep g (.slice (.int .i64)) [.slice axs2_0 xs2.length cxs2_0] xs2) (K : Bool → Prop)
    (hF : ieqF xs1 xs2 K) : CallsH Try.prog 30 #[.slice axs1_0 xs1.length cxs1_0, .slice axs2_0 xs2.length cxs2_0] g [] (fun g' H' v => ∃ (r0 : Bool), v = .bool r0 ∧ H' = [] ∧ K r0) := by
  refine CallsH.enter 26 [(0, .slice axs1_0 xs1.length cxs1_0), (1, .slice axs2_0 xs2.length cxs2_0)] Try.func30 rfl (by kernel_rfl) (by kernel_rfl) (by kernel_rfl) fun w0 => ?_
  refine Ok.seq ?_
  refine Ok.region ?_
  refine Ok.batch 1 [(0, .slice axs1_0 xs1.length cxs1_0), (1, .slice axs2_0 xs2.length cxs2_0)] (by kernel_rfl) ?_
  refine Ok.nil ?_
  refine Ok.thenN ?_
  refine Ok.seq ?_
  refine Ok.seq ?_
  refine Ok.region ?_
  refine Ok.batch 5 [(0, .slice axs1_0 xs1.length cxs1_0), (1, .slice axs2_0 xs2.length cxs2_0), (10, .bool ((xs1.length : Int) != (xs2.length : Int)))] (by kernel_rfl) ?_
  refine Ok.nil ?_
  refine Ok.thenN ?_
  refine Ok.cond (b := ((xs1.length : Int) != (xs2.length : Int))) rfl (fun hc1 => ?_) (fun hc1 => ?_)
  · replace hF := hF.1 hc1
    refine Ok.seq ?_
    refine Ok.region ?_
    refine Ok.batch 1 [(4, .bool false)] (by kernel_rfl) ?_
    refine Ok.nil ?_
    refine Ok.thenN ?_
    refine Ok.ret ?_
    refine Ok.thenR ?_
    exact Ok.resH (vs := [.bool false]) (.inl rfl) rfl (.cons (.tmp rfl) .nil) (Gext.refl w0 g) ⟨false, rfl, rfl, hF⟩
  · replace hF := hF.2 hc1
    refine Ok.skip ?_
    refine Ok.thenN ?_
    refine Ok.seq ?_
    refine Ok.seq ?_
    refine Ok.region ?_
    refine Ok.batch 3 [(0, .slice axs1_0 xs1.length cxs1_0), (1, .slice axs2_0 xs2.length cxs2_0), (12, .int .i64 (xs1.length : Int)), (13, .int .i64 0)] (by kernel_rfl) ?_
    refine Ok.nil ?_
    refine Ok.thenN ?_
    refine Ok.block ?_
    obtain ⟨k, hF⟩ := hF
    refine Ok.loop (fun k a W => ∃ (x13l15 : Int), StA 26 [(0, .slice axs1_0 xs1.length cxs1_0), (1, .slice axs2_0 xs2.length cxs2_0), (12, .int .i64 (xs1.length : Int)), (13, .int .i64 x13l15)] a ∧ StW w0 [] g W ∧ ieql15 xs1 xs2 K k x13l15) k ?_ ?_
    ·
      exact fun a W hA hW => ⟨0, hA.sub (by kernel_rfl), hW, hF⟩
    ·
      clear hF
      rintro k15 a W ⟨x13l15, hA, hW, hF⟩
      cases k15 with
      | zero => exact (hF : False).elim
      | succ k15 =>
        refine (?_ : Ok _ _ _ _ _ _) a W hA hW
        clear hA hW
        refine Ok.seq ?_
        refine Ok.region ?_
        refine Ok.batch 1 [(0, .slice axs1_0 xs1.length cxs1_0), (1, .slice axs2_0 xs2.length cxs2_0), (12, .int .i64 (xs1.length : Int)), (13, .int .i64 x13l15), (14, .bool (decide (x13l15 < (xs1.length : Int))))] (by kernel_rfl) ?_
        refine Ok.nil ?_
        refine Ok.thenN ?_
        refine Ok.seq ?_
        refine Ok.cond (b := decide (x13l15 < (xs1.length : Int))) rfl (fun hc2 => ?_) (fun hc2 => ?_)
        · replace hF := hF.1 hc2
          refine Ok.skip ?_
          refine Ok.thenN ?_
          refine Ok.seq ?_
          refine Ok.block ?_
          refine Ok.seq ?_
          refine Ok.region ?_
          refine Ok.batch 2 [(0, .slice axs1_0 xs1.length cxs1_0), (1, .slice axs2_0 xs2.length cxs2_0), (5, .int .i64 x13l15), (12, .int .i64 (xs1.length : Int)), (13, .int .i64 x13l15)] (by kernel_rfl) ?_
          refine Ok.nil ?_
          refine Ok.thenN ?_
          refine Ok.seq ?_
          refine Ok.quiet' (by kernel_rfl) (by kernel_rfl) ?_
          refine OkQ.batch 2 [(0, .slice axs1_0 xs1.length cxs1_0), (1, .slice axs2_0 xs2.length cxs2_0), (5, .int .i64 x13l15), (12, .int .i64 (xs1.length : Int)), (13, .int .i64 x13l15), (16, .slice axs1_0 xs1.length cxs1_0), (17, .int .i64 x13l15)] (by kernel_rfl) ?_
          obtain ⟨h04, h14, hF⟩ := hF
          have he4 := get_of (l := xs1) (default : Int) h14
          generalize hg4 : (xs1.getD (Int.toNat x13l15) default) = e4 at he4 hF ⊢
          refine OkQ.op rfl (OpQ.indexRo (e := .int .i64) (i := x13l15) (el := e4) rfl rfl Try.underlying61 (by kernel_rfl) hRxs1_0 h04 he4 rfl fun q3 o3 cs3 _ hat3 hr3 => ?_)
          obtain rfl := hr3
          replace hat3 : At g q3 o3 [.int .i64 e4] := hat3
          refine OkQ.op rfl (OpQ.step (v := .int .i64 e4) (Yields.loadRo 0 hat3 (by kernel_rfl) Try.underlying3 rfl (by kernel_rfl)) rfl rfl ?_)
          refine OkQ.batch 2 [(0, .slice axs1_0 xs1.length cxs1_0), (1, .slice axs2_0 xs2.length cxs2_0), (12, .int .i64 (xs1.length : Int)), (13, .int .i64 x13l15), (19, .int .i64 e4), (20, .slice axs2_0 xs2.length cxs2_0), (21, .int .i64 x13l15)] (by kernel_rfl) ?_
          obtain ⟨h06, h16, hF⟩ := hF
          have he6 := get_of (l := xs2) (default : Int) h16
          generalize hg6 : (xs2.getD (Int.toNat x13l15) default) = e6 at he6 hF ⊢
          refine OkQ.op rfl (OpQ.indexRo (e := .int .i64) (i := x13l15) (el := e6) rfl rfl Try.underlying61 (by kernel_rfl) hRxs2_0 h06 he6 rfl fun q5 o5 cs5 _ hat5 hr5 => ?_)
          obtain rfl := hr5
          replace hat5 : At g q5 o5 [.int .i64 e6] := hat5
          refine OkQ.op rfl (OpQ.step (v := .int .i64 e6) (Yields.loadRo 0 hat5 (by kernel_rfl) Try.underlying3 rfl (by kernel_rfl)) rfl rfl ?_)
          refine OkQ.batch 1 [(0, .slice axs1_0 xs1.length cxs1_0), (1, .slice axs2_0 xs2.length cxs2_0), (12, .int .i64 (xs1.length : Int)), (13, .int .i64 x13l15), (24, .bool (e4 != e6))] (by kernel_rfl) ?_
          refine OkQ.nil ?_
          refine Ok.thenN ?_
          refine Ok.cond (b := (e4 != e6)) rfl (fun hc7 => ?_) (fun hc7 => ?_)
          · replace hF := hF.1 hc7
            refine Ok.seq ?_
            refine Ok.region ?_
            refine Ok.batch 1 [(4, .bool false)] (by kernel_rfl) ?_
            refine Ok.nil ?_
            refine Ok.thenN ?_
            refine Ok.ret ?_
            refine Ok.blockR ?_
            refine Ok.thenR ?_
            refine Ok.thenR ?_
            refine Ok.blockR ?_
            refine Ok.thenR ?_
            exact Ok.resH (vs := [.bool false]) (.inl rfl) rfl (.cons (.tmp rfl) .nil) (Gext.refl w0 g) ⟨false, rfl, rfl, hF⟩
          · replace hF := hF.2 hc7
            refine Ok.skip ?_
            refine Ok.blockN ?_
            refine Ok.thenN ?_
            refine Ok.region ?_
            refine Ok.batch 2 [(0, .slice axs1_0 xs1.length cxs1_0), (1, .slice axs2_0 xs2.length cxs2_0), (12, .int .i64 (xs1.length : Int)), (13, .int .i64 (IntKind.wrap .i64 (x13l15 + 1)))] (by kernel_rfl) ?_
            refine Ok.nil ?_
            refine Ok.thenN ?_
            subst hg6
            subst hg4
            exact fun a W hA hW => ⟨k15, Nat.lt_succ_self _, IntKind.wrap .i64 (x13l15 + 1), hA.sub (by kernel_rfl), hW, hF⟩
        · replace hF := hF.2 hc2
          refine Ok.exit ?_
          refine Ok.thenE ?_
          refine Ok.thenE ?_
          refine Ok.blockHit ?_
          refine Ok.thenN ?_
          refine Ok.seq ?_
          refine Ok.region ?_
          refine Ok.batch 1 [(4, .bool true)] (by kernel_rfl) ?_
          refine Ok.nil ?_
          refine Ok.thenN ?_
          refine Ok.ret ?_
          exact Ok.resH (vs := [.bool true]) (.inl rfl) rfl (.cons (.tmp rfl) .nil) (Gext.refl w0 g) ⟨true, rfl, rfl, hF⟩
def ieqS (a b : List Int) : Bool := a == b
def ieqP (a b : List Int) : Prop := a.length ≤ 1000000 ∧ b.length ≤ 1000000
theorem ieq_F (p q : List Int) (hp : ieqP p q) : ieqF p q (fun r => r = ieqS p q) := by
  obtain ⟨hp1, hp2⟩ := hp
  unfold ieqS
  refine ⟨fun h => ?_, fun h => ?_⟩
  · have h : p.length ≠ q.length := by rw [bne_iff_ne] at h; omega
    have : (p == q) = false := by
      rw [beq_eq_false_iff_ne]
      intro h2; exact h (congrArg List.length h2)
    rw [this]
  · have hlen : p.length = q.length := by
      rw [bne_eq_false_iff_eq] at h; omega
    have loop : ∀ (k i : Nat), i + k = p.length → (p == q) = (p.drop i == q.drop i) → ieql15 p q (fun r => r = (p == q)) (k + 1) (i : Int) := by
      intro k
      induction k with
      | zero =>
        intro i h1 he
        rw [List.drop_of_length_le (by omega), List.drop_of_length_le (by omega)] at he
        exact ⟨fun h => by have := of_decide_eq_true h; omega, fun _ => by rw [he]; rfl⟩
      | succ k ih =>
        intro i h1 he
        have hi : i < p.length := by omega
        rw [drop_get (l := p) default hi, drop_get (l := q) default (by omega)] at he
        refine ⟨fun _ => ?_, fun h => by have := of_decide_eq_false h; omega⟩
        rw [Int.toNat_natCast]
        refine ⟨by omega, by omega, by omega, by omega, fun h => ?_, fun h => ?_⟩
        · have h : (p.getD i default == q.getD i default) = false := by rw [bne, Bool.not_eq_true'] at h; exact h
          rw [he, List.cons_beq_cons, h]; rfl
        · have h : (p.getD i default == q.getD i default) = true := by rw [bne, Bool.not_eq_false'] at h; exact h
          rw [w64 (by omega)]
          refine ih (i + 1) (by omega) ?_
          rw [he, List.cons_beq_cons, h]; rfl
    exact ⟨_, loop p.length 0 (by omega) rfl⟩
set_option linter.unusedVariables false in
theorem ieq_c {g : Ghost} {axs1_0 : Option Addr} {cxs1_0 : Nat} (xs1 : List (Int)) {axs2_0 : Option Addr} {cxs2_0 : Nat} (xs2 : List (Int)) (hRxs1_0 : Rep g (.slice (.int .i64)) [.slice axs1_0 xs1.length cxs1_0] xs1) (hRxs2_0 : Rep g (.slice (.int .i64)) [.slice axs2_0 xs2.length cxs2_0] xs2)  (hp : ieqP xs1 xs2) : CallsG Try.prog 30 #[.slice axs1_0 xs1.length cxs1_0, .slice axs2_0 xs2.length cxs2_0] g (.bool (ieqS xs1 xs2)) :=
  (ieq_ok xs1 xs2 hRxs1_0 hRxs2_0 _ (ieq_F xs1 xs2 hp)).gives (by rintro g' H' v _ ⟨r0, rfl, rfl, hK⟩; subst hK; rfl)
end Go.Proofs.Ytbifbljdmndjbaa.Hp
