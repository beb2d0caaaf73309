/- Heaps: what is reached, and the law. -/
import Derived.Test.YtbifbljdmndjbaaHeb
import Derived.Test.YtbifbljdmndjbaaLift
namespace Go.Proofs.Ytbifbljdmndjbaa.Hp
open Go Go.Eng Go.RowKit
set_option linter.unusedVariables false
def vrvl4b (K : (List (JV)) → Prop) (x2l4 : Int) (x3l4 : Int) (yown_xs_0l4 : List (JV)) (C4 : Int → Int → (List (JV)) → Prop) : Prop :=
  ((decide (x2l4 < x3l4)) = true → (0 : Int) ≤ x3l4 ∧ Int.toNat x3l4 < yown_xs_0l4.length ∧ (0 : Int) ≤ x2l4 ∧ Int.toNat x2l4 < yown_xs_0l4.length ∧ (0 : Int) ≤ x3l4 ∧ Int.toNat x3l4 < (yown_xs_0l4.set (Int.toNat x2l4) (yown_xs_0l4.getD (Int.toNat x3l4) default)).length ∧ C4 (IntKind.wrap .i64 (x2l4 + 1)) (IntKind.wrap .i64 (x3l4 - 1)) ((yown_xs_0l4.set (Int.toNat x2l4) (yown_xs_0l4.getD (Int.toNat x3l4) default)).set (Int.toNat x3l4) (yown_xs_0l4.getD (Int.toNat x2l4) default))) ∧ ((decide (x2l4 < x3l4)) = false → K yown_xs_0l4)
def vrvl4 (K : (List (JV)) → Prop) : Nat → Int → Int → (List (JV)) → Prop
  | 0, _, _, _ => False
  | k + 1, x2l4, x3l4, yown_xs_0l4 => vrvl4b K x2l4 x3l4 yown_xs_0l4 (vrvl4 K k)
def vrvF (xs : List (JV)) (K : (List (JV)) → Prop) : Prop :=
  ∃ k, vrvl4 K k 0 (IntKind.wrap .i64 ((xs.length : Int) - 1)) xs
set_option maxHeartbeats 4000000 in
set_option maxRecDepth 100000 in
set_option linter.unusedVariables false in
theorem vrv_ok {g : Ghost} {axs : Option Addr} {cxs : Nat} {xsxs : List Value} (xs : List (JV)) (hLxs : RepL g (.pair (.int .i64) (.pair (.int .i64) (.str))) xsxs xs) (K : (List (JV)) → Prop)
    (hF : vrvF xs K) : CallsH Try.prog 64 #[.slice axs xs.length cxs] g [.own (.slice axs xs.length cxs) 24 3 xs.length xsxs] (fun g' H' v => ∃ (fxs : List (JV)), ∃ (xsfxs : List Value), v = .tuple #[] ∧ RepL g' (.pair (.int .i64) (.pair (.int .i64) (.str))) xsfxs fxs ∧ H' = [.own (.slice axs fxs.length cxs) 24 3 fxs.length xsfxs] ∧ fxs.length = xs.length ∧ K fxs) := by
  refine CallsH.enter 28 [(0, .slice axs xs.length cxs)] Try.func64 rfl (by kernel_rfl) (by kernel_rfl) (by kernel_rfl) fun w0 => ?_
  refine Ok.seq ?_
  refine Ok.region ?_
  refine Ok.batch 5 [(0, .slice axs xs.length cxs), (2, .int .i64 0), (3, .int .i64 (IntKind.wrap .i64 ((xs.length : Int) - 1)))] (by kernel_rfl) ?_
  refine Ok.nil ?_
  refine Ok.thenN ?_
  refine Ok.block ?_
  obtain ⟨k, hF⟩ := hF
  refine Ok.loop (fun k a W => ∃ gl4 : Ghost, Gext w0 g gl4 ∧ ∃ (x2l4 : Int) (x3l4 : Int) (yown_xs_0l4 : List (JV)) (xsyown_xs_0l4 : List Value), RepL gl4 (.pair (.int .i64) (.pair (.int .i64) (.str))) xsyown_xs_0l4 yown_xs_0l4 ∧ yown_xs_0l4.length = xs.length ∧ StA 28 [(0, .slice axs yown_xs_0l4.length cxs), (2, .int .i64 x2l4), (3, .int .i64 x3l4)] a ∧ StW w0 [.own (.slice axs yown_xs_0l4.length cxs) 24 3 yown_xs_0l4.length xsyown_xs_0l4] gl4 W ∧ vrvl4 K k x2l4 x3l4 yown_xs_0l4) k ?_ ?_
  ·
    exact fun a W hA hW => ⟨g, (Gext.refl w0 g), 0, IntKind.wrap .i64 ((xs.length : Int) - 1), xs, xsxs, hLxs, rfl, hA.sub (by kernel_rfl), hW, hF⟩
  ·
    clear hF
    rintro k4 a W ⟨gl4, hxl4, x2l4, x3l4, yown_xs_0l4, xsyown_xs_0l4, hLyown_xs_0l4, hnyown_xs_0l4, hA, hW, hF⟩
    cases k4 with
    | zero => exact (hF : False).elim
    | succ k4 =>
      refine (?_ : Ok _ _ _ _ _ _) a W hA hW
      clear hA hW
      refine Ok.seq ?_
      refine Ok.seq ?_
      refine Ok.region ?_
      refine Ok.batch 3 [(0, .slice axs yown_xs_0l4.length cxs), (2, .int .i64 x2l4), (3, .int .i64 x3l4), (9, .bool (decide (x2l4 < x3l4)))] (by kernel_rfl) ?_
      refine Ok.nil ?_
      refine Ok.thenN ?_
      refine Ok.cond (b := decide (x2l4 < x3l4)) rfl (fun hc1 => ?_) (fun hc1 => ?_)
      · replace hF := hF.1 hc1
        refine Ok.skip ?_
        refine Ok.thenN ?_
        refine Ok.seq ?_
        refine Ok.block ?_
        refine Ok.mix [0, 1, 4, 5, 6, 7, 8, 9, 10, 11, 12] [] [] [(0, true), (1, true), (2, true), (3, true), (4, true), (5, true), (6, true), (7, true), (8, true), (9, true), (10, true), (11, true), (12, true), (13, false), (14, false), (15, false)] (by kernel_rfl) (by kernel_rfl) (.cons _ .slnil) ?_
        refine OkM.batch 6 [(0, .slice axs yown_xs_0l4.length cxs), (2, .int .i64 x2l4), (3, .int .i64 x3l4), (14, .slice axs yown_xs_0l4.length cxs), (15, .int .i64 x2l4), (16, .slice axs yown_xs_0l4.length cxs), (17, .int .i64 x3l4), (18, .slice axs yown_xs_0l4.length cxs), (19, .int .i64 x3l4)] (by kernel_rfl) ?_
        obtain ⟨h03, h13, hF⟩ := hF
        have he3 := get_of (l := yown_xs_0l4) (default : JV) h13
        generalize hg3 : (yown_xs_0l4.getD (Int.toNat x3l4) default) = e3 at he3 hF ⊢
        refine OkM.head rfl rfl (show _ = [.own (.slice axs yown_xs_0l4.length cxs) 24 3 yown_xs_0l4.length xsyown_xs_0l4] from rfl) (OpQ.indexOwn (e := .pair (.int .i64) (.pair (.int .i64) (.str))) (q := x3l4) (el := e3) 0 rfl hLyown_xs_0l4 rfl rfl Try.underlying29 (by kernel_rfl) (by kernel_rfl) h03 he3 rfl fun cs2 _ hr2 hc2 => ?_)
        obtain ⟨_, _, rfl, rfl, ⟨_, _, rfl, rfl, rfl⟩⟩ := hr2
        replace hc2 : ∀ j v, ([.int .i64 e3.1, .int .i64 e3.2.1, .string ⟨⟨e3.2.2⟩⟩] : List Value)[j]? = some v → xsyown_xs_0l4[Int.toNat x3l4 * 3 + j]? = some v := hc2
        refine OkM.head rfl rfl (show _ = [.own (.slice axs yown_xs_0l4.length cxs) 24 3 yown_xs_0l4.length xsyown_xs_0l4] from rfl) (OpQ.step (v := .agg #[.int .i64 e3.1, .int .i64 e3.2.1, .string ⟨⟨e3.2.2⟩⟩]) (Yields.loadAggOwn 0 0 3 #[.int .i64 e3.1, .int .i64 e3.2.1, .string ⟨⟨e3.2.2⟩⟩] rfl hc2 rfl Try.underlying24 rfl (by kernel_rfl) (by kernel_rfl) (by kernel_rfl)) rfl rfl ?_)
        refine OkM.batch 2 [(0, .slice axs yown_xs_0l4.length cxs), (2, .int .i64 x2l4), (3, .int .i64 x3l4), (14, .slice axs yown_xs_0l4.length cxs), (15, .int .i64 x2l4), (16, .slice axs yown_xs_0l4.length cxs), (17, .int .i64 x3l4), (21, .agg #[.int .i64 e3.1, .int .i64 e3.2.1, .string ⟨⟨e3.2.2⟩⟩]), (22, .slice axs yown_xs_0l4.length cxs), (23, .int .i64 x2l4)] (by kernel_rfl) ?_
        obtain ⟨h05, h15, hF⟩ := hF
        have he5 := get_of (l := yown_xs_0l4) (default : JV) h15
        generalize hg5 : (yown_xs_0l4.getD (Int.toNat x2l4) default) = e5 at he5 hF ⊢
        refine OkM.head rfl rfl (show _ = [.own (.slice axs yown_xs_0l4.length cxs) 24 3 yown_xs_0l4.length xsyown_xs_0l4] from rfl) (OpQ.indexOwn (e := .pair (.int .i64) (.pair (.int .i64) (.str))) (q := x2l4) (el := e5) 0 rfl hLyown_xs_0l4 rfl rfl Try.underlying29 (by kernel_rfl) (by kernel_rfl) h05 he5 rfl fun cs4 _ hr4 hc4 => ?_)
        obtain ⟨_, _, rfl, rfl, ⟨_, _, rfl, rfl, rfl⟩⟩ := hr4
        replace hc4 : ∀ j v, ([.int .i64 e5.1, .int .i64 e5.2.1, .string ⟨⟨e5.2.2⟩⟩] : List Value)[j]? = some v → xsyown_xs_0l4[Int.toNat x2l4 * 3 + j]? = some v := hc4
        refine OkM.head rfl rfl (show _ = [.own (.slice axs yown_xs_0l4.length cxs) 24 3 yown_xs_0l4.length xsyown_xs_0l4] from rfl) (OpQ.step (v := .agg #[.int .i64 e5.1, .int .i64 e5.2.1, .string ⟨⟨e5.2.2⟩⟩]) (Yields.loadAggOwn 0 0 3 #[.int .i64 e5.1, .int .i64 e5.2.1, .string ⟨⟨e5.2.2⟩⟩] rfl hc4 rfl Try.underlying24 rfl (by kernel_rfl) (by kernel_rfl) (by kernel_rfl)) rfl rfl ?_)
        refine OkM.head rfl rfl (show _ = [.own (.slice axs yown_xs_0l4.length cxs) 24 3 yown_xs_0l4.length xsyown_xs_0l4] from rfl) (OpQ.indexOwn (e := .pair (.int .i64) (.pair (.int .i64) (.str))) (q := x2l4) (el := e5) 0 rfl hLyown_xs_0l4 rfl rfl Try.underlying29 (by kernel_rfl) (by kernel_rfl) h05 he5 rfl fun cs6 _ hr6 hc6 => ?_)
        obtain ⟨_, _, rfl, rfl, ⟨_, _, rfl, rfl, rfl⟩⟩ := hr6
        replace hc6 : ∀ j v, ([.int .i64 e5.1, .int .i64 e5.2.1, .string ⟨⟨e5.2.2⟩⟩] : List Value)[j]? = some v → xsyown_xs_0l4[Int.toNat x2l4 * 3 + j]? = some v := hc6
        refine OkM.tail rfl rfl (OpOk.storeOwn (e := .pair (.int .i64) (.pair (.int .i64) (.str))) (q := Int.toNat x2l4) (cells := [.int .i64 e5.1, .int .i64 e5.2.1, .string ⟨⟨e5.2.2⟩⟩]) (vs := [.int .i64 e3.1, .int .i64 e3.2.1, .string ⟨⟨e3.2.2⟩⟩]) (el' := e3) 0 0 3 rfl hLyown_xs_0l4 hc6 (by kernel_rfl) rfl rfl rfl (by kernel_rfl) (by kernel_rfl) (by kernel_rfl) (by kernel_rfl) (by kernel_rfl) (show Rep _ _ [.int .i64 e3.1, .int .i64 e3.2.1, .string ⟨⟨e3.2.2⟩⟩] _ from ⟨[.int .i64 e3.1], [.int .i64 e3.2.1, .string ⟨⟨e3.2.2⟩⟩], rfl, rfl, ⟨[.int .i64 e3.2.1], [.string ⟨⟨e3.2.2⟩⟩], rfl, rfl, rfl⟩⟩) fun xs7 hL7 => ?_)
        rw [show yown_xs_0l4.length = (yown_xs_0l4.set (Int.toNat x2l4) e3).length from (List.length_set ..).symm]
        refine OkM.leaf (i := 13) (show _ = [] from rfl) (Gle.refl _) (.cons _ .slnil) ?_
        obtain ⟨h09, h19, hF⟩ := hF
        have he9 := get_of (l := (yown_xs_0l4.set (Int.toNat x2l4) e3)) (default : JV) h19
        generalize hg9 : ((yown_xs_0l4.set (Int.toNat x2l4) e3).getD (Int.toNat x3l4) default) = e9 at he9 hF ⊢
        refine OkM.tail rfl rfl (OpOk.indexOwn (e := .pair (.int .i64) (.pair (.int .i64) (.str))) (q := x3l4) (el := e9) 0 rfl hL7 rfl rfl Try.underlying29 (by kernel_rfl) (by kernel_rfl) h09 he9 rfl fun cs8 _ hr8 hc8 => ?_)
        obtain ⟨_, _, rfl, rfl, ⟨_, _, rfl, rfl, rfl⟩⟩ := hr8
        replace hc8 : ∀ j v, ([.int .i64 e9.1, .int .i64 e9.2.1, .string ⟨⟨e9.2.2⟩⟩] : List Value)[j]? = some v → xs7[Int.toNat x3l4 * 3 + j]? = some v := hc8
        refine OkM.leaf (i := 14) (show _ = [] from rfl) (Gle.refl _) (.cons _ .slnil) ?_
        refine OkM.tail rfl rfl (OpOk.storeOwn (e := .pair (.int .i64) (.pair (.int .i64) (.str))) (q := Int.toNat x3l4) (cells := [.int .i64 e9.1, .int .i64 e9.2.1, .string ⟨⟨e9.2.2⟩⟩]) (vs := [.int .i64 e5.1, .int .i64 e5.2.1, .string ⟨⟨e5.2.2⟩⟩]) (el' := e5) 0 0 3 rfl hL7 hc8 (by kernel_rfl) rfl rfl rfl (by kernel_rfl) (by kernel_rfl) (by kernel_rfl) (by kernel_rfl) (by kernel_rfl) (show Rep _ _ [.int .i64 e5.1, .int .i64 e5.2.1, .string ⟨⟨e5.2.2⟩⟩] _ from ⟨[.int .i64 e5.1], [.int .i64 e5.2.1, .string ⟨⟨e5.2.2⟩⟩], rfl, rfl, ⟨[.int .i64 e5.2.1], [.string ⟨⟨e5.2.2⟩⟩], rfl, rfl, rfl⟩⟩) fun xs10 hL10 => ?_)
        rw [show (yown_xs_0l4.set (Int.toNat x2l4) e3).length = ((yown_xs_0l4.set (Int.toNat x2l4) e3).set (Int.toNat x3l4) e5).length from (List.length_set ..).symm]
        refine OkM.leaf (i := 15) (show _ = [] from rfl) (Gle.refl _) (.cons _ .slnil) ?_
        refine OkM.nil ?_
        refine Ok.blockN ?_
        refine Ok.thenN ?_
        refine Ok.region ?_
        refine Ok.batch 6 [(0, .slice axs ((yown_xs_0l4.set (Int.toNat x2l4) e3).set (Int.toNat x3l4) e5).length cxs), (2, .int .i64 (IntKind.wrap .i64 (x2l4 + 1))), (3, .int .i64 (IntKind.wrap .i64 (x3l4 - 1)))] (by kernel_rfl) ?_
        refine Ok.nil ?_
        refine Ok.thenN ?_
        subst hg9
        subst hg5
        subst hg3
        exact fun a W hA hW => ⟨k4, Nat.lt_succ_self _, gl4, hxl4, IntKind.wrap .i64 (x2l4 + 1), IntKind.wrap .i64 (x3l4 - 1), ((yown_xs_0l4.set (Int.toNat x2l4) (yown_xs_0l4.getD (Int.toNat x3l4) default)).set (Int.toNat x3l4) (yown_xs_0l4.getD (Int.toNat x2l4) default)), xs10, hL10, (by simp only [List.length_set, hnyown_xs_0l4]), hA.sub (by kernel_rfl), hW, hF⟩
      · replace hF := hF.2 hc1
        refine Ok.exit ?_
        refine Ok.thenE ?_
        refine Ok.thenE ?_
        refine Ok.blockHit ?_
        exact Ok.resH (vs := []) (.inr rfl) rfl .nil hxl4 ⟨yown_xs_0l4, xsyown_xs_0l4, rfl, hLyown_xs_0l4, rfl, hnyown_xs_0l4, hF⟩
def vrvS (l : List JV) : List JV := l.reverse
def vrvP (l : List JV) : Prop := l.length ≤ 4398046511104
theorem vrv_F (l : List JV) (hp : vrvP l) : vrvF l (fun r => r = vrvS l) := by
  unfold vrvP at hp
  unfold vrvS
  have loop : ∀ (k i : Nat) (x : List JV), l.length ≤ 2 * i + k → 2 * i ≤ l.length + 1 → x.length = l.length → (∀ m, m < l.length → x[m]? = if m < i ∨ l.length ≤ m + i then l[l.length - 1 - m]? else l[m]?) → vrvl4 (fun r => r = l.reverse) (k + 1) (i : Int) ((l.length : Int) - 1 - (i : Int)) x := by
    have done : ∀ (i : Nat) (x : List JV), ¬ (i : Int) < (l.length : Int) - 1 - (i : Int) → x.length = l.length → (∀ m, m < l.length → x[m]? = if m < i ∨ l.length ≤ m + i then l[l.length - 1 - m]? else l[m]?) → x = l.reverse := by
      intro i x hn hx hm
      refine List.ext_getElem? fun m => ?_
      by_cases h : m < l.length
      · rw [List.getElem?_reverse h, hm m h]
        split
        · rfl
        · have : m = l.length - 1 - m := by omega
          rw [← this]
      · rw [List.getElem?_eq_none (by omega), List.getElem?_eq_none (by rw [List.length_reverse]; omega)]
    intro k
    induction k with
    | zero =>
      intro i x h1 h2 hx hm
      exact ⟨fun h => by have := of_decide_eq_true h; omega, fun h => done i x (of_decide_eq_false h) hx hm⟩
    | succ k ih =>
      intro i x h1 h2 hx hm
      refine ⟨fun h => ?_, fun h => done i x (of_decide_eq_false h) hx hm⟩
      have h := of_decide_eq_true h
      have e : ((l.length : Int) - 1 - (i : Int)).toNat = l.length - 1 - i := by omega
      rw [Int.toNat_natCast, e]
      refine ⟨by omega, by omega, by omega, by omega, by omega, by rw [List.length_set]; omega, ?_⟩
      rw [w64 (by omega), w64 (by omega)]
      have := ih (i + 1) ((x.set i (x.getD (l.length - 1 - i) default)).set (l.length - 1 - i) (x.getD i default)) (by omega) (by omega) (by rw [List.length_set, List.length_set]; exact hx) (fun m hml => ?_)
      · rw [show (l.length : Int) - 1 - ((i + 1 : Nat) : Int) = (l.length : Int) - 1 - (i : Int) - 1 by omega] at this
        exact this
      · rw [List.getElem?_set, List.getElem?_set]
        by_cases q1 : l.length - 1 - i = m
        · subst q1
          rw [if_pos rfl, if_pos (by rw [List.length_set]; omega), if_pos (by omega)]
          have := hm i (by omega)
          rw [if_neg (by omega)] at this
          rw [List.getD_eq_getElem?_getD, this, show l.length - 1 - (l.length - 1 - i) = i by omega, List.getElem?_eq_getElem (by omega), Option.getD_some]
        · rw [if_neg q1]
          by_cases q2 : i = m
          · subst q2
            rw [if_pos rfl, if_pos (by omega), if_pos (by omega)]
            have := hm (l.length - 1 - i) (by omega)
            rw [if_neg (by omega)] at this
            rw [List.getD_eq_getElem?_getD, this, List.getElem?_eq_getElem (by omega), Option.getD_some]
          · rw [if_neg q2, hm m hml]
            by_cases q3 : m < i ∨ l.length ≤ m + i
            · rw [if_pos q3, if_pos (by omega)]
            · rw [if_neg q3, if_neg (by omega)]
  refine ⟨l.length + 1, ?_⟩
  rw [w64 (by omega)]
  have := loop l.length 0 l (by omega) (by omega) rfl (fun m h => by rw [if_neg (by omega)])
  rw [show (l.length : Int) - 1 - ((0 : Nat) : Int) = (l.length : Int) - 1 by omega] at this
  exact this
set_option linter.unusedVariables false in
theorem vrv_c {g : Ghost} {axs : Option Addr} {cxs : Nat} {xsxs : List Value} (xs : List (Int × Int × List UInt8)) (hLxs : RepL g (.pair (.int .i64) (.pair (.int .i64) (.str))) xsxs xs)  (hp : vrvP xs) : CallsH Try.prog 64 #[.slice axs xs.length cxs] g [.own (.slice axs xs.length cxs) 24 3 xs.length xsxs] (fun g' H' v => ∃ (xsfxs : List Value), v = .tuple #[] ∧ RepL g' (.pair (.int .i64) (.pair (.int .i64) (.str))) xsfxs (vrvS xs) ∧ H' = [.own (.slice axs (vrvS xs).length cxs) 24 3 (vrvS xs).length xsfxs] ∧ (vrvS xs).length = xs.length) :=
  (vrv_ok xs hLxs _ (vrv_F xs hp)).mono (by rintro g' H' v _ ⟨fxs, xsfxs, rfl, hLfxs, rfl, hlen0, hK⟩; subst hK; exact ⟨xsfxs, rfl, hLfxs, rfl, hlen0⟩)
def iixl7b (xs : List (Int)) (xv : Int) (K : Int → Prop) (x8l7 : Int) (C7 : Int → Prop) : Prop :=
  ((decide (x8l7 < (xs.length : Int))) = true → (0 : Int) ≤ x8l7 ∧ Int.toNat x8l7 < xs.length ∧ (((xv == (xs.getD (Int.toNat x8l7) default))) = true → K x8l7) ∧ (((xv == (xs.getD (Int.toNat x8l7) default))) = false → C7 (IntKind.wrap .i64 (x8l7 + 1)))) ∧ ((decide (x8l7 < (xs.length : Int))) = false → K (-1))
def iixl7 (xs : List (Int)) (xv : Int) (K : Int → Prop) : Nat → Int → Prop
  | 0, _ => False
  | k + 1, x8l7 => iixl7b xs xv K x8l7 (iixl7 xs xv K k)
def iixF (xs : List (Int)) (xv : Int) (K : Int → Prop) : Prop :=
  ∃ k, iixl7 xs xv K k 0
set_option maxHeartbeats 4000000 in
set_option maxRecDepth 100000 in
set_option linter.unusedVariables false in
theorem iix_ok {g : Ghost} {axs_0 : Option Addr} {cxs_0 : Nat} (xs : List (Int)) (xv : Int) (hRxs_0 : Rep g (.slice (.int .i64)) [.slice axs_0 xs.length cxs_0] xs) (K : Int → Prop)
    (hF : iixF xs xv K) : CallsH Try.prog 68 #[.slice axs_0 xs.length cxs_0, .int .i64 xv] g [] (fun g' H' v => ∃ (r0 : Int), v = .int .i64 r0 ∧ H' = [] ∧ K r0) := by
  refine CallsH.enter 19 [(0, .slice axs_0 xs.length cxs_0), (1, .int .i64 xv)] Try.func68 rfl (by kernel_rfl) (by kernel_rfl) (by kernel_rfl) fun w0 => ?_
  refine Ok.seq ?_
  refine Ok.region ?_
  refine Ok.batch 1 [(0, .slice axs_0 xs.length cxs_0), (1, .int .i64 xv)] (by kernel_rfl) ?_
  refine Ok.nil ?_
  refine Ok.thenN ?_
  refine Ok.seq ?_
  refine Ok.seq ?_
  refine Ok.region ?_
  refine Ok.batch 3 [(0, .slice axs_0 xs.length cxs_0), (1, .int .i64 xv), (7, .int .i64 (xs.length : Int)), (8, .int .i64 0)] (by kernel_rfl) ?_
  refine Ok.nil ?_
  refine Ok.thenN ?_
  refine Ok.block ?_
  obtain ⟨k, hF⟩ := hF
  refine Ok.loop (fun k a W => ∃ (x8l7 : Int), StA 19 [(0, .slice axs_0 xs.length cxs_0), (1, .int .i64 xv), (7, .int .i64 (xs.length : Int)), (8, .int .i64 x8l7)] a ∧ StW w0 [] g W ∧ iixl7 xs xv K k x8l7) k ?_ ?_
  ·
    exact fun a W hA hW => ⟨0, hA.sub (by kernel_rfl), hW, hF⟩
  ·
    clear hF
    rintro k7 a W ⟨x8l7, hA, hW, hF⟩
    cases k7 with
    | zero => exact (hF : False).elim
    | succ k7 =>
      refine (?_ : Ok _ _ _ _ _ _) a W hA hW
      clear hA hW
      refine Ok.seq ?_
      refine Ok.region ?_
      refine Ok.batch 1 [(0, .slice axs_0 xs.length cxs_0), (1, .int .i64 xv), (7, .int .i64 (xs.length : Int)), (8, .int .i64 x8l7), (9, .bool (decide (x8l7 < (xs.length : Int))))] (by kernel_rfl) ?_
      refine Ok.nil ?_
      refine Ok.thenN ?_
      refine Ok.seq ?_
      refine Ok.cond (b := decide (x8l7 < (xs.length : Int))) rfl (fun hc1 => ?_) (fun hc1 => ?_)
      · replace hF := hF.1 hc1
        refine Ok.skip ?_
        refine Ok.thenN ?_
        refine Ok.seq ?_
        refine Ok.block ?_
        refine Ok.seq ?_
        refine Ok.region ?_
        refine Ok.batch 2 [(0, .slice axs_0 xs.length cxs_0), (1, .int .i64 xv), (5, .int .i64 x8l7), (7, .int .i64 (xs.length : Int)), (8, .int .i64 x8l7)] (by kernel_rfl) ?_
        refine Ok.nil ?_
        refine Ok.thenN ?_
        refine Ok.seq ?_
        refine Ok.region ?_
        refine Ok.batch 3 [(0, .slice axs_0 xs.length cxs_0), (1, .int .i64 xv), (5, .int .i64 x8l7), (7, .int .i64 (xs.length : Int)), (8, .int .i64 x8l7), (11, .int .i64 xv), (12, .slice axs_0 xs.length cxs_0), (13, .int .i64 x8l7)] (by kernel_rfl) ?_
        obtain ⟨h03, h13, hF⟩ := hF
        have he3 := get_of (l := xs) (default : Int) h13
        generalize hg3 : (xs.getD (Int.toNat x8l7) default) = e3 at he3 hF ⊢
        refine Ok.op rfl (OpOk.indexRo (e := .int .i64) (i := x8l7) (el := e3) rfl rfl Try.underlying61 (by kernel_rfl) hRxs_0 h03 he3 rfl fun q2 o2 cs2 _ hat2 hr2 => ?_)
        obtain rfl := hr2
        replace hat2 : At g q2 o2 [.int .i64 e3] := hat2
        refine Ok.op rfl (OpOk.step (v := .int .i64 e3) (Yields.loadRo 0 hat2 (by kernel_rfl) Try.underlying3 rfl (by kernel_rfl)) rfl rfl ?_)
        refine Ok.batch 1 [(0, .slice axs_0 xs.length cxs_0), (1, .int .i64 xv), (5, .int .i64 x8l7), (7, .int .i64 (xs.length : Int)), (8, .int .i64 x8l7), (16, .bool (xv == e3))] (by kernel_rfl) ?_
        refine Ok.nil ?_
        refine Ok.thenN ?_
        refine Ok.cond (b := (xv == e3)) rfl (fun hc4 => ?_) (fun hc4 => ?_)
        · replace hF := hF.1 hc4
          refine Ok.seq ?_
          refine Ok.region ?_
          refine Ok.batch 2 [(4, .int .i64 x8l7)] (by kernel_rfl) ?_
          refine Ok.nil ?_
          refine Ok.thenN ?_
          refine Ok.ret ?_
          refine Ok.blockR ?_
          refine Ok.thenR ?_
          refine Ok.thenR ?_
          refine Ok.blockR ?_
          refine Ok.thenR ?_
          exact Ok.resH (vs := [.int .i64 x8l7]) (.inl rfl) rfl (.cons (.tmp rfl) .nil) (Gext.refl w0 g) ⟨x8l7, rfl, rfl, hF⟩
        · replace hF := hF.2 hc4
          refine Ok.skip ?_
          refine Ok.blockN ?_
          refine Ok.thenN ?_
          refine Ok.region ?_
          refine Ok.batch 2 [(0, .slice axs_0 xs.length cxs_0), (1, .int .i64 xv), (7, .int .i64 (xs.length : Int)), (8, .int .i64 (IntKind.wrap .i64 (x8l7 + 1)))] (by kernel_rfl) ?_
          refine Ok.nil ?_
          refine Ok.thenN ?_
          subst hg3
          exact fun a W hA hW => ⟨k7, Nat.lt_succ_self _, IntKind.wrap .i64 (x8l7 + 1), hA.sub (by kernel_rfl), hW, hF⟩
      · replace hF := hF.2 hc1
        refine Ok.exit ?_
        refine Ok.thenE ?_
        refine Ok.thenE ?_
        refine Ok.blockHit ?_
        refine Ok.thenN ?_
        refine Ok.seq ?_
        refine Ok.region ?_
        refine Ok.batch 1 [(4, .int .i64 (-1))] (by kernel_rfl) ?_
        refine Ok.nil ?_
        refine Ok.thenN ?_
        refine Ok.ret ?_
        exact Ok.resH (vs := [.int .i64 (-1)]) (.inl rfl) rfl (.cons (.tmp rfl) .nil) (Gext.refl w0 g) ⟨(-1), rfl, rfl, hF⟩
def iixS (l : List Int) (v : Int) : Int := idxN (fun x => v == x) l 0
def iixP (l : List Int) (_ : Int) : Prop := l.length ≤ 1000000
theorem iix_F (l : List Int) (v : Int) (hp : iixP l v) : iixF l v (fun r => r = iixS l v) := by
  unfold iixP at hp
  have loop : ∀ (k i : Nat), i + k = l.length → iixS l v = idxN (fun x => v == x) (l.drop i) i → iixl7 l v (fun r => r = iixS l v) (k + 1) (i : Int) := by
    intro k
    induction k with
    | zero =>
      intro i h h2
      rw [List.drop_of_length_le (by omega)] at h2
      exact ⟨fun h => by have := of_decide_eq_true h; omega, fun _ => h2.symm⟩
    | succ k ih =>
      intro i h h2
      rw [drop_get (l := l) default (by omega), idxN] at h2
      refine ⟨fun _ => ⟨by omega, by rw [Int.toNat_natCast]; omega, fun hc => ?_, fun hc => ?_⟩, fun h => by have := of_decide_eq_false h; omega⟩
      · rw [Int.toNat_natCast] at hc
        rw [h2, if_t hc]
      · rw [Int.toNat_natCast] at hc
        rw [if_f hc] at h2
        rw [w64 (by omega)]
        exact ih (i + 1) (by omega) h2
  exact ⟨_, loop l.length 0 (by omega) rfl⟩
set_option linter.unusedVariables false in
theorem iix_c {g : Ghost} {axs_0 : Option Addr} {cxs_0 : Nat} (xs : List (Int)) (xv : Int) (hRxs_0 : Rep g (.slice (.int .i64)) [.slice axs_0 xs.length cxs_0] xs)  (hp : iixP xs xv) : CallsG Try.prog 68 #[.slice axs_0 xs.length cxs_0, .int .i64 xv] g (.int .i64 (iixS xs xv)) :=
  (iix_ok xs xv hRxs_0 _ (iix_F xs xv hp)).gives (by rintro g' H' v _ ⟨r0, rfl, rfl, hK⟩; subst hK; rfl)
def icoF (xs : List (Int)) (xv : Int) (K : Bool → Prop) : Prop :=
  iixP xs xv ∧ K (decide ((iixS xs xv) ≥ 0))
set_option maxHeartbeats 4000000 in
set_option maxRecDepth 100000 in
set_option linter.unusedVariables false in
theorem ico_ok {g : Ghost} {axs_0 : Option Addr} {cxs_0 : Nat} (xs : List (Int)) (xv : Int) (hRxs_0 : Rep g (.slice (.int .i64)) [.slice axs_0 xs.length cxs_0] xs) (K : Bool → Prop)
    (hF : icoF xs xv K) : CallsH Try.prog 45 #[.slice axs_0 xs.length cxs_0, .int .i64 xv] g [] (fun g' H' v => ∃ (r0 : Bool), v = .bool r0 ∧ H' = [] ∧ K r0) := by
  refine CallsH.enter 9 [(0, .slice axs_0 xs.length cxs_0), (1, .int .i64 xv)] Try.func45 rfl (by kernel_rfl) (by kernel_rfl) (by kernel_rfl) fun w0 => ?_
  refine Ok.seq ?_
  refine Ok.region ?_
  refine Ok.batch 1 [(0, .slice axs_0 xs.length cxs_0), (1, .int .i64 xv)] (by kernel_rfl) ?_
  refine Ok.nil ?_
  refine Ok.thenN ?_
  refine Ok.seq ?_
  refine Ok.region ?_
  refine Ok.batch 2 [(5, .slice axs_0 xs.length cxs_0), (6, .int .i64 xv)] (by kernel_rfl) ?_
  obtain ⟨hp1, hF⟩ := hF
  refine Ok.op rfl (OpOk.callG (v := .int .i64 (iixS xs xv)) (enters (by kernel_rfl) (fun _ => by kernel_rfl)) (fun W hW => iix_c xs xv (hRxs_0.mono hW.sees) hp1) rfl ?_)
  refine Ok.batch 2 [(4, .bool (decide ((iixS xs xv) ≥ 0)))] (by kernel_rfl) ?_
  refine Ok.nil ?_
  refine Ok.thenN ?_
  refine Ok.ret ?_
  exact Ok.resH (vs := [.bool (decide ((iixS xs xv) ≥ 0))]) (.inl rfl) rfl (.cons (.tmp rfl) .nil) (Gext.refl w0 g) ⟨(decide ((iixS xs xv) ≥ 0)), rfl, rfl, hF⟩
def icoS (l : List Int) (v : Int) : Bool := l.any fun x => v == x
theorem ico_F (l : List Int) (v : Int) (hp : iixP l v) : icoF l v (fun r => r = icoS l v) := ⟨hp, idxN_any _ l 0⟩
set_option linter.unusedVariables false in
theorem ico_c {g : Ghost} {axs_0 : Option Addr} {cxs_0 : Nat} (xs : List (Int)) (xv : Int) (hRxs_0 : Rep g (.slice (.int .i64)) [.slice axs_0 xs.length cxs_0] xs)  (hp : iixP xs xv) : CallsG Try.prog 45 #[.slice axs_0 xs.length cxs_0, .int .i64 xv] g (.bool (icoS xs xv)) :=
  (ico_ok xs xv hRxs_0 _ (ico_F xs xv hp)).gives (by rintro g' H' v _ ⟨r0, rfl, rfl, hK⟩; subst hK; rfl)
theorem ico_iff (l : List Int) (v : Int) : icoS l v = true ↔ v ∈ l := by
  unfold icoS
  rw [List.any_eq_true]
  constructor
  · rintro ⟨x, hx, h⟩
    rw [eq_of_beq h]; exact hx
  · intro h
    exact ⟨v, h, beq_self_eq_true v⟩
theorem iix_mem {l : List Int} {v : Int} (h : v ∈ l) : iixS l v = (l.idxOf v : Int) := by
  have gen : ∀ (l : List Int) (i : Nat), v ∈ l → idxN (fun x => v == x) l i = ((i + l.idxOf v : Nat) : Int) := by
    intro l
    induction l with
    | nil => intro i h; cases h
    | cons x l ih =>
      intro i h
      rw [idxN, List.idxOf_cons]
      by_cases he : v = x
      · subst he
        simp
      · rw [if_neg (by simpa using he), ih (i + 1) (by rcases List.mem_cons.1 h with h | h; exact absurd h he; exact h)]
        have : (x == v) = false := by rw [beq_eq_false_iff_ne]; exact fun h => he h.symm
        rw [this]
        simp; omega
  have := gen l 0 h
  rw [Nat.zero_add] at this
  exact this
def rrcj24 (xh : List (Int × List (List UInt8) × List (JV))) (e8 : JV) (yown5_0l11 : List (Int)) (yown2_0_0l11 : List (JV)) (C11 : (List (Int)) → (List (JV)) → Prop) : Prop :=
  ((((e8.1 != 4) || (icoS yown5_0l11 e8.2.1))) = true → C11 yown5_0l11 (yown2_0_0l11.take (Int.toNat (IntKind.wrap .i64 ((yown2_0_0l11.length : Int) - 1))))) ∧ ((((e8.1 != 4) || (icoS yown5_0l11 e8.2.1))) = false → (yown5_0l11 ++ ([e8.2.1] : List (Int))).length ≤ 17592186044416 ∧ (0 : Int) ≤ e8.2.1 ∧ Int.toNat e8.2.1 < xh.length ∧ vclP (xh.getD (Int.toNat e8.2.1) default).2.2 ∧ vrvP (vclS (xh.getD (Int.toNat e8.2.1) default).2.2) ∧ ((yown2_0_0l11.take (Int.toNat (IntKind.wrap .i64 ((yown2_0_0l11.length : Int) - 1)))) ++ (vrvS (vclS (xh.getD (Int.toNat e8.2.1) default).2.2))).length ≤ 4398046511104 ∧ C11 (yown5_0l11 ++ ([(yown2_0_0l11.getD (Int.toNat (IntKind.wrap .i64 ((yown2_0_0l11.length : Int) - 1))) default).2.1] : List (Int))) ((yown2_0_0l11.take (Int.toNat (IntKind.wrap .i64 ((yown2_0_0l11.length : Int) - 1)))) ++ (vrvS (vclS (xh.getD (Int.toNat (yown2_0_0l11.getD (Int.toNat (IntKind.wrap .i64 ((yown2_0_0l11.length : Int) - 1))) default).2.1) default).2.2))))
def rrcl11b (xh : List (Int × List (List UInt8) × List (JV))) (K : (List (Int)) → Prop) (yown5_0l11 : List (Int)) (yown2_0_0l11 : List (JV)) (C11 : (List (Int)) → (List (JV)) → Prop) : Prop :=
  ((decide ((yown2_0_0l11.length : Int) > 0)) = true → (0 : Int) ≤ (IntKind.wrap .i64 ((yown2_0_0l11.length : Int) - 1)) ∧ Int.toNat (IntKind.wrap .i64 ((yown2_0_0l11.length : Int) - 1)) < yown2_0_0l11.length ∧ (0 : Int) ≤ (IntKind.wrap .i64 ((yown2_0_0l11.length : Int) - 1)) ∧ (IntKind.wrap .i64 ((yown2_0_0l11.length : Int) - 1)) ≤ (yown2_0_0l11.length : Int) ∧ ((((yown2_0_0l11.getD (Int.toNat (IntKind.wrap .i64 ((yown2_0_0l11.length : Int) - 1))) default).1 != 4)) = true → rrcj24 xh (yown2_0_0l11.getD (Int.toNat (IntKind.wrap .i64 ((yown2_0_0l11.length : Int) - 1))) default) yown5_0l11 yown2_0_0l11 C11) ∧ ((((yown2_0_0l11.getD (Int.toNat (IntKind.wrap .i64 ((yown2_0_0l11.length : Int) - 1))) default).1 != 4)) = false → iixP yown5_0l11 (yown2_0_0l11.getD (Int.toNat (IntKind.wrap .i64 ((yown2_0_0l11.length : Int) - 1))) default).2.1 ∧ rrcj24 xh (yown2_0_0l11.getD (Int.toNat (IntKind.wrap .i64 ((yown2_0_0l11.length : Int) - 1))) default) yown5_0l11 yown2_0_0l11 C11)) ∧ ((decide ((yown2_0_0l11.length : Int) > 0)) = false → K yown5_0l11)
def rrcl11 (xh : List (Int × List (List UInt8) × List (JV))) (K : (List (Int)) → Prop) : Nat → (List (Int)) → (List (JV)) → Prop
  | 0, _, _ => False
  | k + 1, yown5_0l11, yown2_0_0l11 => rrcl11b xh K yown5_0l11 yown2_0_0l11 (rrcl11 xh K k)
def rrcF (xh : List (Int × List (List UInt8) × List (JV))) (xroots : List (JV)) (K : (List (Int)) → Prop) : Prop :=
  vclP xroots ∧ vrvP (vclS xroots) ∧ ∃ k, rrcl11 xh K k ([] : List (Int)) (vrvS (vclS xroots))
set_option maxHeartbeats 4000000 in
set_option maxRecDepth 100000 in
set_option linter.unusedVariables false in
theorem rrc_ok {g : Ghost} {axh_0 : Option Addr} {cxh_0 : Nat} (xh : List (Int × List (List UInt8) × List (JV))) {axroots_0 : Option Addr} {cxroots_0 : Nat} (xroots : List (JV)) (hRxh_0 : Rep g (.slice (.pair (.int .i64) (.pair (.slice (.str)) (.slice (.pair (.int .i64) (.pair (.int .i64) (.str))))))) [.slice axh_0 xh.length cxh_0] xh) (hRxroots_0 : Rep g (.slice (.pair (.int .i64) (.pair (.int .i64) (.str)))) [.slice axroots_0 xroots.length cxroots_0] xroots) (K : (List (Int)) → Prop)
    (hF : rrcF xh xroots K) : CallsH Try.prog 29 #[.slice axh_0 xh.length cxh_0, .slice axroots_0 xroots.length cxroots_0] g [] (fun g' H' v => ∃ (r0 : List (Int)), ∃ (ar0_0 : Option Addr) (cr0_0 : Nat), v = .slice ar0_0 r0.length cr0_0 ∧ Rep g' (.slice (.int .i64)) [.slice ar0_0 r0.length cr0_0] r0 ∧ H' = [] ∧ K r0) := by
  refine CallsH.enter 54 [(0, .slice axh_0 xh.length cxh_0), (1, .slice axroots_0 xroots.length cxroots_0)] Try.func29 rfl (by kernel_rfl) (by kernel_rfl) (by kernel_rfl) fun w0 => ?_
  refine Ok.seq ?_
  refine Ok.region ?_
  refine Ok.batch 1 [(0, .slice axh_0 xh.length cxh_0), (1, .slice axroots_0 xroots.length cxroots_0)] (by kernel_rfl) ?_
  refine Ok.nil ?_
  refine Ok.thenN ?_
  refine Ok.seq ?_
  refine Ok.region ?_
  refine Ok.batch 1 [(0, .slice axh_0 xh.length cxh_0), (9, .slice axroots_0 xroots.length cxroots_0)] (by kernel_rfl) ?_
  obtain ⟨hp1, hF⟩ := hF
  refine Ok.op rfl (OpOk.callH [] [] (enters (by kernel_rfl) (fun _ => by kernel_rfl)) rfl (vcl_c xroots hRxroots_0 hp1) rfl fun g2 _ _ hx2 hV2 => ?_)
  obtain ⟨a2_0, c2_0, xs2_0, rfl, hL2_0, rfl⟩ := hV2
  replace hRxh_0 := hRxh_0.mono hx2.1
  replace hRxroots_0 := hRxroots_0.mono hx2.1
  refine Ok.batch 1 [(0, .slice axh_0 xh.length cxh_0), (5, .slice a2_0 (vclS xroots).length c2_0)] (by kernel_rfl) ?_
  refine Ok.nil ?_
  refine Ok.thenN ?_
  refine Ok.seq ?_
  refine Ok.region ?_
  refine Ok.batch 1 [(0, .slice axh_0 xh.length cxh_0), (5, .slice a2_0 (vclS xroots).length c2_0), (11, .slice a2_0 (vclS xroots).length c2_0)] (by kernel_rfl) ?_
  obtain ⟨hp3, hF⟩ := hF
  refine Ok.op rfl (OpOk.callH [.own (.slice a2_0 (vclS xroots).length c2_0) 24 3 (vclS xroots).length xs2_0] [] (enters (by kernel_rfl) (fun _ => by kernel_rfl)) rfl (vrv_c (vclS xroots) hL2_0 hp3) rfl fun g4 _ _ hx4 hV4 => ?_)
  obtain ⟨xs4_0, rfl, hL4_0, rfl, hlen4_0⟩ := hV4
  replace hRxh_0 := hRxh_0.mono hx4.1
  replace hL2_0 := hL2_0.mono hx4.1
  refine Ok.reval 5 rfl (show (.slice a2_0 (vclS xroots).length c2_0 : Value) = .slice a2_0 (vrvS (vclS xroots)).length c2_0 from by rw [hlen4_0]) ?_
  refine Ok.reval 11 rfl (show (.slice a2_0 (vclS xroots).length c2_0 : Value) = .slice a2_0 (vrvS (vclS xroots)).length c2_0 from by rw [hlen4_0]) ?_
  refine Ok.nil ?_
  refine Ok.thenN ?_
  refine Ok.seq ?_
  refine Ok.region ?_
  refine Ok.batch 1 [(0, .slice axh_0 xh.length cxh_0), (5, .slice a2_0 (vrvS (vclS xroots)).length c2_0), (6, .slice none 0 0)] (by kernel_rfl) ?_
  have hL5 : RepL g4 (.int .i64) [] [] := rfl
  refine Ok.ownNil 3 1 ?_
  refine Ok.nil ?_
  refine Ok.thenN ?_
  refine Ok.seq ?_
  refine Ok.block ?_
  obtain ⟨k, hF⟩ := hF
  refine Ok.loop (fun k a W => ∃ gl11 : Ghost, Gext w0 g4 gl11 ∧ ∃ (ayown5_0l11 : Option Addr) (cyown5_0l11 : Nat) (yown5_0l11 : List (Int)) (xsyown5_0l11 : List Value) (ayown2_0_0l11 : Option Addr) (cyown2_0_0l11 : Nat) (yown2_0_0l11 : List (JV)) (xsyown2_0_0l11 : List Value), RepL gl11 (.int .i64) xsyown5_0l11 yown5_0l11 ∧ RepL gl11 (.pair (.int .i64) (.pair (.int .i64) (.str))) xsyown2_0_0l11 yown2_0_0l11 ∧ StA 54 [(0, .slice axh_0 xh.length cxh_0), (5, .slice ayown2_0_0l11 yown2_0_0l11.length cyown2_0_0l11), (6, .slice ayown5_0l11 yown5_0l11.length cyown5_0l11)] a ∧ StW w0 [.own (.slice ayown5_0l11 yown5_0l11.length cyown5_0l11) 3 1 yown5_0l11.length xsyown5_0l11, .own (.slice ayown2_0_0l11 yown2_0_0l11.length cyown2_0_0l11) 24 3 yown2_0_0l11.length xsyown2_0_0l11] gl11 W ∧ rrcl11 xh K k yown5_0l11 yown2_0_0l11) k ?_ ?_
  ·
    exact fun a W hA hW => ⟨g4, (Gext.refl w0 g4), none, 0, ([] : List (Int)), [], a2_0, c2_0, (vrvS (vclS xroots)), xs4_0, hL5, hL4_0, hA.sub (by kernel_rfl), hW, hF⟩
  ·
    clear hF
    rintro k11 a W ⟨gl11, hxl11, ayown5_0l11, cyown5_0l11, yown5_0l11, xsyown5_0l11, ayown2_0_0l11, cyown2_0_0l11, yown2_0_0l11, xsyown2_0_0l11, hLyown5_0l11, hLyown2_0_0l11, hA, hW, hF⟩
    cases k11 with
    | zero => exact (hF : False).elim
    | succ k11 =>
      refine (?_ : Ok _ _ _ _ _ _) a W hA hW
      clear hA hW
      replace hRxh_0 := hRxh_0.mono hxl11.1
      refine Ok.seq ?_
      refine Ok.seq ?_
      refine Ok.region ?_
      refine Ok.batch 3 [(0, .slice axh_0 xh.length cxh_0), (5, .slice ayown2_0_0l11 yown2_0_0l11.length cyown2_0_0l11), (6, .slice ayown5_0l11 yown5_0l11.length cyown5_0l11), (15, .bool (decide ((yown2_0_0l11.length : Int) > 0)))] (by kernel_rfl) ?_
      refine Ok.nil ?_
      refine Ok.thenN ?_
      refine Ok.cond (b := decide ((yown2_0_0l11.length : Int) > 0)) rfl (fun hc6 => ?_) (fun hc6 => ?_)
      · replace hF := hF.1 hc6
        refine Ok.skip ?_
        refine Ok.thenN ?_
        refine Ok.block ?_
        refine Ok.seq ?_
        refine Ok.region ?_
        refine Ok.batch 4 [(0, .slice axh_0 xh.length cxh_0), (5, .slice ayown2_0_0l11 yown2_0_0l11.length cyown2_0_0l11), (6, .slice ayown5_0l11 yown5_0l11.length cyown5_0l11), (16, .slice ayown2_0_0l11 yown2_0_0l11.length cyown2_0_0l11), (19, .int .i64 (IntKind.wrap .i64 ((yown2_0_0l11.length : Int) - 1)))] (by kernel_rfl) ?_
        obtain ⟨h08, h18, hF⟩ := hF
        have he8 := get_of (l := yown2_0_0l11) (default : JV) h18
        generalize hg8 : (yown2_0_0l11.getD (Int.toNat (IntKind.wrap .i64 ((yown2_0_0l11.length : Int) - 1))) default) = e8 at he8 hF ⊢
        refine Ok.op rfl (OpOk.indexOwn (e := .pair (.int .i64) (.pair (.int .i64) (.str))) (q := IntKind.wrap .i64 ((yown2_0_0l11.length : Int) - 1)) (el := e8) 1 rfl hLyown2_0_0l11 rfl rfl Try.underlying29 (by kernel_rfl) (by kernel_rfl) h08 he8 rfl fun cs7 _ hr7 hc7 => ?_)
        obtain ⟨_, _, rfl, rfl, ⟨_, _, rfl, rfl, rfl⟩⟩ := hr7
        replace hc7 : ∀ j v, ([.int .i64 e8.1, .int .i64 e8.2.1, .string ⟨⟨e8.2.2⟩⟩] : List Value)[j]? = some v → xsyown2_0_0l11[Int.toNat (IntKind.wrap .i64 ((yown2_0_0l11.length : Int) - 1)) * 3 + j]? = some v := hc7
        refine Ok.op rfl (OpOk.step (v := .agg #[.int .i64 e8.1, .int .i64 e8.2.1, .string ⟨⟨e8.2.2⟩⟩]) (Yields.loadAggOwn 1 0 3 #[.int .i64 e8.1, .int .i64 e8.2.1, .string ⟨⟨e8.2.2⟩⟩] rfl hc7 rfl Try.underlying24 rfl (by kernel_rfl) (by kernel_rfl) (by kernel_rfl)) rfl rfl ?_)
        refine Ok.op rfl (OpOk.alloc (z := .agg #[.int .i64 0, .int .i64 0, .string ⟨⟨([] : List UInt8)⟩⟩]) (cs := #[.int .i64 0, .int .i64 0, .string ⟨⟨([] : List UInt8)⟩⟩]) (by kernel_rfl) (by kernel_rfl) rfl fun b9 => ?_)
        refine Ok.op rfl (OpOk.store (k := 3) (v := .agg #[.int .i64 e8.1, .int .i64 e8.2.1, .string ⟨⟨e8.2.2⟩⟩]) (H' := [.blk b9 (.cells #[.int .i64 e8.1, .int .i64 e8.2.1, .string ⟨⟨e8.2.2⟩⟩] 24), .own (.slice ayown5_0l11 yown5_0l11.length cyown5_0l11) 3 1 yown5_0l11.length xsyown5_0l11, .own (.slice ayown2_0_0l11 yown2_0_0l11.length cyown2_0_0l11) 24 3 yown2_0_0l11.length xsyown2_0_0l11]) 0 rfl rfl rfl (by kernel_rfl) (by kernel_rfl) (by kernel_rfl) (by kernel_rfl) (by kernel_rfl) ?_)
        refine Ok.nil ?_
        refine Ok.thenN ?_
        refine Ok.seq ?_
        refine Ok.region ?_
        refine Ok.batch 4 [(0, .slice axh_0 xh.length cxh_0), (6, .slice ayown5_0l11 yown5_0l11.length cyown5_0l11), (7, .pointer (some ⟨b9, 0, none⟩)), (22, .slice ayown2_0_0l11 yown2_0_0l11.length cyown2_0_0l11), (25, .int .i64 (IntKind.wrap .i64 ((yown2_0_0l11.length : Int) - 1)))] (by kernel_rfl) ?_
        obtain ⟨h010, h210, hF⟩ := hF
        refine Ok.op rfl (OpOk.cutOwn (e := .pair (.int .i64) (.pair (.int .i64) (.str))) (h := (IntKind.wrap .i64 ((yown2_0_0l11.length : Int) - 1))) 2 rfl rfl rfl hLyown2_0_0l11 Try.underlying29 (by kernel_rfl) h010 h210 rfl fun xs10 hL10 => ?_)
        refine Ok.batch 1 [(0, .slice axh_0 xh.length cxh_0), (5, .slice ayown2_0_0l11 (yown2_0_0l11.take (Int.toNat (IntKind.wrap .i64 ((yown2_0_0l11.length : Int) - 1)))).length cyown2_0_0l11), (6, .slice ayown5_0l11 yown5_0l11.length cyown5_0l11), (7, .pointer (some ⟨b9, 0, none⟩))] (by kernel_rfl) ?_
        refine Ok.nil ?_
        refine Ok.thenN ?_
        refine Ok.seq ?_
        refine Ok.cut (fun a W => ∃ gj24 : Ghost, Gext w0 gl11 gj24 ∧ StA 54 [(0, .slice axh_0 xh.length cxh_0), (5, .slice ayown2_0_0l11 (yown2_0_0l11.take (Int.toNat (IntKind.wrap .i64 ((yown2_0_0l11.length : Int) - 1)))).length cyown2_0_0l11), (6, .slice ayown5_0l11 yown5_0l11.length cyown5_0l11), (7, .pointer (some ⟨b9, 0, none⟩)), (35, .bool ((e8.1 != 4) || (icoS yown5_0l11 e8.2.1)))] a ∧ StW w0 [.blk b9 (.cells #[.int .i64 e8.1, .int .i64 e8.2.1, .string ⟨⟨e8.2.2⟩⟩] 24), .own (.slice ayown5_0l11 yown5_0l11.length cyown5_0l11) 3 1 yown5_0l11.length xsyown5_0l11, .own (.slice ayown2_0_0l11 (yown2_0_0l11.take (Int.toNat (IntKind.wrap .i64 ((yown2_0_0l11.length : Int) - 1)))).length cyown2_0_0l11) 24 3 (yown2_0_0l11.take (Int.toNat (IntKind.wrap .i64 ((yown2_0_0l11.length : Int) - 1)))).length xs10] gj24 W ∧ rrcj24 xh e8 yown5_0l11 yown2_0_0l11 (rrcl11 xh K k11)) ?_ ?_
        ·
          refine Ok.region ?_
          refine Ok.batch 1 [(0, .slice axh_0 xh.length cxh_0), (5, .slice ayown2_0_0l11 (yown2_0_0l11.take (Int.toNat (IntKind.wrap .i64 ((yown2_0_0l11.length : Int) - 1)))).length cyown2_0_0l11), (6, .slice ayown5_0l11 yown5_0l11.length cyown5_0l11), (7, .pointer (some ⟨b9, 0, none⟩)), (27, .pointer (some ⟨b9, 0, none⟩))] (by kernel_rfl) ?_
          refine Ok.op rfl (OpOk.step (v := .int .i64 e8.1) (Yields.load 0 rfl rfl Try.underlying3 rfl (by kernel_rfl)) rfl rfl ?_)
          refine Ok.batch 2 [(0, .slice axh_0 xh.length cxh_0), (5, .slice ayown2_0_0l11 (yown2_0_0l11.take (Int.toNat (IntKind.wrap .i64 ((yown2_0_0l11.length : Int) - 1)))).length cyown2_0_0l11), (6, .slice ayown5_0l11 yown5_0l11.length cyown5_0l11), (7, .pointer (some ⟨b9, 0, none⟩)), (30, .bool (e8.1 != 4))] (by kernel_rfl) ?_
          refine Ok.boolAt 30 ((e8.1 != 4)) rfl (fun hc21 => ?_) (fun hc21 => ?_)
          · replace hF := hF.1 hc21
            refine Ok.batch 5 [(0, .slice axh_0 xh.length cxh_0), (5, .slice ayown2_0_0l11 (yown2_0_0l11.take (Int.toNat (IntKind.wrap .i64 ((yown2_0_0l11.length : Int) - 1)))).length cyown2_0_0l11), (6, .slice ayown5_0l11 yown5_0l11.length cyown5_0l11), (7, .pointer (some ⟨b9, 0, none⟩)), (35, .bool true)] (by kernel_rfl) ?_
            refine Ok.nil ?_
            refine Ok.thenN ?_
            refine Ok.reval 35 rfl (show (.bool true : Value) = .bool ((e8.1 != 4) || (icoS yown5_0l11 e8.2.1)) from congrArg (Value.bool) (mor_t hc21)) ?_
            exact fun a W hA hW => ⟨gl11, (Gext.refl w0 gl11), hA.sub (by kernel_rfl), hW, hF⟩
          · replace hF := hF.2 hc21
            refine Ok.batch 2 [(0, .slice axh_0 xh.length cxh_0), (5, .slice ayown2_0_0l11 (yown2_0_0l11.take (Int.toNat (IntKind.wrap .i64 ((yown2_0_0l11.length : Int) - 1)))).length cyown2_0_0l11), (6, .slice ayown5_0l11 yown5_0l11.length cyown5_0l11), (7, .pointer (some ⟨b9, 0, none⟩)), (30, .bool false), (31, .slice ayown5_0l11 yown5_0l11.length cyown5_0l11), (32, .pointer (some ⟨b9, 1, none⟩))] (by kernel_rfl) ?_
            refine Ok.opYes (j := 3) (d := 30) (want := false) (b := false) rfl (by kernel_rfl) (by kernel_rfl) rfl (OpOk.step (v := .int .i64 e8.2.1) (Yields.load 0 rfl rfl Try.underlying3 rfl (by kernel_rfl)) rfl rfl ?_)
            obtain ⟨hp22, hF⟩ := hF
            refine Ok.opYes (j := 3) (d := 30) (want := false) (b := false) rfl (by kernel_rfl) (by kernel_rfl) rfl (OpOk.callG (v := .bool (icoS yown5_0l11 e8.2.1)) (enters (by kernel_rfl) (fun _ => by kernel_rfl)) (fun W hW => ico_c yown5_0l11 e8.2.1 (hW.seeOwn 1 rfl hLyown5_0l11) hp22) rfl ?_)
            refine Ok.batch 1 [(0, .slice axh_0 xh.length cxh_0), (5, .slice ayown2_0_0l11 (yown2_0_0l11.take (Int.toNat (IntKind.wrap .i64 ((yown2_0_0l11.length : Int) - 1)))).length cyown2_0_0l11), (6, .slice ayown5_0l11 yown5_0l11.length cyown5_0l11), (7, .pointer (some ⟨b9, 0, none⟩)), (35, .bool (icoS yown5_0l11 e8.2.1))] (by kernel_rfl) ?_
            refine Ok.nil ?_
            refine Ok.thenN ?_
            refine Ok.reval 35 rfl (show (.bool (icoS yown5_0l11 e8.2.1) : Value) = .bool ((e8.1 != 4) || (icoS yown5_0l11 e8.2.1)) from congrArg (Value.bool) (mor_f hc21)) ?_
            exact fun a W hA hW => ⟨gl11, (Gext.refl w0 gl11), hA.sub (by kernel_rfl), hW, hF⟩
        ·
          clear hF
          rintro a W ⟨gj24, hxj24, hA, hW, hF⟩
          refine (?_ : Ok _ _ _ _ _ _) a W hA hW
          clear hA hW
          replace hRxh_0 := hRxh_0.mono hxj24.1
          replace hL10 := hL10.mono hxj24.1
          replace hLyown5_0l11 := hLyown5_0l11.mono hxj24.1
          refine Ok.cond (b := ((e8.1 != 4) || (icoS yown5_0l11 e8.2.1))) rfl (fun hc11 => ?_) (fun hc11 => ?_)
          · replace hF := hF.1 hc11
            refine Ok.exit ?_
            refine Ok.thenE ?_
            refine Ok.blockHit ?_
            refine Ok.thenN ?_
            subst hg8
            exact fun a W hA hW => ⟨k11, Nat.lt_succ_self _, gj24, (hxl11.trans hxj24), ayown5_0l11, cyown5_0l11, yown5_0l11, xsyown5_0l11, ayown2_0_0l11, cyown2_0_0l11, (yown2_0_0l11.take (Int.toNat (IntKind.wrap .i64 ((yown2_0_0l11.length : Int) - 1)))), xs10, hLyown5_0l11, hL10, hA.sub (by kernel_rfl), hW.sub (.cons _ (.cons_cons _ (.cons_cons _ .slnil))), hF⟩
          · replace hF := hF.2 hc11
            refine Ok.skip ?_
            refine Ok.thenN ?_
            refine Ok.seq ?_
            refine Ok.region ?_
            refine Ok.batch 2 [(0, .slice axh_0 xh.length cxh_0), (5, .slice ayown2_0_0l11 (yown2_0_0l11.take (Int.toNat (IntKind.wrap .i64 ((yown2_0_0l11.length : Int) - 1)))).length cyown2_0_0l11), (7, .pointer (some ⟨b9, 0, none⟩)), (36, .slice ayown5_0l11 yown5_0l11.length cyown5_0l11), (37, .pointer (some ⟨b9, 1, none⟩))] (by kernel_rfl) ?_
            refine Ok.op rfl (OpOk.step (v := .int .i64 e8.2.1) (Yields.load 0 rfl rfl Try.underlying3 rfl (by kernel_rfl)) rfl rfl ?_)
            have hL12 : RepL gj24 (.int .i64) ([.int .i64 e8.2.1] : List Value) ([e8.2.1] : List (Int)) := (RepL.consN (c := [.int .i64 e8.2.1]) rfl rfl)
            refine Ok.op rfl (OpOk.lit (E := 3) (.int .i64) ([e8.2.1] : List (Int)) ([.int .i64 e8.2.1] : List Value) (by kernel_rfl) (by kernel_rfl) rfl (by kernel_rfl) hL12 rfl fun b12 => ?_)
            obtain ⟨hb13, hF⟩ := hF
            refine Ok.op rfl (OpOk.append' (e := .int .i64) 8 17592186044416 2 0 rfl rfl rfl rfl hLyown5_0l11 hL12 Try.underlying61 (by kernel_rfl) (by kernel_rfl) (by kernel_rfl) hb13 rfl fun a13 c13 xs13 hL13 => ?_)
            refine Ok.batch 1 [(0, .slice axh_0 xh.length cxh_0), (5, .slice ayown2_0_0l11 (yown2_0_0l11.take (Int.toNat (IntKind.wrap .i64 ((yown2_0_0l11.length : Int) - 1)))).length cyown2_0_0l11), (6, .slice a13 (yown5_0l11 ++ ([e8.2.1] : List (Int))).length c13), (7, .pointer (some ⟨b9, 0, none⟩))] (by kernel_rfl) ?_
            refine Ok.nil ?_
            refine Ok.thenN ?_
            refine Ok.seq ?_
            refine Ok.region ?_
            refine Ok.batch 2 [(0, .slice axh_0 xh.length cxh_0), (5, .slice ayown2_0_0l11 (yown2_0_0l11.take (Int.toNat (IntKind.wrap .i64 ((yown2_0_0l11.length : Int) - 1)))).length cyown2_0_0l11), (6, .slice a13 (yown5_0l11 ++ ([e8.2.1] : List (Int))).length c13), (41, .slice axh_0 xh.length cxh_0), (42, .pointer (some ⟨b9, 1, none⟩))] (by kernel_rfl) ?_
            refine Ok.op rfl (OpOk.step (v := .int .i64 e8.2.1) (Yields.load 1 rfl rfl Try.underlying3 rfl (by kernel_rfl)) rfl rfl ?_)
            obtain ⟨h015, h115, hF⟩ := hF
            have he15 := get_of (l := xh) (default : Int × List (List UInt8) × List (JV)) h115
            generalize hg15 : (xh.getD (Int.toNat e8.2.1) default) = e15 at he15 hF ⊢
            refine Ok.op rfl (OpOk.indexRo (e := .pair (.int .i64) (.pair (.slice (.str)) (.slice (.pair (.int .i64) (.pair (.int .i64) (.str)))))) (i := e8.2.1) (el := e15) rfl rfl Try.underlying22 (by kernel_rfl) hRxh_0 h015 he15 rfl fun q14 o14 cs14 _ hat14 hr14 => ?_)
            obtain ⟨_, _, rfl, rfl, ⟨_, _, rfl, ⟨a14_1, c14_1, rfl, hm14_1, hr14_1⟩, ⟨a14_2, c14_2, rfl, hm14_2, hr14_2⟩⟩⟩ := hr14
            have hR14_1 : Rep gj24 (.slice (.str)) [.slice a14_1 e15.2.1.length c14_1] e15.2.1 := ⟨a14_1, c14_1, rfl, hm14_1, hr14_1⟩
            have hR14_2 : Rep gj24 (.slice (.pair (.int .i64) (.pair (.int .i64) (.str)))) [.slice a14_2 e15.2.2.length c14_2] e15.2.2 := ⟨a14_2, c14_2, rfl, hm14_2, hr14_2⟩
            replace hat14 : At gj24 q14 o14 [.int .i64 e15.1, .slice a14_1 e15.2.1.length c14_1, .slice a14_2 e15.2.2.length c14_2] := hat14
            refine Ok.batch 1 [(0, .slice axh_0 xh.length cxh_0), (5, .slice ayown2_0_0l11 (yown2_0_0l11.take (Int.toNat (IntKind.wrap .i64 ((yown2_0_0l11.length : Int) - 1)))).length cyown2_0_0l11), (6, .slice a13 (yown5_0l11 ++ ([e8.2.1] : List (Int))).length c13), (45, .pointer (some ⟨q14, o14 + 2, none⟩))] (by kernel_rfl) ?_
            refine Ok.op rfl (OpOk.step (v := .slice a14_2 e15.2.2.length c14_2) (Yields.loadRo 2 hat14 (by kernel_rfl) Try.underlying29 rfl (by kernel_rfl)) rfl rfl ?_)
            obtain ⟨hp16, hF⟩ := hF
            refine Ok.op rfl (OpOk.callH [] [.own (.slice (some ⟨b12, 0, none⟩) ([e8.2.1] : List (Int)).length 1) 3 1 ([e8.2.1] : List (Int)).length ([.int .i64 e8.2.1] : List Value), .blk b9 (.cells #[.int .i64 e8.1, .int .i64 e8.2.1, .string ⟨⟨e8.2.2⟩⟩] 24), .own (.slice a13 (yown5_0l11 ++ ([e8.2.1] : List (Int))).length c13) 3 1 (yown5_0l11 ++ ([e8.2.1] : List (Int))).length xs13, .own (.slice ayown2_0_0l11 (yown2_0_0l11.take (Int.toNat (IntKind.wrap .i64 ((yown2_0_0l11.length : Int) - 1)))).length cyown2_0_0l11) 24 3 (yown2_0_0l11.take (Int.toNat (IntKind.wrap .i64 ((yown2_0_0l11.length : Int) - 1)))).length xs10] (enters (by kernel_rfl) (fun _ => by kernel_rfl)) rfl (vcl_c e15.2.2 hR14_2 hp16) rfl fun g17 _ _ hx17 hV17 => ?_)
            obtain ⟨a17_0, c17_0, xs17_0, rfl, hL17_0, rfl⟩ := hV17
            replace hRxh_0 := hRxh_0.mono hx17.1
            replace hL10 := hL10.mono hx17.1
            replace hL13 := hL13.mono hx17.1
            replace hR14_2 := hR14_2.mono hx17.1
            replace hL12 := hL12.mono hx17.1
            refine Ok.batch 1 [(0, .slice axh_0 xh.length cxh_0), (5, .slice ayown2_0_0l11 (yown2_0_0l11.take (Int.toNat (IntKind.wrap .i64 ((yown2_0_0l11.length : Int) - 1)))).length cyown2_0_0l11), (6, .slice a13 (yown5_0l11 ++ ([e8.2.1] : List (Int))).length c13), (8, .slice a17_0 (vclS e15.2.2).length c17_0)] (by kernel_rfl) ?_
            refine Ok.nil ?_
            refine Ok.thenN ?_
            refine Ok.seq ?_
            refine Ok.region ?_
            refine Ok.batch 1 [(0, .slice axh_0 xh.length cxh_0), (5, .slice ayown2_0_0l11 (yown2_0_0l11.take (Int.toNat (IntKind.wrap .i64 ((yown2_0_0l11.length : Int) - 1)))).length cyown2_0_0l11), (6, .slice a13 (yown5_0l11 ++ ([e8.2.1] : List (Int))).length c13), (8, .slice a17_0 (vclS e15.2.2).length c17_0), (48, .slice a17_0 (vclS e15.2.2).length c17_0)] (by kernel_rfl) ?_
            obtain ⟨hp18, hF⟩ := hF
            refine Ok.op rfl (OpOk.callH [.own (.slice a17_0 (vclS e15.2.2).length c17_0) 24 3 (vclS e15.2.2).length xs17_0] [.own (.slice (some ⟨b12, 0, none⟩) ([e8.2.1] : List (Int)).length 1) 3 1 ([e8.2.1] : List (Int)).length ([.int .i64 e8.2.1] : List Value), .blk b9 (.cells #[.int .i64 e8.1, .int .i64 e8.2.1, .string ⟨⟨e8.2.2⟩⟩] 24), .own (.slice a13 (yown5_0l11 ++ ([e8.2.1] : List (Int))).length c13) 3 1 (yown5_0l11 ++ ([e8.2.1] : List (Int))).length xs13, .own (.slice ayown2_0_0l11 (yown2_0_0l11.take (Int.toNat (IntKind.wrap .i64 ((yown2_0_0l11.length : Int) - 1)))).length cyown2_0_0l11) 24 3 (yown2_0_0l11.take (Int.toNat (IntKind.wrap .i64 ((yown2_0_0l11.length : Int) - 1)))).length xs10] (enters (by kernel_rfl) (fun _ => by kernel_rfl)) rfl (vrv_c (vclS e15.2.2) hL17_0 hp18) rfl fun g19 _ _ hx19 hV19 => ?_)
            obtain ⟨xs19_0, rfl, hL19_0, rfl, hlen19_0⟩ := hV19
            replace hRxh_0 := hRxh_0.mono hx19.1
            replace hL10 := hL10.mono hx19.1
            replace hL13 := hL13.mono hx19.1
            replace hL17_0 := hL17_0.mono hx19.1
            replace hL12 := hL12.mono hx19.1
            refine Ok.reval 8 rfl (show (.slice a17_0 (vclS e15.2.2).length c17_0 : Value) = .slice a17_0 (vrvS (vclS e15.2.2)).length c17_0 from by rw [hlen19_0]) ?_
            refine Ok.reval 48 rfl (show (.slice a17_0 (vclS e15.2.2).length c17_0 : Value) = .slice a17_0 (vrvS (vclS e15.2.2)).length c17_0 from by rw [hlen19_0]) ?_
            refine Ok.nil ?_
            refine Ok.thenN ?_
            refine Ok.region ?_
            refine Ok.batch 2 [(0, .slice axh_0 xh.length cxh_0), (6, .slice a13 (yown5_0l11 ++ ([e8.2.1] : List (Int))).length c13), (50, .slice ayown2_0_0l11 (yown2_0_0l11.take (Int.toNat (IntKind.wrap .i64 ((yown2_0_0l11.length : Int) - 1)))).length cyown2_0_0l11), (51, .slice a17_0 (vrvS (vclS e15.2.2)).length c17_0)] (by kernel_rfl) ?_
            obtain ⟨hb20, hF⟩ := hF
            refine Ok.op rfl (OpOk.append' (e := .pair (.int .i64) (.pair (.int .i64) (.str))) 32 4398046511104 4 0 rfl rfl rfl rfl hL10 hL19_0 Try.underlying29 (by kernel_rfl) (by kernel_rfl) (by kernel_rfl) hb20 rfl fun a20 c20 xs20 hL20 => ?_)
            refine Ok.batch 1 [(0, .slice axh_0 xh.length cxh_0), (5, .slice a20 ((yown2_0_0l11.take (Int.toNat (IntKind.wrap .i64 ((yown2_0_0l11.length : Int) - 1)))) ++ (vrvS (vclS e15.2.2))).length c20), (6, .slice a13 (yown5_0l11 ++ ([e8.2.1] : List (Int))).length c13)] (by kernel_rfl) ?_
            refine Ok.nil ?_
            refine Ok.blockN ?_
            refine Ok.thenN ?_
            subst hg15
            subst hg8
            exact fun a W hA hW => ⟨k11, Nat.lt_succ_self _, g19, (((hxl11.trans hxj24).trans hx17).trans hx19), a13, c13, (yown5_0l11 ++ ([(yown2_0_0l11.getD (Int.toNat (IntKind.wrap .i64 ((yown2_0_0l11.length : Int) - 1))) default).2.1] : List (Int))), xs13, a20, c20, ((yown2_0_0l11.take (Int.toNat (IntKind.wrap .i64 ((yown2_0_0l11.length : Int) - 1)))) ++ (vrvS (vclS (xh.getD (Int.toNat (yown2_0_0l11.getD (Int.toNat (IntKind.wrap .i64 ((yown2_0_0l11.length : Int) - 1))) default).2.1) default).2.2))), xs20, hL13, hL20, hA.sub (by kernel_rfl), hW.sub (.cons _ (.cons _ (.cons _ (.cons_cons _ (.cons_cons _ .slnil))))), hF⟩
      · replace hF := hF.2 hc6
        refine Ok.exit ?_
        refine Ok.thenE ?_
        refine Ok.thenE ?_
        refine Ok.blockHit ?_
        refine Ok.thenN ?_
        refine Ok.seq ?_
        refine Ok.region ?_
        refine Ok.batch 2 [(4, .slice ayown5_0l11 yown5_0l11.length cyown5_0l11)] (by kernel_rfl) ?_
        refine Ok.nil ?_
        refine Ok.thenN ?_
        refine Ok.ret ?_
        refine Ok.freeze (H' := [.own (.slice ayown2_0_0l11 yown2_0_0l11.length cyown2_0_0l11) 24 3 yown2_0_0l11.length xsyown2_0_0l11]) 0 rfl hLyown5_0l11 rfl fun g23 hx23 hRf23 => ?_
        replace hLyown2_0_0l11 := hLyown2_0_0l11.mono hx23.1
        exact Ok.resP (vs := [.slice ayown5_0l11 yown5_0l11.length cyown5_0l11]) [] [] (by decide) rfl (.inl rfl) rfl (.cons (.tmp rfl) .nil) (((hx2.trans hx4).trans hxl11).trans hx23) ⟨yown5_0l11, ayown5_0l11, cyown5_0l11, rfl, hRf23, rfl, hF⟩
theorem kid_fit {h : List JC} (hz : hchkS h = 0) : ∀ c ∈ h, ∀ v ∈ c.2.2, hfitS h v = true := by
  intro c hc v hv
  unfold hchkS at hz
  split at hz
  · cases hz
  split at hz
  · cases hz
  split at hz
  · rename_i h3
    have hh := cel_any (all_get h3 hc)
    unfold hcelV1 vcfS at hh
    rw [Bool.and_eq_true, Bool.and_eq_true, Bool.not_eq_true'] at hh
    have := List.any_eq_false.1 hh.2.2 v hv
    have : ¬ (!(hfitS h v)) = true := this
    simpa using this
  · cases hz
theorem fit_chk {h : List JC} {v : JV} (hf : hfitS h v = true) : vchkM v = true := by
  unfold hfitS hfitV0 at hf
  rw [Bool.and_eq_true] at hf
  exact hf.1
theorem ask_both {h : List JC} {l : List JV} (hz : haskS h l = 0) : hchkS h = 0 ∧ ∀ v ∈ l, hfitS h v = true := by
  unfold haskS at hz
  split at hz
  · rename_i h1; rw [hz] at h1; cases h1
  · rename_i h1
    split at hz
    · rename_i h2
      exact ⟨by simpa using h1, fun v hv => all_get h2 hv⟩
    · cases hz
def rrcS (h : List JC) (l : List JV) : List Int := (order h l).2
def rrcQ (h : List JC) (l : List JV) : Prop := haskS h l = 0 ∧ l.length ≤ 1100000
theorem rrc_F (h : List JC) (l : List JV) (hp : rrcQ h l) : rrcF h l (fun r => r = rrcS h l) := by
  obtain ⟨hz, hl⟩ := hp
  obtain ⟨hz1, hfit⟩ := ask_both hz
  have H := hv_of hz1
  have h300 := H.few
  have loop : ∀ (M : Nat) (s : SS) (td : List JV), td.length + 201 * unv s.1 ≤ M → td.length + 200 * unv s.1 ≤ 2000000 → Inv h s → (∀ v ∈ td, hfitS h v = true) → order h l = td.foldl (come h) s → rrcl11 h (fun r => r = rrcS h l) (M + 1) s.2 td.reverse := by
    intro M
    induction M with
    | zero =>
      intro s td hM _ I _ he
      obtain rfl : td = [] := List.eq_nil_of_length_eq_zero (by omega)
      exact ⟨fun h => by simp at h, fun _ => by unfold rrcS; rw [he]; rfl⟩
    | succ M ih =>
      intro s td hM hB I hf he
      cases td with
      | nil => exact ⟨fun h => by simp at h, fun _ => by unfold rrcS; rw [he]; rfl⟩
      | cons v r =>
        rw [List.length_cons] at hM hB
        rw [List.foldl_cons] at he
        have hcnt := I.cnt
        have hlen : (v :: r).reverse.length = r.length + 1 := by rw [List.length_reverse, List.length_cons]
        have hidx : (IntKind.wrap .i64 (((v :: r).reverse.length : Int) - 1)) = (r.length : Int) := by rw [hlen, w64 (by omega)]; omega
        have hget : (v :: r).reverse.getD r.length default = v := by
          rw [List.getD_eq_getElem?_getD, List.reverse_cons, List.getElem?_append_right (by simp), List.length_reverse, Nat.sub_self]; rfl
        have htake : (v :: r).reverse.take r.length = r.reverse := by
          rw [List.reverse_cons, List.take_left' (by simp)]
        have hfv := hf v (List.mem_cons_self ..)
        have hfr : ∀ w ∈ r, hfitS h w = true := fun w hw => hf w (List.mem_cons_of_mem _ hw)
        have hrl := fit_ref hfv
        have hce := come_eq H I hrl
        have j24 : rrcj24 h v s.2 (v :: r).reverse (rrcl11 h (fun r => r = rrcS h l) (M + 1)) := by
          unfold rrcj24
          rw [hidx, Int.toNat_natCast, hget, htake]
          refine ⟨fun hc => ?_, fun hc => ?_⟩
          · have hs : come h s v = s := by
              rw [hce, if_pos]
              rw [Bool.or_eq_true, decide_eq_true_eq, decide_eq_true_eq]
              unfold hrefM
              rw [Bool.or_eq_true] at hc
              rcases hc with hc | hc
              · left
                have : (v.1 == 4) = false := by rw [bne, Bool.not_eq_true'] at hc; exact hc
                rw [if_f this]; omega
              · by_cases h4 : (v.1 == 4) = true
                · rw [if_t h4]
                  rw [ico_iff] at hc
                  have hr := I.ran _ hc
                  right
                  have := I.lnk v.2.1.toNat (by omega)
                  rw [show ((v.2.1.toNat : Nat) : Int) = v.2.1 by omega, if_pos hc] at this
                  omega
                · left; rw [if_neg h4]; omega
            rw [hs] at he
            exact ih s r (by omega) (by omega) I hfr he
          · rw [Bool.or_eq_false_iff] at hc
            have h4 : (v.1 == 4) = true := by have := hc.1; rw [bne, Bool.not_eq_false'] at this; exact this
            have hn0 := chk_ref (fit_chk hfv) h4
            have hni : v.2.1 ∉ s.2 := fun hm => by rw [(ico_iff s.2 v.2.1).2 hm] at hc; cases hc.2
            have hr : hrefM v = v.2.1 := by unfold hrefM; rw [if_t h4]
            rw [hr] at hce hrl
            obtain ⟨n, hn⟩ : ∃ n : Nat, v.2.1 = (n : Int) := ⟨v.2.1.toNat, by omega⟩
            rw [hn] at hce hrl hni hn0 ⊢
            rw [Int.toNat_natCast] at hce ⊢
            have hnl : n < h.length := by omega
            have hlk := I.lnk n hnl
            rw [if_neg hni] at hlk
            rw [if_f (by rw [Bool.or_eq_false_iff, decide_eq_false_iff_not, decide_eq_false_iff_not]; omega)] at hce
            have hsm := (H.small _ (mem_getD default hnl)).1
            have hu := unv_set (l := s.1) (s.2.length : Int) (by rw [I.len]; exact hnl) (by omega) (by omega)
            have I2 := I.put hnl (by omega)
            refine ⟨by rw [List.length_append]; simp; omega, hn0, hnl, by unfold vclP; show (h.getD n default).2.2.length ≤ _; omega, by unfold vrvP vclS; omega, by unfold vrvS vclS; rw [List.length_append, List.length_reverse, List.length_reverse]; omega, ?_⟩
            unfold vrvS vclS
            rw [← List.reverse_append]
            refine ih (s.1.set n (s.2.length : Int), s.2 ++ [(n : Int)]) ((h.getD n default).2.2 ++ r) ?_ ?_ I2 ?_ ?_
            · show _ + 201 * unv (s.1.set n (s.2.length : Int)) ≤ _
              rw [List.length_append]; omega
            · show _ + 200 * unv (s.1.set n (s.2.length : Int)) ≤ _
              rw [List.length_append]; omega
            · intro w hw
              rcases List.mem_append.1 hw with hw | hw
              · exact kid_fit hz1 _ (mem_getD default hnl) w hw
              · exact hfr w hw
            · rw [List.foldl_append, ← hce]; exact he
        rw [rrcl11]
        unfold rrcl11b
        rw [hidx, Int.toNat_natCast, hget]
        exact ⟨fun _ => ⟨by omega, by omega, by omega, by omega, fun _ => j24, fun _ => ⟨by unfold iixP; omega, j24⟩⟩, fun h => by rw [hlen] at h; have := of_decide_eq_false h; omega⟩
  have h0 := (start_inv h).cnt
  exact ⟨by unfold vclP; omega, by unfold vrvP vclS; omega, _, loop (l.length + 201 * unv (start h).1) (start h) l (by omega) (by omega) (start_inv h) hfit rfl⟩
set_option linter.unusedVariables false in
theorem rrc_c {g : Ghost} {axh_0 : Option Addr} {cxh_0 : Nat} (xh : List (Int × List (List UInt8) × List (Int × Int × List UInt8))) {axroots_0 : Option Addr} {cxroots_0 : Nat} (xroots : List (Int × Int × List UInt8)) (hRxh_0 : Rep g (.slice (.pair (.int .i64) (.pair (.slice (.str)) (.slice (.pair (.int .i64) (.pair (.int .i64) (.str))))))) [.slice axh_0 xh.length cxh_0] xh) (hRxroots_0 : Rep g (.slice (.pair (.int .i64) (.pair (.int .i64) (.str)))) [.slice axroots_0 xroots.length cxroots_0] xroots)  (hp : rrcQ xh xroots) : CallsH Try.prog 29 #[.slice axh_0 xh.length cxh_0, .slice axroots_0 xroots.length cxroots_0] g [] (fun g' H' v => ∃ (ar0_0 : Option Addr) (cr0_0 : Nat), v = .slice ar0_0 (rrcS xh xroots).length cr0_0 ∧ Rep g' (.slice (.int .i64)) [.slice ar0_0 (rrcS xh xroots).length cr0_0] (rrcS xh xroots) ∧ H' = []) :=
  (rrc_ok xh xroots hRxh_0 hRxroots_0 _ (rrc_F xh xroots hp)).mono (by rintro g' H' v _ ⟨r0, ar0_0, cr0_0, rfl, hRr0_0, rfl, hK⟩; subst hK; exact ⟨ar0_0, cr0_0, rfl, hRr0_0, rfl⟩)
def rrnV0 (xorder : List (Int)) (e4 : JV) : Int :=
  (if (e4.1 == 4) = true then (iixS xorder e4.2.1) else e4.2.1)
def rrnj20 (xl : List (JV)) (xorder : List (Int)) (e4 : JV) (x10l9 : Int) (yown1_0l9 : List (JV)) (C9 : Int → (List (JV)) → Prop) : Prop :=
  (yown1_0l9 ++ ([(e4.1, (rrnV0 xorder e4), e4.2.2)] : List (JV))).length ≤ 4398046511104 ∧ C9 (IntKind.wrap .i64 (x10l9 + 1)) (yown1_0l9 ++ ([((xl.getD (Int.toNat x10l9) default).1, (rrnV0 xorder (xl.getD (Int.toNat x10l9) default)), (xl.getD (Int.toNat x10l9) default).2.2)] : List (JV)))
def rrnl9b (xl : List (JV)) (xorder : List (Int)) (K : (List (JV)) → Prop) (x10l9 : Int) (yown1_0l9 : List (JV)) (C9 : Int → (List (JV)) → Prop) : Prop :=
  ((decide (x10l9 < (xl.length : Int))) = true → (0 : Int) ≤ x10l9 ∧ Int.toNat x10l9 < xl.length ∧ ((((xl.getD (Int.toNat x10l9) default).1 == 4)) = true → iixP xorder (xl.getD (Int.toNat x10l9) default).2.1 ∧ rrnj20 xl xorder (xl.getD (Int.toNat x10l9) default) x10l9 yown1_0l9 C9) ∧ ((((xl.getD (Int.toNat x10l9) default).1 == 4)) = false → rrnj20 xl xorder (xl.getD (Int.toNat x10l9) default) x10l9 yown1_0l9 C9)) ∧ ((decide (x10l9 < (xl.length : Int))) = false → K yown1_0l9)
def rrnl9 (xl : List (JV)) (xorder : List (Int)) (K : (List (JV)) → Prop) : Nat → Int → (List (JV)) → Prop
  | 0, _, _ => False
  | k + 1, x10l9, yown1_0l9 => rrnl9b xl xorder K x10l9 yown1_0l9 (rrnl9 xl xorder K k)
def rrnF (xl : List (JV)) (xorder : List (Int)) (K : (List (JV)) → Prop) : Prop :=
  ∃ k, rrnl9 xl xorder K k 0 ([] : List (JV))
set_option maxHeartbeats 4000000 in
set_option maxRecDepth 100000 in
set_option linter.unusedVariables false in
theorem rrn_ok {g : Ghost} {axl_0 : Option Addr} {cxl_0 : Nat} (xl : List (JV)) {axorder_0 : Option Addr} {cxorder_0 : Nat} (xorder : List (Int)) (hRxl_0 : Rep g (.slice (.pair (.int .i64) (.pair (.int .i64) (.str)))) [.slice axl_0 xl.length cxl_0] xl) (hRxorder_0 : Rep g (.slice (.int .i64)) [.slice axorder_0 xorder.length cxorder_0] xorder) (K : (List (JV)) → Prop)
    (hF : rrnF xl xorder K) : CallsH Try.prog 37 #[.slice axl_0 xl.length cxl_0, .slice axorder_0 xorder.length cxorder_0] g [] (fun g' H' v => ∃ (r0 : List (JV)), ∃ (ar0_0 : Option Addr) (cr0_0 : Nat), v = .slice ar0_0 r0.length cr0_0 ∧ Rep g' (.slice (.pair (.int .i64) (.pair (.int .i64) (.str)))) [.slice ar0_0 r0.length cr0_0] r0 ∧ H' = [] ∧ K r0) := by
  refine CallsH.enter 28 [(0, .slice axl_0 xl.length cxl_0), (1, .slice axorder_0 xorder.length cxorder_0)] Try.func37 rfl (by kernel_rfl) (by kernel_rfl) (by kernel_rfl) fun w0 => ?_
  refine Ok.seq ?_
  refine Ok.region ?_
  refine Ok.batch 1 [(0, .slice axl_0 xl.length cxl_0), (1, .slice axorder_0 xorder.length cxorder_0)] (by kernel_rfl) ?_
  refine Ok.nil ?_
  refine Ok.thenN ?_
  refine Ok.seq ?_
  refine Ok.region ?_
  refine Ok.batch 1 [(0, .slice axl_0 xl.length cxl_0), (1, .slice axorder_0 xorder.length cxorder_0), (5, .slice none 0 0)] (by kernel_rfl) ?_
  have hL1 : RepL g (.pair (.int .i64) (.pair (.int .i64) (.str))) [] [] := rfl
  refine Ok.ownNil 24 3 ?_
  refine Ok.nil ?_
  refine Ok.thenN ?_
  refine Ok.seq ?_
  refine Ok.seq ?_
  refine Ok.region ?_
  refine Ok.batch 3 [(1, .slice axorder_0 xorder.length cxorder_0), (5, .slice none ([] : List (JV)).length 0), (8, .slice axl_0 xl.length cxl_0), (9, .int .i64 (xl.length : Int)), (10, .int .i64 0)] (by kernel_rfl) ?_
  refine Ok.nil ?_
  refine Ok.thenN ?_
  refine Ok.block ?_
  obtain ⟨k, hF⟩ := hF
  refine Ok.loop (fun k a W => ∃ gl9 : Ghost, Gext w0 g gl9 ∧ ∃ (x10l9 : Int) (ayown1_0l9 : Option Addr) (cyown1_0l9 : Nat) (yown1_0l9 : List (JV)) (xsyown1_0l9 : List Value), RepL gl9 (.pair (.int .i64) (.pair (.int .i64) (.str))) xsyown1_0l9 yown1_0l9 ∧ StA 28 [(1, .slice axorder_0 xorder.length cxorder_0), (5, .slice ayown1_0l9 yown1_0l9.length cyown1_0l9), (8, .slice axl_0 xl.length cxl_0), (9, .int .i64 (xl.length : Int)), (10, .int .i64 x10l9)] a ∧ StW w0 [.own (.slice ayown1_0l9 yown1_0l9.length cyown1_0l9) 24 3 yown1_0l9.length xsyown1_0l9] gl9 W ∧ rrnl9 xl xorder K k x10l9 yown1_0l9) k ?_ ?_
  ·
    exact fun a W hA hW => ⟨g, (Gext.refl w0 g), 0, none, 0, ([] : List (JV)), [], hL1, hA.sub (by kernel_rfl), hW, hF⟩
  ·
    clear hF
    rintro k9 a W ⟨gl9, hxl9, x10l9, ayown1_0l9, cyown1_0l9, yown1_0l9, xsyown1_0l9, hLyown1_0l9, hA, hW, hF⟩
    cases k9 with
    | zero => exact (hF : False).elim
    | succ k9 =>
      refine (?_ : Ok _ _ _ _ _ _) a W hA hW
      clear hA hW
      replace hRxorder_0 := hRxorder_0.mono hxl9.1
      replace hRxl_0 := hRxl_0.mono hxl9.1
      refine Ok.seq ?_
      refine Ok.region ?_
      refine Ok.batch 1 [(1, .slice axorder_0 xorder.length cxorder_0), (5, .slice ayown1_0l9 yown1_0l9.length cyown1_0l9), (8, .slice axl_0 xl.length cxl_0), (9, .int .i64 (xl.length : Int)), (10, .int .i64 x10l9), (11, .bool (decide (x10l9 < (xl.length : Int))))] (by kernel_rfl) ?_
      refine Ok.nil ?_
      refine Ok.thenN ?_
      refine Ok.seq ?_
      refine Ok.cond (b := decide (x10l9 < (xl.length : Int))) rfl (fun hc2 => ?_) (fun hc2 => ?_)
      · replace hF := hF.1 hc2
        refine Ok.skip ?_
        refine Ok.thenN ?_
        refine Ok.seq ?_
        refine Ok.block ?_
        refine Ok.seq ?_
        refine Ok.region ?_
        obtain ⟨h04, h14, hF⟩ := hF
        have he4 := get_of (l := xl) (default : JV) h14
        generalize hg4 : (xl.getD (Int.toNat x10l9) default) = e4 at he4 hF ⊢
        refine Ok.op rfl (OpOk.indexRo (e := .pair (.int .i64) (.pair (.int .i64) (.str))) (i := x10l9) (el := e4) rfl rfl Try.underlying29 (by kernel_rfl) hRxl_0 h04 he4 rfl fun q3 o3 cs3 _ hat3 hr3 => ?_)
        obtain ⟨_, _, rfl, rfl, ⟨_, _, rfl, rfl, rfl⟩⟩ := hr3
        replace hat3 : At gl9 q3 o3 [.int .i64 e4.1, .int .i64 e4.2.1, .string ⟨⟨e4.2.2⟩⟩] := hat3
        refine Ok.op rfl (OpOk.step (v := .agg #[.int .i64 e4.1, .int .i64 e4.2.1, .string ⟨⟨e4.2.2⟩⟩]) (Yields.loadAggRo 0 3 #[.int .i64 e4.1, .int .i64 e4.2.1, .string ⟨⟨e4.2.2⟩⟩] hat3 (by kernel_rfl) Try.underlying24 rfl (by kernel_rfl) (by kernel_rfl) (by kernel_rfl)) rfl rfl ?_)
        refine Ok.op rfl (OpOk.alloc (z := .agg #[.int .i64 0, .int .i64 0, .string ⟨⟨([] : List UInt8)⟩⟩]) (cs := #[.int .i64 0, .int .i64 0, .string ⟨⟨([] : List UInt8)⟩⟩]) (by kernel_rfl) (by kernel_rfl) rfl fun b5 => ?_)
        refine Ok.op rfl (OpOk.store (k := 3) (v := .agg #[.int .i64 e4.1, .int .i64 e4.2.1, .string ⟨⟨e4.2.2⟩⟩]) (H' := [.blk b5 (.cells #[.int .i64 e4.1, .int .i64 e4.2.1, .string ⟨⟨e4.2.2⟩⟩] 24), .own (.slice ayown1_0l9 yown1_0l9.length cyown1_0l9) 24 3 yown1_0l9.length xsyown1_0l9]) 0 rfl rfl rfl (by kernel_rfl) (by kernel_rfl) (by kernel_rfl) (by kernel_rfl) (by kernel_rfl) ?_)
        refine Ok.nil ?_
        refine Ok.thenN ?_
        refine Ok.cut (fun a W => ∃ gj20 : Ghost, Gext w0 gl9 gj20 ∧ StA 28 [(1, .slice axorder_0 xorder.length cxorder_0), (5, .slice ayown1_0l9 yown1_0l9.length cyown1_0l9), (7, .pointer (some ⟨b5, 0, none⟩)), (8, .slice axl_0 xl.length cxl_0), (9, .int .i64 (xl.length : Int)), (10, .int .i64 x10l9)] a ∧ StW w0 [.blk b5 (.cells #[.int .i64 e4.1, .int .i64 (rrnV0 xorder e4), .string ⟨⟨e4.2.2⟩⟩] 24), .own (.slice ayown1_0l9 yown1_0l9.length cyown1_0l9) 24 3 yown1_0l9.length xsyown1_0l9] gj20 W ∧ rrnj20 xl xorder e4 x10l9 yown1_0l9 (rrnl9 xl xorder K k9)) ?_ ?_
        ·
          refine Ok.seq ?_
          refine Ok.region ?_
          refine Ok.batch 1 [(1, .slice axorder_0 xorder.length cxorder_0), (5, .slice ayown1_0l9 yown1_0l9.length cyown1_0l9), (7, .pointer (some ⟨b5, 0, none⟩)), (8, .slice axl_0 xl.length cxl_0), (9, .int .i64 (xl.length : Int)), (10, .int .i64 x10l9), (14, .pointer (some ⟨b5, 0, none⟩))] (by kernel_rfl) ?_
          refine Ok.op rfl (OpOk.step (v := .int .i64 e4.1) (Yields.load 0 rfl rfl Try.underlying3 rfl (by kernel_rfl)) rfl rfl ?_)
          refine Ok.batch 1 [(1, .slice axorder_0 xorder.length cxorder_0), (5, .slice ayown1_0l9 yown1_0l9.length cyown1_0l9), (7, .pointer (some ⟨b5, 0, none⟩)), (8, .slice axl_0 xl.length cxl_0), (9, .int .i64 (xl.length : Int)), (10, .int .i64 x10l9), (16, .bool (e4.1 == 4))] (by kernel_rfl) ?_
          refine Ok.nil ?_
          refine Ok.thenN ?_
          refine Ok.cond (b := (e4.1 == 4)) rfl (fun hc8 => ?_) (fun hc8 => ?_)
          · replace hF := hF.1 hc8
            refine Ok.region ?_
            refine Ok.batch 2 [(1, .slice axorder_0 xorder.length cxorder_0), (5, .slice ayown1_0l9 yown1_0l9.length cyown1_0l9), (7, .pointer (some ⟨b5, 0, none⟩)), (8, .slice axl_0 xl.length cxl_0), (9, .int .i64 (xl.length : Int)), (10, .int .i64 x10l9), (17, .slice axorder_0 xorder.length cxorder_0), (18, .pointer (some ⟨b5, 1, none⟩))] (by kernel_rfl) ?_
            refine Ok.op rfl (OpOk.step (v := .int .i64 e4.2.1) (Yields.load 0 rfl rfl Try.underlying3 rfl (by kernel_rfl)) rfl rfl ?_)
            obtain ⟨hp9, hF⟩ := hF
            refine Ok.op rfl (OpOk.callG (v := .int .i64 (iixS xorder e4.2.1)) (enters (by kernel_rfl) (fun _ => by kernel_rfl)) (fun W hW => iix_c xorder e4.2.1 (hRxorder_0.mono hW.sees) hp9) rfl ?_)
            refine Ok.batch 1 [(1, .slice axorder_0 xorder.length cxorder_0), (5, .slice ayown1_0l9 yown1_0l9.length cyown1_0l9), (7, .pointer (some ⟨b5, 0, none⟩)), (8, .slice axl_0 xl.length cxl_0), (9, .int .i64 (xl.length : Int)), (10, .int .i64 x10l9), (20, .int .i64 (iixS xorder e4.2.1)), (21, .pointer (some ⟨b5, 1, none⟩))] (by kernel_rfl) ?_
            refine Ok.op rfl (OpOk.store (k := 1) (v := .int .i64 (iixS xorder e4.2.1)) (H' := [.blk b5 (.cells #[.int .i64 e4.1, .int .i64 (iixS xorder e4.2.1), .string ⟨⟨e4.2.2⟩⟩] 24), .own (.slice ayown1_0l9 yown1_0l9.length cyown1_0l9) 24 3 yown1_0l9.length xsyown1_0l9]) 0 rfl rfl rfl (by kernel_rfl) (by kernel_rfl) (by kernel_rfl) (by kernel_rfl) (by kernel_rfl) ?_)
            refine Ok.nil ?_
            refine Ok.thenN ?_
            refine Ok.heapEq (H' := [.blk b5 (.cells #[.int .i64 e4.1, .int .i64 (rrnV0 xorder e4), .string ⟨⟨e4.2.2⟩⟩] 24), .own (.slice ayown1_0l9 yown1_0l9.length cyown1_0l9) 24 3 yown1_0l9.length xsyown1_0l9]) (econs (congrArg (fun l : List Value => Ent.blk b5 (.cells ⟨l⟩ 24)) (lcons (rfl) (lcons (congrArg (Value.int .i64) ((if_t hc8).symm)) (lcons (rfl) rfl)))) (econs (rfl) rfl)) ?_
            exact fun a W hA hW => ⟨gl9, (Gext.refl w0 gl9), hA.sub (by kernel_rfl), hW, hF⟩
          · replace hF := hF.2 hc8
            refine Ok.skip ?_
            refine Ok.thenN ?_
            refine Ok.heapEq (H' := [.blk b5 (.cells #[.int .i64 e4.1, .int .i64 (rrnV0 xorder e4), .string ⟨⟨e4.2.2⟩⟩] 24), .own (.slice ayown1_0l9 yown1_0l9.length cyown1_0l9) 24 3 yown1_0l9.length xsyown1_0l9]) (econs (congrArg (fun l : List Value => Ent.blk b5 (.cells ⟨l⟩ 24)) (lcons (rfl) (lcons (congrArg (Value.int .i64) ((if_f hc8).symm)) (lcons (rfl) rfl)))) (econs (rfl) rfl)) ?_
            exact fun a W hA hW => ⟨gl9, (Gext.refl w0 gl9), hA.sub (by kernel_rfl), hW, hF⟩
        ·
          clear hF
          rintro a W ⟨gj20, hxj20, hA, hW, hF⟩
          refine (?_ : Ok _ _ _ _ _ _) a W hA hW
          clear hA hW
          replace hRxorder_0 := hRxorder_0.mono hxj20.1
          replace hLyown1_0l9 := hLyown1_0l9.mono hxj20.1
          replace hRxl_0 := hRxl_0.mono hxj20.1
          refine Ok.region ?_
          refine Ok.batch 1 [(1, .slice axorder_0 xorder.length cxorder_0), (7, .pointer (some ⟨b5, 0, none⟩)), (8, .slice axl_0 xl.length cxl_0), (9, .int .i64 (xl.length : Int)), (10, .int .i64 x10l9), (22, .slice ayown1_0l9 yown1_0l9.length cyown1_0l9)] (by kernel_rfl) ?_
          refine Ok.op rfl (OpOk.step (v := .agg #[.int .i64 e4.1, .int .i64 (rrnV0 xorder e4), .string ⟨⟨e4.2.2⟩⟩]) (Yields.loadAgg 0 3 #[.int .i64 e4.1, .int .i64 (rrnV0 xorder e4), .string ⟨⟨e4.2.2⟩⟩] rfl rfl Try.underlying24 rfl (by kernel_rfl) (by kernel_rfl) (by kernel_rfl)) rfl rfl ?_)
          have hL6 : RepL gj20 (.pair (.int .i64) (.pair (.int .i64) (.str))) ([.int .i64 e4.1, .int .i64 (rrnV0 xorder e4), .string ⟨⟨e4.2.2⟩⟩] : List Value) ([(e4.1, (rrnV0 xorder e4), e4.2.2)] : List (JV)) := (RepL.consN (c := [.int .i64 e4.1, .int .i64 (rrnV0 xorder e4), .string ⟨⟨e4.2.2⟩⟩]) ⟨[.int .i64 e4.1], [.int .i64 (rrnV0 xorder e4), .string ⟨⟨e4.2.2⟩⟩], rfl, rfl, ⟨[.int .i64 (rrnV0 xorder e4)], [.string ⟨⟨e4.2.2⟩⟩], rfl, rfl, rfl⟩⟩ rfl)
          refine Ok.op rfl (OpOk.lit (E := 24) (.pair (.int .i64) (.pair (.int .i64) (.str))) ([(e4.1, (rrnV0 xorder e4), e4.2.2)] : List (JV)) ([.int .i64 e4.1, .int .i64 (rrnV0 xorder e4), .string ⟨⟨e4.2.2⟩⟩] : List Value) (by kernel_rfl) (by kernel_rfl) rfl (by kernel_rfl) hL6 rfl fun b6 => ?_)
          obtain ⟨hb7, hF⟩ := hF
          refine Ok.op rfl (OpOk.append' (e := .pair (.int .i64) (.pair (.int .i64) (.str))) 32 4398046511104 2 0 rfl rfl rfl rfl hLyown1_0l9 hL6 Try.underlying29 (by kernel_rfl) (by kernel_rfl) (by kernel_rfl) hb7 rfl fun a7 c7 xs7 hL7 => ?_)
          refine Ok.batch 1 [(1, .slice axorder_0 xorder.length cxorder_0), (5, .slice a7 (yown1_0l9 ++ ([(e4.1, (rrnV0 xorder e4), e4.2.2)] : List (JV))).length c7), (8, .slice axl_0 xl.length cxl_0), (9, .int .i64 (xl.length : Int)), (10, .int .i64 x10l9)] (by kernel_rfl) ?_
          refine Ok.nil ?_
          refine Ok.blockN ?_
          refine Ok.thenN ?_
          refine Ok.region ?_
          refine Ok.batch 2 [(1, .slice axorder_0 xorder.length cxorder_0), (5, .slice a7 (yown1_0l9 ++ ([(e4.1, (rrnV0 xorder e4), e4.2.2)] : List (JV))).length c7), (8, .slice axl_0 xl.length cxl_0), (9, .int .i64 (xl.length : Int)), (10, .int .i64 (IntKind.wrap .i64 (x10l9 + 1)))] (by kernel_rfl) ?_
          refine Ok.nil ?_
          refine Ok.thenN ?_
          subst hg4
          exact fun a W hA hW => ⟨k9, Nat.lt_succ_self _, gj20, (hxl9.trans hxj20), IntKind.wrap .i64 (x10l9 + 1), a7, c7, (yown1_0l9 ++ ([((xl.getD (Int.toNat x10l9) default).1, (rrnV0 xorder (xl.getD (Int.toNat x10l9) default)), (xl.getD (Int.toNat x10l9) default).2.2)] : List (JV))), xs7, hL7, hA.sub (by kernel_rfl), hW.sub (.cons _ (.cons _ (.cons_cons _ .slnil))), hF⟩
      · replace hF := hF.2 hc2
        refine Ok.exit ?_
        refine Ok.thenE ?_
        refine Ok.thenE ?_
        refine Ok.blockHit ?_
        refine Ok.thenN ?_
        refine Ok.seq ?_
        refine Ok.region ?_
        refine Ok.batch 2 [(4, .slice ayown1_0l9 yown1_0l9.length cyown1_0l9)] (by kernel_rfl) ?_
        refine Ok.nil ?_
        refine Ok.thenN ?_
        refine Ok.ret ?_
        refine Ok.freeze (H' := []) 0 rfl hLyown1_0l9 rfl fun g10 hx10 hRf10 => ?_
        exact Ok.resH (vs := [.slice ayown1_0l9 yown1_0l9.length cyown1_0l9]) (.inl rfl) rfl (.cons (.tmp rfl) .nil) (hxl9.trans hx10) ⟨yown1_0l9, ayown1_0l9, cyown1_0l9, rfl, hRf10, rfl, hF⟩
def numV (order : List Int) (v : JV) : JV := (v.1, rrnV0 order v, v.2.2)
def rrnS (l : List JV) (order : List Int) : List JV := l.map (numV order)
def rrnP (l : List JV) (order : List Int) : Prop := l.length ≤ 1100000 ∧ order.length ≤ 1000000
theorem rrn_F (l : List JV) (order : List Int) (hp : rrnP l order) : rrnF l order (fun r => r = rrnS l order) := by
  obtain ⟨hl, ho⟩ := hp
  have loop : ∀ (k i : Nat), i + k = l.length → rrnl9 l order (fun r => r = rrnS l order) (k + 1) (i : Int) ((l.take i).map (numV order)) := by
    intro k
    induction k with
    | zero =>
      intro i hi
      refine ⟨fun h2 => by have := of_decide_eq_true h2; omega, fun _ => ?_⟩
      rw [List.take_of_length_le (by omega)]; rfl
    | succ k ih =>
      intro i hi
      have j20 : rrnj20 l order (l.getD i default) (i : Int) ((l.take i).map (numV order)) (rrnl9 l order (fun r => r = rrnS l order) (k + 1)) := by
        unfold rrnj20
        rw [Int.toNat_natCast]
        refine ⟨by rw [List.length_append, List.length_map, List.length_take]; simp; omega, ?_⟩
        rw [w64 (by omega)]
        have := ih (i + 1) (by omega)
        rw [take_get (l := l) default (by omega), List.map_append] at this
        exact this
      rw [rrnl9]
      unfold rrnl9b
      rw [Int.toNat_natCast]
      exact ⟨fun _ => ⟨by omega, by omega, fun _ => ⟨ho, j20⟩, fun _ => j20⟩, fun h2 => by have := of_decide_eq_false h2; omega⟩
  exact ⟨_, loop l.length 0 (by omega)⟩
set_option linter.unusedVariables false in
theorem rrn_c {g : Ghost} {axl_0 : Option Addr} {cxl_0 : Nat} (xl : List (Int × Int × List UInt8)) {axorder_0 : Option Addr} {cxorder_0 : Nat} (xorder : List (Int)) (hRxl_0 : Rep g (.slice (.pair (.int .i64) (.pair (.int .i64) (.str)))) [.slice axl_0 xl.length cxl_0] xl) (hRxorder_0 : Rep g (.slice (.int .i64)) [.slice axorder_0 xorder.length cxorder_0] xorder)  (hp : rrnP xl xorder) : CallsH Try.prog 37 #[.slice axl_0 xl.length cxl_0, .slice axorder_0 xorder.length cxorder_0] g [] (fun g' H' v => ∃ (ar0_0 : Option Addr) (cr0_0 : Nat), v = .slice ar0_0 (rrnS xl xorder).length cr0_0 ∧ Rep g' (.slice (.pair (.int .i64) (.pair (.int .i64) (.str)))) [.slice ar0_0 (rrnS xl xorder).length cr0_0] (rrnS xl xorder) ∧ H' = []) :=
  (rrn_ok xl xorder hRxl_0 hRxorder_0 _ (rrn_F xl xorder hp)).mono (by rintro g' H' v _ ⟨r0, ar0_0, cr0_0, rfl, hRr0_0, rfl, hK⟩; subst hK; exact ⟨ar0_0, cr0_0, rfl, hRr0_0, rfl⟩)
def rmcl11b (xh : List (Int × List (List UInt8) × List (JV))) (xroots : List (JV)) (K : (List (Int × List (List UInt8) × List (JV))) → (List (JV)) → Prop) (x15l11 : Int) (yown3_0l11 : List (Int × List (List UInt8) × List (JV))) (C11 : Int → (List (Int × List (List UInt8) × List (JV))) → Prop) : Prop :=
  ((decide (x15l11 < ((rrcS xh xroots).length : Int))) = true → (0 : Int) ≤ x15l11 ∧ Int.toNat x15l11 < (rrcS xh xroots).length ∧ (0 : Int) ≤ ((rrcS xh xroots).getD (Int.toNat x15l11) default) ∧ Int.toNat ((rrcS xh xroots).getD (Int.toNat x15l11) default) < xh.length ∧ rrnP (xh.getD (Int.toNat ((rrcS xh xroots).getD (Int.toNat x15l11) default)) default).2.2 (rrcS xh xroots) ∧ (yown3_0l11 ++ ([((xh.getD (Int.toNat ((rrcS xh xroots).getD (Int.toNat x15l11) default)) default).1, (xh.getD (Int.toNat ((rrcS xh xroots).getD (Int.toNat x15l11) default)) default).2.1, (rrnS (xh.getD (Int.toNat ((rrcS xh xroots).getD (Int.toNat x15l11) default)) default).2.2 (rrcS xh xroots)))] : List (Int × List (List UInt8) × List (JV)))).length ≤ 2513169434916 ∧ C11 (IntKind.wrap .i64 (x15l11 + 1)) (yown3_0l11 ++ ([((xh.getD (Int.toNat ((rrcS xh xroots).getD (Int.toNat x15l11) default)) default).1, (xh.getD (Int.toNat ((rrcS xh xroots).getD (Int.toNat x15l11) default)) default).2.1, (rrnS (xh.getD (Int.toNat ((rrcS xh xroots).getD (Int.toNat x15l11) default)) default).2.2 (rrcS xh xroots)))] : List (Int × List (List UInt8) × List (JV))))) ∧ ((decide (x15l11 < ((rrcS xh xroots).length : Int))) = false → rrnP xroots (rrcS xh xroots) ∧ K yown3_0l11 (rrnS xroots (rrcS xh xroots)))
def rmcl11 (xh : List (Int × List (List UInt8) × List (JV))) (xroots : List (JV)) (K : (List (Int × List (List UInt8) × List (JV))) → (List (JV)) → Prop) : Nat → Int → (List (Int × List (List UInt8) × List (JV))) → Prop
  | 0, _, _ => False
  | k + 1, x15l11, yown3_0l11 => rmcl11b xh xroots K x15l11 yown3_0l11 (rmcl11 xh xroots K k)
def rmcF (xh : List (Int × List (List UInt8) × List (JV))) (xroots : List (JV)) (K : (List (Int × List (List UInt8) × List (JV))) → (List (JV)) → Prop) : Prop :=
  rrcQ xh xroots ∧ ∃ k, rmcl11 xh xroots K k 0 ([] : List (Int × List (List UInt8) × List (JV)))
set_option maxHeartbeats 4000000 in
set_option maxRecDepth 100000 in
set_option linter.unusedVariables false in
theorem rmc_ok {g : Ghost} {axh_0 : Option Addr} {cxh_0 : Nat} (xh : List (Int × List (List UInt8) × List (JV))) {axroots_0 : Option Addr} {cxroots_0 : Nat} (xroots : List (JV)) (hRxh_0 : Rep g (.slice (.pair (.int .i64) (.pair (.slice (.str)) (.slice (.pair (.int .i64) (.pair (.int .i64) (.str))))))) [.slice axh_0 xh.length cxh_0] xh) (hRxroots_0 : Rep g (.slice (.pair (.int .i64) (.pair (.int .i64) (.str)))) [.slice axroots_0 xroots.length cxroots_0] xroots) (K : (List (Int × List (List UInt8) × List (JV))) → (List (JV)) → Prop)
    (hF : rmcF xh xroots K) : CallsH Try.prog 9 #[.slice axh_0 xh.length cxh_0, .slice axroots_0 xroots.length cxroots_0] g [] (fun g' H' v => ∃ (r0 : List (Int × List (List UInt8) × List (JV))), ∃ (r1 : List (JV)), ∃ (ar0_0 : Option Addr) (cr0_0 : Nat), ∃ (ar1_0 : Option Addr) (cr1_0 : Nat), v = .tuple #[.slice ar0_0 r0.length cr0_0, .slice ar1_0 r1.length cr1_0] ∧ Rep g' (.slice (.pair (.int .i64) (.pair (.slice (.str)) (.slice (.pair (.int .i64) (.pair (.int .i64) (.str))))))) [.slice ar0_0 r0.length cr0_0] r0 ∧ Rep g' (.slice (.pair (.int .i64) (.pair (.int .i64) (.str)))) [.slice ar1_0 r1.length cr1_0] r1 ∧ H' = [] ∧ K r0 r1) := by
  refine CallsH.enter 45 [(0, .slice axh_0 xh.length cxh_0), (1, .slice axroots_0 xroots.length cxroots_0)] Try.func9 rfl (by kernel_rfl) (by kernel_rfl) (by kernel_rfl) fun w0 => ?_
  refine Ok.seq ?_
  refine Ok.region ?_
  refine Ok.batch 1 [(0, .slice axh_0 xh.length cxh_0), (1, .slice axroots_0 xroots.length cxroots_0)] (by kernel_rfl) ?_
  refine Ok.batch 1 [(0, .slice axh_0 xh.length cxh_0), (1, .slice axroots_0 xroots.length cxroots_0)] (by kernel_rfl) ?_
  refine Ok.nil ?_
  refine Ok.thenN ?_
  refine Ok.seq ?_
  refine Ok.region ?_
  refine Ok.batch 2 [(0, .slice axh_0 xh.length cxh_0), (1, .slice axroots_0 xroots.length cxroots_0), (10, .slice axh_0 xh.length cxh_0), (11, .slice axroots_0 xroots.length cxroots_0)] (by kernel_rfl) ?_
  obtain ⟨hp1, hF⟩ := hF
  refine Ok.op rfl (OpOk.callH [] [] (enters (by kernel_rfl) (fun _ => by kernel_rfl)) rfl (rrc_c xh xroots hRxh_0 hRxroots_0 hp1) rfl fun g2 _ _ hx2 hV2 => ?_)
  obtain ⟨a2_0, c2_0, rfl, hR2_0, rfl⟩ := hV2
  replace hRxh_0 := hRxh_0.mono hx2.1
  replace hRxroots_0 := hRxroots_0.mono hx2.1
  refine Ok.batch 1 [(0, .slice axh_0 xh.length cxh_0), (1, .slice axroots_0 xroots.length cxroots_0), (6, .slice a2_0 (rrcS xh xroots).length c2_0)] (by kernel_rfl) ?_
  refine Ok.nil ?_
  refine Ok.thenN ?_
  refine Ok.seq ?_
  refine Ok.region ?_
  refine Ok.batch 1 [(0, .slice axh_0 xh.length cxh_0), (1, .slice axroots_0 xroots.length cxroots_0), (6, .slice a2_0 (rrcS xh xroots).length c2_0), (7, .slice none 0 0)] (by kernel_rfl) ?_
  have hL3 : RepL g2 (.pair (.int .i64) (.pair (.slice (.str)) (.slice (.pair (.int .i64) (.pair (.int .i64) (.str)))))) [] [] := rfl
  refine Ok.ownNil 72 3 ?_
  refine Ok.nil ?_
  refine Ok.thenN ?_
  refine Ok.seq ?_
  refine Ok.seq ?_
  refine Ok.region ?_
  refine Ok.batch 3 [(0, .slice axh_0 xh.length cxh_0), (1, .slice axroots_0 xroots.length cxroots_0), (6, .slice a2_0 (rrcS xh xroots).length c2_0), (7, .slice none ([] : List (Int × List (List UInt8) × List (JV))).length 0), (13, .slice a2_0 (rrcS xh xroots).length c2_0), (14, .int .i64 ((rrcS xh xroots).length : Int)), (15, .int .i64 0)] (by kernel_rfl) ?_
  refine Ok.nil ?_
  refine Ok.thenN ?_
  refine Ok.block ?_
  obtain ⟨k, hF⟩ := hF
  refine Ok.loop (fun k a W => ∃ gl11 : Ghost, Gext w0 g2 gl11 ∧ ∃ (x15l11 : Int) (ayown3_0l11 : Option Addr) (cyown3_0l11 : Nat) (yown3_0l11 : List (Int × List (List UInt8) × List (JV))) (xsyown3_0l11 : List Value), RepL gl11 (.pair (.int .i64) (.pair (.slice (.str)) (.slice (.pair (.int .i64) (.pair (.int .i64) (.str)))))) xsyown3_0l11 yown3_0l11 ∧ StA 45 [(0, .slice axh_0 xh.length cxh_0), (1, .slice axroots_0 xroots.length cxroots_0), (6, .slice a2_0 (rrcS xh xroots).length c2_0), (7, .slice ayown3_0l11 yown3_0l11.length cyown3_0l11), (13, .slice a2_0 (rrcS xh xroots).length c2_0), (14, .int .i64 ((rrcS xh xroots).length : Int)), (15, .int .i64 x15l11)] a ∧ StW w0 [.own (.slice ayown3_0l11 yown3_0l11.length cyown3_0l11) 72 3 yown3_0l11.length xsyown3_0l11] gl11 W ∧ rmcl11 xh xroots K k x15l11 yown3_0l11) k ?_ ?_
  ·
    exact fun a W hA hW => ⟨g2, (Gext.refl w0 g2), 0, none, 0, ([] : List (Int × List (List UInt8) × List (JV))), [], hL3, hA.sub (by kernel_rfl), hW, hF⟩
  ·
    clear hF
    rintro k11 a W ⟨gl11, hxl11, x15l11, ayown3_0l11, cyown3_0l11, yown3_0l11, xsyown3_0l11, hLyown3_0l11, hA, hW, hF⟩
    cases k11 with
    | zero => exact (hF : False).elim
    | succ k11 =>
      refine (?_ : Ok _ _ _ _ _ _) a W hA hW
      clear hA hW
      replace hRxh_0 := hRxh_0.mono hxl11.1
      replace hRxroots_0 := hRxroots_0.mono hxl11.1
      replace hR2_0 := hR2_0.mono hxl11.1
      refine Ok.seq ?_
      refine Ok.region ?_
      refine Ok.batch 1 [(0, .slice axh_0 xh.length cxh_0), (1, .slice axroots_0 xroots.length cxroots_0), (6, .slice a2_0 (rrcS xh xroots).length c2_0), (7, .slice ayown3_0l11 yown3_0l11.length cyown3_0l11), (13, .slice a2_0 (rrcS xh xroots).length c2_0), (14, .int .i64 ((rrcS xh xroots).length : Int)), (15, .int .i64 x15l11), (16, .bool (decide (x15l11 < ((rrcS xh xroots).length : Int))))] (by kernel_rfl) ?_
      refine Ok.nil ?_
      refine Ok.thenN ?_
      refine Ok.seq ?_
      refine Ok.cond (b := decide (x15l11 < ((rrcS xh xroots).length : Int))) rfl (fun hc4 => ?_) (fun hc4 => ?_)
      · replace hF := hF.1 hc4
        refine Ok.skip ?_
        refine Ok.thenN ?_
        refine Ok.seq ?_
        refine Ok.block ?_
        refine Ok.seq ?_
        refine Ok.region ?_
        obtain ⟨h06, h16, hF⟩ := hF
        have he6 := get_of (l := (rrcS xh xroots)) (default : Int) h16
        generalize hg6 : ((rrcS xh xroots).getD (Int.toNat x15l11) default) = e6 at he6 hF ⊢
        refine Ok.op rfl (OpOk.indexRo (e := .int .i64) (i := x15l11) (el := e6) rfl rfl Try.underlying61 (by kernel_rfl) hR2_0 h06 he6 rfl fun q5 o5 cs5 _ hat5 hr5 => ?_)
        obtain rfl := hr5
        replace hat5 : At gl11 q5 o5 [.int .i64 e6] := hat5
        refine Ok.op rfl (OpOk.step (v := .int .i64 e6) (Yields.loadRo 0 hat5 (by kernel_rfl) Try.underlying3 rfl (by kernel_rfl)) rfl rfl ?_)
        refine Ok.batch 1 [(0, .slice axh_0 xh.length cxh_0), (1, .slice axroots_0 xroots.length cxroots_0), (6, .slice a2_0 (rrcS xh xroots).length c2_0), (7, .slice ayown3_0l11 yown3_0l11.length cyown3_0l11), (9, .int .i64 e6), (13, .slice a2_0 (rrcS xh xroots).length c2_0), (14, .int .i64 ((rrcS xh xroots).length : Int)), (15, .int .i64 x15l11)] (by kernel_rfl) ?_
        refine Ok.nil ?_
        refine Ok.thenN ?_
        refine Ok.mix [] [] [] [(0, true), (1, true), (2, true), (3, true), (4, true), (5, true), (6, true), (7, true), (8, true), (9, true), (10, true), (11, true), (12, true), (13, true), (14, true), (15, true), (16, true), (17, false), (18, true), (19, false), (20, false), (21, true)] (by kernel_rfl) (by kernel_rfl) (.cons _ .slnil) ?_
        refine OkM.batch 3 [(0, .slice axh_0 xh.length cxh_0), (1, .slice axroots_0 xroots.length cxroots_0), (6, .slice a2_0 (rrcS xh xroots).length c2_0), (9, .int .i64 e6), (13, .slice a2_0 (rrcS xh xroots).length c2_0), (14, .int .i64 ((rrcS xh xroots).length : Int)), (15, .int .i64 x15l11), (19, .slice ayown3_0l11 yown3_0l11.length cyown3_0l11), (20, .slice axh_0 xh.length cxh_0), (21, .int .i64 e6)] (by kernel_rfl) ?_
        obtain ⟨h08, h18, hF⟩ := hF
        have he8 := get_of (l := xh) (default : Int × List (List UInt8) × List (JV)) h18
        generalize hg8 : (xh.getD (Int.toNat e6) default) = e8 at he8 hF ⊢
        refine OkM.head rfl rfl (show _ = [] from rfl) (OpQ.indexRo (e := .pair (.int .i64) (.pair (.slice (.str)) (.slice (.pair (.int .i64) (.pair (.int .i64) (.str)))))) (i := e6) (el := e8) rfl rfl Try.underlying22 (by kernel_rfl) hRxh_0 h08 he8 rfl fun q7 o7 cs7 _ hat7 hr7 => ?_)
        obtain ⟨_, _, rfl, rfl, ⟨_, _, rfl, ⟨a7_1, c7_1, rfl, hm7_1, hr7_1⟩, ⟨a7_2, c7_2, rfl, hm7_2, hr7_2⟩⟩⟩ := hr7
        have hR7_1 : Rep gl11 (.slice (.str)) [.slice a7_1 e8.2.1.length c7_1] e8.2.1 := ⟨a7_1, c7_1, rfl, hm7_1, hr7_1⟩
        have hR7_2 : Rep gl11 (.slice (.pair (.int .i64) (.pair (.int .i64) (.str)))) [.slice a7_2 e8.2.2.length c7_2] e8.2.2 := ⟨a7_2, c7_2, rfl, hm7_2, hr7_2⟩
        replace hat7 : At gl11 q7 o7 [.int .i64 e8.1, .slice a7_1 e8.2.1.length c7_1, .slice a7_2 e8.2.2.length c7_2] := hat7
        refine OkM.batch 1 [(0, .slice axh_0 xh.length cxh_0), (1, .slice axroots_0 xroots.length cxroots_0), (6, .slice a2_0 (rrcS xh xroots).length c2_0), (9, .int .i64 e6), (13, .slice a2_0 (rrcS xh xroots).length c2_0), (14, .int .i64 ((rrcS xh xroots).length : Int)), (15, .int .i64 x15l11), (19, .slice ayown3_0l11 yown3_0l11.length cyown3_0l11), (23, .pointer (some ⟨q7, o7, none⟩))] (by kernel_rfl) ?_
        refine OkM.head rfl rfl (show _ = [] from rfl) (OpQ.step (v := .int .i64 e8.1) (Yields.loadRo 0 hat7 (by kernel_rfl) Try.underlying3 rfl (by kernel_rfl)) rfl rfl ?_)
        refine OkM.batch 2 [(0, .slice axh_0 xh.length cxh_0), (1, .slice axroots_0 xroots.length cxroots_0), (6, .slice a2_0 (rrcS xh xroots).length c2_0), (9, .int .i64 e6), (13, .slice a2_0 (rrcS xh xroots).length c2_0), (14, .int .i64 ((rrcS xh xroots).length : Int)), (15, .int .i64 x15l11), (19, .slice ayown3_0l11 yown3_0l11.length cyown3_0l11), (24, .int .i64 e8.1), (25, .slice axh_0 xh.length cxh_0), (26, .int .i64 e6)] (by kernel_rfl) ?_
        refine OkM.head rfl rfl (show _ = [] from rfl) (OpQ.indexRo (e := .pair (.int .i64) (.pair (.slice (.str)) (.slice (.pair (.int .i64) (.pair (.int .i64) (.str)))))) (i := e6) (el := e8) rfl rfl Try.underlying22 (by kernel_rfl) hRxh_0 h08 he8 rfl fun q9 o9 cs9 _ hat9 hr9 => ?_)
        obtain ⟨_, _, rfl, rfl, ⟨_, _, rfl, ⟨a9_1, c9_1, rfl, hm9_1, hr9_1⟩, ⟨a9_2, c9_2, rfl, hm9_2, hr9_2⟩⟩⟩ := hr9
        have hR9_1 : Rep gl11 (.slice (.str)) [.slice a9_1 e8.2.1.length c9_1] e8.2.1 := ⟨a9_1, c9_1, rfl, hm9_1, hr9_1⟩
        have hR9_2 : Rep gl11 (.slice (.pair (.int .i64) (.pair (.int .i64) (.str)))) [.slice a9_2 e8.2.2.length c9_2] e8.2.2 := ⟨a9_2, c9_2, rfl, hm9_2, hr9_2⟩
        replace hat9 : At gl11 q9 o9 [.int .i64 e8.1, .slice a9_1 e8.2.1.length c9_1, .slice a9_2 e8.2.2.length c9_2] := hat9
        refine OkM.batch 1 [(0, .slice axh_0 xh.length cxh_0), (1, .slice axroots_0 xroots.length cxroots_0), (6, .slice a2_0 (rrcS xh xroots).length c2_0), (9, .int .i64 e6), (13, .slice a2_0 (rrcS xh xroots).length c2_0), (14, .int .i64 ((rrcS xh xroots).length : Int)), (15, .int .i64 x15l11), (19, .slice ayown3_0l11 yown3_0l11.length cyown3_0l11), (24, .int .i64 e8.1), (28, .pointer (some ⟨q9, o9 + 1, none⟩))] (by kernel_rfl) ?_
        refine OkM.head rfl rfl (show _ = [] from rfl) (OpQ.step (v := .slice a9_1 e8.2.1.length c9_1) (Yields.loadRo 1 hat9 (by kernel_rfl) Try.underlying70 rfl (by kernel_rfl)) rfl rfl ?_)
        refine OkM.batch 2 [(0, .slice axh_0 xh.length cxh_0), (1, .slice axroots_0 xroots.length cxroots_0), (6, .slice a2_0 (rrcS xh xroots).length c2_0), (13, .slice a2_0 (rrcS xh xroots).length c2_0), (14, .int .i64 ((rrcS xh xroots).length : Int)), (15, .int .i64 x15l11), (19, .slice ayown3_0l11 yown3_0l11.length cyown3_0l11), (24, .int .i64 e8.1), (29, .slice a9_1 e8.2.1.length c9_1), (30, .slice axh_0 xh.length cxh_0), (31, .int .i64 e6)] (by kernel_rfl) ?_
        refine OkM.head rfl rfl (show _ = [] from rfl) (OpQ.indexRo (e := .pair (.int .i64) (.pair (.slice (.str)) (.slice (.pair (.int .i64) (.pair (.int .i64) (.str)))))) (i := e6) (el := e8) rfl rfl Try.underlying22 (by kernel_rfl) hRxh_0 h08 he8 rfl fun q10 o10 cs10 _ hat10 hr10 => ?_)
        obtain ⟨_, _, rfl, rfl, ⟨_, _, rfl, ⟨a10_1, c10_1, rfl, hm10_1, hr10_1⟩, ⟨a10_2, c10_2, rfl, hm10_2, hr10_2⟩⟩⟩ := hr10
        have hR10_1 : Rep gl11 (.slice (.str)) [.slice a10_1 e8.2.1.length c10_1] e8.2.1 := ⟨a10_1, c10_1, rfl, hm10_1, hr10_1⟩
        have hR10_2 : Rep gl11 (.slice (.pair (.int .i64) (.pair (.int .i64) (.str)))) [.slice a10_2 e8.2.2.length c10_2] e8.2.2 := ⟨a10_2, c10_2, rfl, hm10_2, hr10_2⟩
        replace hat10 : At gl11 q10 o10 [.int .i64 e8.1, .slice a10_1 e8.2.1.length c10_1, .slice a10_2 e8.2.2.length c10_2] := hat10
        refine OkM.batch 1 [(0, .slice axh_0 xh.length cxh_0), (1, .slice axroots_0 xroots.length cxroots_0), (6, .slice a2_0 (rrcS xh xroots).length c2_0), (13, .slice a2_0 (rrcS xh xroots).length c2_0), (14, .int .i64 ((rrcS xh xroots).length : Int)), (15, .int .i64 x15l11), (19, .slice ayown3_0l11 yown3_0l11.length cyown3_0l11), (24, .int .i64 e8.1), (29, .slice a9_1 e8.2.1.length c9_1), (33, .pointer (some ⟨q10, o10 + 2, none⟩))] (by kernel_rfl) ?_
        refine OkM.head rfl rfl (show _ = [] from rfl) (OpQ.step (v := .slice a10_2 e8.2.2.length c10_2) (Yields.loadRo 2 hat10 (by kernel_rfl) Try.underlying29 rfl (by kernel_rfl)) rfl rfl ?_)
        refine OkM.batch 1 [(0, .slice axh_0 xh.length cxh_0), (1, .slice axroots_0 xroots.length cxroots_0), (6, .slice a2_0 (rrcS xh xroots).length c2_0), (13, .slice a2_0 (rrcS xh xroots).length c2_0), (14, .int .i64 ((rrcS xh xroots).length : Int)), (15, .int .i64 x15l11), (19, .slice ayown3_0l11 yown3_0l11.length cyown3_0l11), (24, .int .i64 e8.1), (29, .slice a9_1 e8.2.1.length c9_1), (34, .slice a10_2 e8.2.2.length c10_2), (35, .slice a2_0 (rrcS xh xroots).length c2_0)] (by kernel_rfl) ?_
        obtain ⟨hp11, hF⟩ := hF
        refine OkM.tail rfl rfl (OpOk.callH [] [.own (.slice ayown3_0l11 yown3_0l11.length cyown3_0l11) 72 3 yown3_0l11.length xsyown3_0l11] (enters (by kernel_rfl) (fun _ => by kernel_rfl)) rfl (rrn_c e8.2.2 (rrcS xh xroots) hR10_2 hR2_0 hp11) rfl fun g12 _ _ hx12 hV12 => ?_)
        obtain ⟨a12_0, c12_0, rfl, hR12_0, rfl⟩ := hV12
        replace hRxh_0 := hRxh_0.mono hx12.1
        replace hRxroots_0 := hRxroots_0.mono hx12.1
        replace hR2_0 := hR2_0.mono hx12.1
        replace hLyown3_0l11 := hLyown3_0l11.mono hx12.1
        replace hR9_1 := hR9_1.mono hx12.1
        replace hR10_2 := hR10_2.mono hx12.1
        refine OkM.leaf (i := 17) (show _ = [] from rfl) hx12.1 (.cons _ .slnil) ?_
        refine OkM.batch 1 [(0, .slice axh_0 xh.length cxh_0), (1, .slice axroots_0 xroots.length cxroots_0), (6, .slice a2_0 (rrcS xh xroots).length c2_0), (13, .slice a2_0 (rrcS xh xroots).length c2_0), (14, .int .i64 ((rrcS xh xroots).length : Int)), (15, .int .i64 x15l11), (19, .slice ayown3_0l11 yown3_0l11.length cyown3_0l11), (37, .agg #[.int .i64 e8.1, .slice a9_1 e8.2.1.length c9_1, .slice a12_0 (rrnS e8.2.2 (rrcS xh xroots)).length c12_0])] (by kernel_rfl) ?_
        have hL13 : RepL g12 (.pair (.int .i64) (.pair (.slice (.str)) (.slice (.pair (.int .i64) (.pair (.int .i64) (.str)))))) ([.int .i64 e8.1, .slice a9_1 e8.2.1.length c9_1, .slice a12_0 (rrnS e8.2.2 (rrcS xh xroots)).length c12_0] : List Value) ([(e8.1, e8.2.1, (rrnS e8.2.2 (rrcS xh xroots)))] : List (Int × List (List UInt8) × List (JV))) := (RepL.consN (c := [.int .i64 e8.1, .slice a9_1 e8.2.1.length c9_1, .slice a12_0 (rrnS e8.2.2 (rrcS xh xroots)).length c12_0]) ⟨[.int .i64 e8.1], [.slice a9_1 e8.2.1.length c9_1, .slice a12_0 (rrnS e8.2.2 (rrcS xh xroots)).length c12_0], rfl, rfl, ⟨[.slice a9_1 e8.2.1.length c9_1], [.slice a12_0 (rrnS e8.2.2 (rrcS xh xroots)).length c12_0], rfl, hR9_1, hR12_0⟩⟩ rfl)
        refine OkM.tail rfl rfl (OpOk.lit (E := 72) (.pair (.int .i64) (.pair (.slice (.str)) (.slice (.pair (.int .i64) (.pair (.int .i64) (.str)))))) ([(e8.1, e8.2.1, (rrnS e8.2.2 (rrcS xh xroots)))] : List (Int × List (List UInt8) × List (JV))) ([.int .i64 e8.1, .slice a9_1 e8.2.1.length c9_1, .slice a12_0 (rrnS e8.2.2 (rrcS xh xroots)).length c12_0] : List Value) (by kernel_rfl) (by kernel_rfl) rfl (by kernel_rfl) hL13 rfl fun b13 => ?_)
        refine OkM.leaf (i := 19) (show _ = [] from rfl) hx12.1 (.cons _ (.cons _ .slnil)) ?_
        obtain ⟨hb14, hF⟩ := hF
        refine OkM.tail rfl rfl (OpOk.append' (e := .pair (.int .i64) (.pair (.slice (.str)) (.slice (.pair (.int .i64) (.pair (.int .i64) (.str)))))) 56 2513169434916 1 0 rfl rfl rfl rfl hLyown3_0l11 hL13 Try.underlying22 (by kernel_rfl) (by kernel_rfl) (by kernel_rfl) hb14 rfl fun a14 c14 xs14 hL14 => ?_)
        refine OkM.leaf (i := 20) (show _ = [] from rfl) hx12.1 (.cons _ (.cons _ .slnil)) ?_
        refine OkM.batch 1 [(0, .slice axh_0 xh.length cxh_0), (1, .slice axroots_0 xroots.length cxroots_0), (6, .slice a2_0 (rrcS xh xroots).length c2_0), (7, .slice a14 (yown3_0l11 ++ ([(e8.1, e8.2.1, (rrnS e8.2.2 (rrcS xh xroots)))] : List (Int × List (List UInt8) × List (JV)))).length c14), (13, .slice a2_0 (rrcS xh xroots).length c2_0), (14, .int .i64 ((rrcS xh xroots).length : Int)), (15, .int .i64 x15l11)] (by kernel_rfl) ?_
        refine OkM.nil ?_
        refine Ok.blockN ?_
        refine Ok.thenN ?_
        refine Ok.region ?_
        refine Ok.batch 2 [(0, .slice axh_0 xh.length cxh_0), (1, .slice axroots_0 xroots.length cxroots_0), (6, .slice a2_0 (rrcS xh xroots).length c2_0), (7, .slice a14 (yown3_0l11 ++ ([(e8.1, e8.2.1, (rrnS e8.2.2 (rrcS xh xroots)))] : List (Int × List (List UInt8) × List (JV)))).length c14), (13, .slice a2_0 (rrcS xh xroots).length c2_0), (14, .int .i64 ((rrcS xh xroots).length : Int)), (15, .int .i64 (IntKind.wrap .i64 (x15l11 + 1)))] (by kernel_rfl) ?_
        refine Ok.nil ?_
        refine Ok.thenN ?_
        subst hg8
        subst hg6
        exact fun a W hA hW => ⟨k11, Nat.lt_succ_self _, g12, (hxl11.trans hx12), IntKind.wrap .i64 (x15l11 + 1), a14, c14, (yown3_0l11 ++ ([((xh.getD (Int.toNat ((rrcS xh xroots).getD (Int.toNat x15l11) default)) default).1, (xh.getD (Int.toNat ((rrcS xh xroots).getD (Int.toNat x15l11) default)) default).2.1, (rrnS (xh.getD (Int.toNat ((rrcS xh xroots).getD (Int.toNat x15l11) default)) default).2.2 (rrcS xh xroots)))] : List (Int × List (List UInt8) × List (JV)))), xs14, hL14, hA.sub (by kernel_rfl), hW.sub (.cons _ (.cons_cons _ .slnil)), hF⟩
      · replace hF := hF.2 hc4
        refine Ok.exit ?_
        refine Ok.thenE ?_
        refine Ok.thenE ?_
        refine Ok.blockHit ?_
        refine Ok.thenN ?_
        refine Ok.seq ?_
        refine Ok.region ?_
        refine Ok.batch 3 [(41, .slice ayown3_0l11 yown3_0l11.length cyown3_0l11), (42, .slice axroots_0 xroots.length cxroots_0), (43, .slice a2_0 (rrcS xh xroots).length c2_0)] (by kernel_rfl) ?_
        obtain ⟨hp15, hF⟩ := hF
        refine Ok.op rfl (OpOk.callH [] [.own (.slice ayown3_0l11 yown3_0l11.length cyown3_0l11) 72 3 yown3_0l11.length xsyown3_0l11] (enters (by kernel_rfl) (fun _ => by kernel_rfl)) rfl (rrn_c xroots (rrcS xh xroots) hRxroots_0 hR2_0 hp15) rfl fun g16 _ _ hx16 hV16 => ?_)
        obtain ⟨a16_0, c16_0, rfl, hR16_0, rfl⟩ := hV16
        replace hLyown3_0l11 := hLyown3_0l11.mono hx16.1
        replace hRxroots_0 := hRxroots_0.mono hx16.1
        replace hR2_0 := hR2_0.mono hx16.1
        refine Ok.batch 2 [(4, .slice ayown3_0l11 yown3_0l11.length cyown3_0l11), (5, .slice a16_0 (rrnS xroots (rrcS xh xroots)).length c16_0)] (by kernel_rfl) ?_
        refine Ok.nil ?_
        refine Ok.thenN ?_
        refine Ok.ret ?_
        refine Ok.freeze (H' := []) 0 rfl hLyown3_0l11 rfl fun g17 hx17 hRf17 => ?_
        replace hR16_0 := hR16_0.mono hx17.1
        exact Ok.resH (vs := [.slice ayown3_0l11 yown3_0l11.length cyown3_0l11, .slice a16_0 (rrnS xroots (rrcS xh xroots)).length c16_0]) (.inl rfl) rfl (.cons (.tmp rfl) (.cons (.tmp rfl) .nil)) (((hx2.trans hxl11).trans hx16).trans hx17) ⟨yown3_0l11, (rrnS xroots (rrcS xh xroots)), ayown3_0l11, cyown3_0l11, a16_0, c16_0, rfl, hRf17, hR16_0, rfl, hF⟩
theorem iix_not {l : List Int} {v : Int} (h : v ∉ l) : iixS l v = -1 := by
  have gen : ∀ (l : List Int) (i : Nat), v ∉ l → idxN (fun x => v == x) l i = -1 := by
    intro l
    induction l with
    | nil => intro i _; rfl
    | cons x l ih =>
      intro i h
      rw [List.mem_cons, not_or] at h
      rw [idxN, if_neg (by simpa using h.1)]
      exact ih (i + 1) h.2
  exact gen l 0 h
theorem mov_num {h : List JC} {s : SS} (I : Inv h s) {v : JV} (hf : hfitS h v = true) : movV s.1 v = numV s.2 v := by
  have hr := fit_ref hf
  unfold movV numV rrnV0
  by_cases h4 : (v.1 == 4) = true
  · have h0 := chk_ref (fit_chk hf) h4
    have e : hrefM v = v.2.1 := by unfold hrefM; rw [if_t h4]
    rw [e] at hr ⊢
    rw [if_pos (decide_eq_true h0), if_t h4]
    have := I.lnk v.2.1.toNat (by omega)
    rw [this, show ((v.2.1.toNat : Nat) : Int) = v.2.1 by omega]
    split
    · rename_i hm; rw [iix_mem hm]
    · rename_i hm; rw [iix_not hm]
  · have e : hrefM v = -1 := by unfold hrefM; rw [if_neg h4]
    rw [e, if_neg (by decide), if_neg h4]
theorem movs_num {h : List JC} {s : SS} (I : Inv h s) {l : List JV} (hf : ∀ v ∈ l, hfitS h v = true) : rrnS l s.2 = l.map (movV s.1) := by
  unfold rrnS
  exact List.map_congr_left fun v hv => (mov_num I (hf v hv)).symm
def rmcS (h : List JC) (l : List JV) : List JC × List JV := ((order h l).2.map (movC h (order h l).1), l.map (movV (order h l).1))
theorem rmc_F (h : List JC) (l : List JV) (hp : rrcQ h l) : rmcF h l (fun a b => (a, b) = rmcS h l) := by
  refine ⟨hp, ?_⟩
  obtain ⟨hz, hl⟩ := hp
  obtain ⟨hz1, hfit⟩ := ask_both hz
  have H := hv_of hz1
  have h300 := H.few
  have I : Inv h (order h l) := (comes_ok H (fun v hv => fit_ref (hfit v hv)) (start_inv h)).1
  have hcnt := I.cnt
  have ho : rrcS h l = (order h l).2 := rfl
  have loop : ∀ (k i : Nat), i + k = (order h l).2.length → rmcl11 h l (fun a b => (a, b) = rmcS h l) (k + 1) (i : Int) (((order h l).2.take i).map (movC h (order h l).1)) := by
    intro k
    induction k with
    | zero =>
      intro i hi
      refine ⟨fun h2 => by have := of_decide_eq_true h2; rw [ho] at this; omega, fun _ => ⟨⟨hl, by rw [ho]; omega⟩, ?_⟩⟩
      rw [ho, movs_num I hfit, List.take_of_length_le (by omega)]; rfl
    | succ k ih =>
      intro i hi
      rw [rmcl11]
      unfold rmcl11b
      rw [ho, Int.toNat_natCast]
      have hn := I.ran _ (mem_getD default (show i < (order h l).2.length by omega))
      have hnl : ((order h l).2.getD i default).toNat < h.length := by omega
      have hsm := (H.small _ (mem_getD default hnl)).1
      refine ⟨fun _ => ⟨by omega, by omega, hn.1, hnl, ⟨by omega, by omega⟩, by rw [List.length_append, List.length_map, List.length_take]; simp; omega, ?_⟩, fun h2 => by have := of_decide_eq_false h2; omega⟩
      rw [w64 (by omega), movs_num I (kid_fit hz1 _ (mem_getD default hnl))]
      have := ih (i + 1) (by omega)
      rw [take_get (l := (order h l).2) default (by omega), List.map_append] at this
      exact this
  exact ⟨_, loop (order h l).2.length 0 (by omega)⟩
set_option linter.unusedVariables false in
theorem rmc_c {g : Ghost} {axh_0 : Option Addr} {cxh_0 : Nat} (xh : List (Int × List (List UInt8) × List (Int × Int × List UInt8))) {axroots_0 : Option Addr} {cxroots_0 : Nat} (xroots : List (Int × Int × List UInt8)) (hRxh_0 : Rep g (.slice (.pair (.int .i64) (.pair (.slice (.str)) (.slice (.pair (.int .i64) (.pair (.int .i64) (.str))))))) [.slice axh_0 xh.length cxh_0] xh) (hRxroots_0 : Rep g (.slice (.pair (.int .i64) (.pair (.int .i64) (.str)))) [.slice axroots_0 xroots.length cxroots_0] xroots)  (hp : rrcQ xh xroots) : CallsH Try.prog 9 #[.slice axh_0 xh.length cxh_0, .slice axroots_0 xroots.length cxroots_0] g [] (fun g' H' v => ∃ (ar0_0 : Option Addr) (cr0_0 : Nat), ∃ (ar1_0 : Option Addr) (cr1_0 : Nat), v = .tuple #[.slice ar0_0 ((rmcS xh xroots).1).length cr0_0, .slice ar1_0 ((rmcS xh xroots).2).length cr1_0] ∧ Rep g' (.slice (.pair (.int .i64) (.pair (.slice (.str)) (.slice (.pair (.int .i64) (.pair (.int .i64) (.str))))))) [.slice ar0_0 ((rmcS xh xroots).1).length cr0_0] ((rmcS xh xroots).1) ∧ Rep g' (.slice (.pair (.int .i64) (.pair (.int .i64) (.str)))) [.slice ar1_0 ((rmcS xh xroots).2).length cr1_0] ((rmcS xh xroots).2) ∧ H' = []) :=
  (rmc_ok xh xroots hRxh_0 hRxroots_0 _ (rmc_F xh xroots hp)).mono (by rintro g' H' v _ ⟨r0, r1, ar0_0, cr0_0, ar1_0, cr1_0, rfl, hRr0_0, hRr1_0, rfl, hK⟩; obtain ⟨rfl, rfl⟩ : r0 = (rmcS xh xroots).1 ∧ r1 = (rmcS xh xroots).2 := ⟨congrArg (fun z => z.1) hK, congrArg (fun z => z.2) hK⟩; exact ⟨ar0_0, cr0_0, ar1_0, cr1_0, rfl, hRr0_0, hRr1_0, rfl⟩)
def rs1V0 (xx : Int × List (List UInt8) × List (JV)) (xy : Int × List (List UInt8) × List (JV)) : Bool :=
  ((xx.1 == xy.1) && ((seqS xx.2.1 xy.2.1) && (veqS xx.2.2 xy.2.2)))
def rs1j3 (xx : Int × List (List UInt8) × List (JV)) (xy : Int × List (List UInt8) × List (JV)) (K : Bool → Prop) : Prop :=
  K (rs1V0 xx xy)
def rs1F (xx : Int × List (List UInt8) × List (JV)) (xy : Int × List (List UInt8) × List (JV)) (K : Bool → Prop) : Prop :=
  (((xx.1 == xy.1)) = true → seqP xx.2.1 xy.2.1 ∧ (((seqS xx.2.1 xy.2.1)) = true → veqP xx.2.2 xy.2.2 ∧ rs1j3 xx xy K) ∧ (((seqS xx.2.1 xy.2.1)) = false → rs1j3 xx xy K)) ∧ (((xx.1 == xy.1)) = false → rs1j3 xx xy K)
set_option maxHeartbeats 4000000 in
set_option maxRecDepth 100000 in
set_option linter.unusedVariables false in
theorem rs1_ok {g : Ghost} {axx_0 : Option Addr} {cxx_0 : Nat} {axx_1 : Option Addr} {cxx_1 : Nat} (xx : Int × List (List UInt8) × List (JV)) {axy_0 : Option Addr} {cxy_0 : Nat} {axy_1 : Option Addr} {cxy_1 : Nat} (xy : Int × List (List UInt8) × List (JV)) (hRxx_0 : Rep g (.slice (.str)) [.slice axx_0 xx.2.1.length cxx_0] xx.2.1) (hRxx_1 : Rep g (.slice (.pair (.int .i64) (.pair (.int .i64) (.str)))) [.slice axx_1 xx.2.2.length cxx_1] xx.2.2) (hRxy_0 : Rep g (.slice (.str)) [.slice axy_0 xy.2.1.length cxy_0] xy.2.1) (hRxy_1 : Rep g (.slice (.pair (.int .i64) (.pair (.int .i64) (.str)))) [.slice axy_1 xy.2.2.length cxy_1] xy.2.2) (K : Bool → Prop)
    (hF : rs1F xx xy K) : CallsH Try.prog 38 #[.agg #[.int .i64 xx.1, .slice axx_0 xx.2.1.length cxx_0, .slice axx_1 xx.2.2.length cxx_1], .agg #[.int .i64 xy.1, .slice axy_0 xy.2.1.length cxy_0, .slice axy_1 xy.2.2.length cxy_1]] g [] (fun g' H' v => ∃ (r0 : Bool), v = .bool r0 ∧ H' = [] ∧ K r0) := by
  refine CallsH.enter 24 [(0, .agg #[.int .i64 xx.1, .slice axx_0 xx.2.1.length cxx_0, .slice axx_1 xx.2.2.length cxx_1]), (1, .agg #[.int .i64 xy.1, .slice axy_0 xy.2.1.length cxy_0, .slice axy_1 xy.2.2.length cxy_1])] Try.func38 rfl (by kernel_rfl) (by kernel_rfl) (by kernel_rfl) fun w0 => ?_
  refine Ok.seq ?_
  refine Ok.region ?_
  refine Ok.op rfl (OpOk.box (v := .agg #[.int .i64 xx.1, .slice axx_0 xx.2.1.length cxx_0, .slice axx_1 xx.2.2.length cxx_1]) (cs := #[.int .i64 xx.1, .slice axx_0 xx.2.1.length cxx_0, .slice axx_1 xx.2.2.length cxx_1]) rfl (by kernel_rfl) rfl fun b1 => ?_)
  refine Ok.op rfl (OpOk.box (v := .agg #[.int .i64 xy.1, .slice axy_0 xy.2.1.length cxy_0, .slice axy_1 xy.2.2.length cxy_1]) (cs := #[.int .i64 xy.1, .slice axy_0 xy.2.1.length cxy_0, .slice axy_1 xy.2.2.length cxy_1]) rfl (by kernel_rfl) rfl fun b2 => ?_)
  refine Ok.batch 1 [(2, .pointer (some ⟨b1, 0, none⟩)), (3, .pointer (some ⟨b2, 0, none⟩))] (by kernel_rfl) ?_
  refine Ok.nil ?_
  refine Ok.thenN ?_
  refine Ok.cut (fun a W => StA 24 [(4, .bool (rs1V0 xx xy))] a ∧ StW w0 [] g W ∧ rs1j3 xx xy K) ?_ ?_
  ·
    refine Ok.region ?_
    refine Ok.batch 1 [(2, .pointer (some ⟨b1, 0, none⟩)), (3, .pointer (some ⟨b2, 0, none⟩)), (5, .pointer (some ⟨b1, 0, none⟩))] (by kernel_rfl) ?_
    refine Ok.op rfl (OpOk.step (v := .int .i64 xx.1) (Yields.load 1 rfl rfl Try.underlying3 rfl (by kernel_rfl)) rfl rfl ?_)
    refine Ok.batch 1 [(2, .pointer (some ⟨b1, 0, none⟩)), (3, .pointer (some ⟨b2, 0, none⟩)), (6, .int .i64 xx.1), (7, .pointer (some ⟨b2, 0, none⟩))] (by kernel_rfl) ?_
    refine Ok.op rfl (OpOk.step (v := .int .i64 xy.1) (Yields.load 0 rfl rfl Try.underlying3 rfl (by kernel_rfl)) rfl rfl ?_)
    refine Ok.batch 2 [(2, .pointer (some ⟨b1, 0, none⟩)), (3, .pointer (some ⟨b2, 0, none⟩)), (10, .bool (xx.1 == xy.1))] (by kernel_rfl) ?_
    refine Ok.boolAt 10 ((xx.1 == xy.1)) rfl (fun hc3 => ?_) (fun hc3 => ?_)
    · replace hF := hF.1 hc3
      refine Ok.batch 1 [(2, .pointer (some ⟨b1, 0, none⟩)), (3, .pointer (some ⟨b2, 0, none⟩)), (10, .bool true), (11, .pointer (some ⟨b1, 1, none⟩))] (by kernel_rfl) ?_
      refine Ok.opYes (j := 5) (d := 10) (want := true) (b := true) rfl (by kernel_rfl) (by kernel_rfl) rfl (OpOk.step (v := .slice axx_0 xx.2.1.length cxx_0) (Yields.load 1 rfl rfl Try.underlying70 rfl (by kernel_rfl)) rfl rfl ?_)
      refine Ok.batch 1 [(2, .pointer (some ⟨b1, 0, none⟩)), (3, .pointer (some ⟨b2, 0, none⟩)), (10, .bool true), (12, .slice axx_0 xx.2.1.length cxx_0), (13, .pointer (some ⟨b2, 1, none⟩))] (by kernel_rfl) ?_
      refine Ok.opYes (j := 5) (d := 10) (want := true) (b := true) rfl (by kernel_rfl) (by kernel_rfl) rfl (OpOk.step (v := .slice axy_0 xy.2.1.length cxy_0) (Yields.load 0 rfl rfl Try.underlying70 rfl (by kernel_rfl)) rfl rfl ?_)
      obtain ⟨hp4, hF⟩ := hF
      refine Ok.opYes (j := 5) (d := 10) (want := true) (b := true) rfl (by kernel_rfl) (by kernel_rfl) rfl (OpOk.callG (v := .bool (seqS xx.2.1 xy.2.1)) (enters (by kernel_rfl) (fun _ => by kernel_rfl)) (fun W hW => seq_c xx.2.1 xy.2.1 (hRxx_0.mono hW.sees) (hRxy_0.mono hW.sees) hp4) rfl ?_)
      refine Ok.batch 2 [(2, .pointer (some ⟨b1, 0, none⟩)), (3, .pointer (some ⟨b2, 0, none⟩)), (17, .bool (seqS xx.2.1 xy.2.1))] (by kernel_rfl) ?_
      refine Ok.boolAt 17 ((seqS xx.2.1 xy.2.1)) rfl (fun hc5 => ?_) (fun hc5 => ?_)
      · replace hF := hF.1 hc5
        refine Ok.batch 1 [(3, .pointer (some ⟨b2, 0, none⟩)), (17, .bool true), (18, .pointer (some ⟨b1, 2, none⟩))] (by kernel_rfl) ?_
        refine Ok.opYes (j := 12) (d := 17) (want := true) (b := true) rfl (by kernel_rfl) (by kernel_rfl) rfl (OpOk.step (v := .slice axx_1 xx.2.2.length cxx_1) (Yields.load 1 rfl rfl Try.underlying29 rfl (by kernel_rfl)) rfl rfl ?_)
        refine Ok.batch 1 [(17, .bool true), (19, .slice axx_1 xx.2.2.length cxx_1), (20, .pointer (some ⟨b2, 2, none⟩))] (by kernel_rfl) ?_
        refine Ok.opYes (j := 12) (d := 17) (want := true) (b := true) rfl (by kernel_rfl) (by kernel_rfl) rfl (OpOk.step (v := .slice axy_1 xy.2.2.length cxy_1) (Yields.load 0 rfl rfl Try.underlying29 rfl (by kernel_rfl)) rfl rfl ?_)
        obtain ⟨hp6, hF⟩ := hF
        refine Ok.opYes (j := 12) (d := 17) (want := true) (b := true) rfl (by kernel_rfl) (by kernel_rfl) rfl (OpOk.callG (v := .bool (veqS xx.2.2 xy.2.2)) (enters (by kernel_rfl) (fun _ => by kernel_rfl)) (fun W hW => veq_c xx.2.2 xy.2.2 (hRxx_1.mono hW.sees) (hRxy_1.mono hW.sees) hp6) rfl ?_)
        refine Ok.batch 2 [(4, .bool (veqS xx.2.2 xy.2.2))] (by kernel_rfl) ?_
        refine Ok.nil ?_
        refine Ok.thenN ?_
        refine Ok.reval 4 rfl (show (.bool (veqS xx.2.2 xy.2.2) : Value) = .bool (rs1V0 xx xy) from congrArg (Value.bool) ((Eq.trans (mand_t hc5) (mand_t hc3)))) ?_
        exact fun a W hA hW => ⟨hA.sub (by kernel_rfl), hW.sub (.cons _ (.cons _ .slnil)), hF⟩
      · replace hF := hF.2 hc5
        refine Ok.batch 7 [(4, .bool false)] (by kernel_rfl) ?_
        refine Ok.nil ?_
        refine Ok.thenN ?_
        refine Ok.reval 4 rfl (show (.bool false : Value) = .bool (rs1V0 xx xy) from congrArg (Value.bool) ((Eq.trans (mand_f hc5) (mand_t hc3)))) ?_
        exact fun a W hA hW => ⟨hA.sub (by kernel_rfl), hW.sub (.cons _ (.cons _ .slnil)), hF⟩
    · replace hF := hF.2 hc3
      refine Ok.batch 14 [(4, .bool false)] (by kernel_rfl) ?_
      refine Ok.nil ?_
      refine Ok.thenN ?_
      refine Ok.reval 4 rfl (show (.bool false : Value) = .bool (rs1V0 xx xy) from congrArg (Value.bool) (mand_f hc3)) ?_
      exact fun a W hA hW => ⟨hA.sub (by kernel_rfl), hW.sub (.cons _ (.cons _ .slnil)), hF⟩
  ·
    clear hF
    rintro a W ⟨hA, hW, hF⟩
    refine (?_ : Ok _ _ _ _ _ _) a W hA hW
    clear hA hW
    refine Ok.ret ?_
    exact Ok.resH (vs := [.bool (rs1V0 xx xy)]) (.inl rfl) rfl (.cons (.tmp rfl) .nil) (Gext.refl w0 g) ⟨(rs1V0 xx xy), rfl, rfl, hF⟩
theorem rs1_F (a b : JC) (hp : hsmP a b) : rs1F a b (fun r => r = hsmS a b) := by
  have j : rs1j3 a b (fun r => r = hsmS a b) := rfl
  exact ⟨fun _ => ⟨hp.1, fun _ => ⟨hp.2, j⟩, fun _ => j⟩, fun _ => j⟩
set_option linter.unusedVariables false in
theorem rs1_c {g : Ghost} {axx_0 : Option Addr} {cxx_0 : Nat} {axx_1 : Option Addr} {cxx_1 : Nat} (xx : Int × List (List UInt8) × List (Int × Int × List UInt8)) {axy_0 : Option Addr} {cxy_0 : Nat} {axy_1 : Option Addr} {cxy_1 : Nat} (xy : Int × List (List UInt8) × List (Int × Int × List UInt8)) (hRxx_0 : Rep g (.slice (.str)) [.slice axx_0 xx.2.1.length cxx_0] xx.2.1) (hRxx_1 : Rep g (.slice (.pair (.int .i64) (.pair (.int .i64) (.str)))) [.slice axx_1 xx.2.2.length cxx_1] xx.2.2) (hRxy_0 : Rep g (.slice (.str)) [.slice axy_0 xy.2.1.length cxy_0] xy.2.1) (hRxy_1 : Rep g (.slice (.pair (.int .i64) (.pair (.int .i64) (.str)))) [.slice axy_1 xy.2.2.length cxy_1] xy.2.2)  (hp : hsmP xx xy) : CallsG Try.prog 38 #[.agg #[.int .i64 xx.1, .slice axx_0 xx.2.1.length cxx_0, .slice axx_1 xx.2.2.length cxx_1], .agg #[.int .i64 xy.1, .slice axy_0 xy.2.1.length cxy_0, .slice axy_1 xy.2.2.length cxy_1]] g (.bool (hsmS xx xy)) :=
  (rs1_ok xx xy hRxx_0 hRxx_1 hRxy_0 hRxy_1 _ (rs1_F xx xy hp)).gives (by rintro g' H' v _ ⟨r0, rfl, rfl, hK⟩; subst hK; rfl)
def rscF (xa : List (Int × List (List UInt8) × List (JV))) (xb : List (Int × List (List UInt8) × List (JV))) (K : Bool → Prop) : Prop :=
  cefP xa xb (fun y0 y1 => hsmS y0 y1) (fun y0 y1 => hsmP y0 y1) ∧ K (cefS xa xb (fun y0 y1 => hsmS y0 y1))
set_option maxHeartbeats 4000000 in
set_option maxRecDepth 100000 in
set_option linter.unusedVariables false in
theorem rsc_ok {g : Ghost} {axa_0 : Option Addr} {cxa_0 : Nat} (xa : List (Int × List (List UInt8) × List (JV))) {axb_0 : Option Addr} {cxb_0 : Nat} (xb : List (Int × List (List UInt8) × List (JV))) (hRxa_0 : Rep g (.slice (.pair (.int .i64) (.pair (.slice (.str)) (.slice (.pair (.int .i64) (.pair (.int .i64) (.str))))))) [.slice axa_0 xa.length cxa_0] xa) (hRxb_0 : Rep g (.slice (.pair (.int .i64) (.pair (.slice (.str)) (.slice (.pair (.int .i64) (.pair (.int .i64) (.str))))))) [.slice axb_0 xb.length cxb_0] xb) (K : Bool → Prop)
    (hF : rscF xa xb K) : CallsH Try.prog 10 #[.slice axa_0 xa.length cxa_0, .slice axb_0 xb.length cxb_0] g [] (fun g' H' v => ∃ (r0 : Bool), v = .bool r0 ∧ H' = [] ∧ K r0) := by
  refine CallsH.enter 8 [(0, .slice axa_0 xa.length cxa_0), (1, .slice axb_0 xb.length cxb_0)] Try.func10 rfl (by kernel_rfl) (by kernel_rfl) (by kernel_rfl) fun w0 => ?_
  refine Ok.seq ?_
  refine Ok.region ?_
  refine Ok.batch 1 [(0, .slice axa_0 xa.length cxa_0), (1, .slice axb_0 xb.length cxb_0)] (by kernel_rfl) ?_
  refine Ok.nil ?_
  refine Ok.thenN ?_
  refine Ok.seq ?_
  refine Ok.region ?_
  refine Ok.batch 2 [(5, .slice axa_0 xa.length cxa_0), (6, .slice axb_0 xb.length cxb_0)] (by kernel_rfl) ?_
  obtain ⟨hp1, hF⟩ := hF
  refine Ok.op rfl (OpOk.callG (v := .bool (cefS xa xb (fun y0 y1 => hsmS y0 y1))) (enters (by kernel_rfl) (fun _ => by kernel_rfl)) (fun W hW => cef_c (vxeq := .func (.func 38) #[] #[]) xa xb (fun y0 y1 => hsmS y0 y1) (fun y0 y1 => hsmP y0 y1) (hRxa_0.mono hW.sees) (hRxb_0.mono hW.sees) (fun g2 hl y0 y1 _ _ _ _ _ _ _ _ zr0 zr1 zr2 zr3 hq => ⟨38, _, fun _ => by kernel_rfl, rs1_c y0 y1 zr0 zr1 zr2 zr3 hq⟩) hp1) rfl ?_)
  refine Ok.batch 1 [(4, .bool (cefS xa xb (fun y0 y1 => hsmS y0 y1)))] (by kernel_rfl) ?_
  refine Ok.nil ?_
  refine Ok.thenN ?_
  refine Ok.ret ?_
  exact Ok.resH (vs := [.bool (cefS xa xb (fun y0 y1 => hsmS y0 y1))]) (.inl rfl) rfl (.cons (.tmp rfl) .nil) (Gext.refl w0 g) ⟨(cefS xa xb (fun y0 y1 => hsmS y0 y1)), rfl, rfl, hF⟩
def rscS (a b : List JC) : Bool := cefS a b hsmS
def rscP (a b : List JC) : Prop := a.length ≤ 1000000 ∧ ∀ x ∈ a, ∀ y ∈ b, hsmP x y
theorem rsc_F (a b : List JC) (hp : rscP a b) : rscF a b (fun r => r = rscS a b) := by
  unfold rscS
  exact ⟨hp, rfl⟩
set_option linter.unusedVariables false in
theorem rsc_c {g : Ghost} {axa_0 : Option Addr} {cxa_0 : Nat} (xa : List (Int × List (List UInt8) × List (Int × Int × List UInt8))) {axb_0 : Option Addr} {cxb_0 : Nat} (xb : List (Int × List (List UInt8) × List (Int × Int × List UInt8))) (hRxa_0 : Rep g (.slice (.pair (.int .i64) (.pair (.slice (.str)) (.slice (.pair (.int .i64) (.pair (.int .i64) (.str))))))) [.slice axa_0 xa.length cxa_0] xa) (hRxb_0 : Rep g (.slice (.pair (.int .i64) (.pair (.slice (.str)) (.slice (.pair (.int .i64) (.pair (.int .i64) (.str))))))) [.slice axb_0 xb.length cxb_0] xb)  (hp : rscP xa xb) : CallsG Try.prog 10 #[.slice axa_0 xa.length cxa_0, .slice axb_0 xb.length cxb_0] g (.bool (rscS xa xb)) :=
  (rsc_ok xa xb hRxa_0 hRxb_0 _ (rsc_F xa xb hp)).gives (by rintro g' H' v _ ⟨r0, rfl, rfl, hK⟩; subst hK; rfl)
def lhaV0 (xg : List (Int × List (List UInt8) × List (JV))) (xh : List (Int × List (List UInt8) × List (JV))) : Int :=
  (if ((haskS xg ([])) == 0) = true then (haskS xh ([])) else (haskS xg ([])))
def lhaV1 (xg : List (Int × List (List UInt8) × List (JV))) (xa : JV) (xh : List (Int × List (List UInt8) × List (JV))) : Int :=
  (if ((lhaV0 xg xh) == 0) = true then (haskS xg ([xa] : List (JV))) else (lhaV0 xg xh))
def lhaV2 (xg : List (Int × List (List UInt8) × List (JV))) (xa : JV) (xh : List (Int × List (List UInt8) × List (JV))) (xb : JV) : Int :=
  (if ((lhaV1 xg xa xh) == 0) = true then (haskS xh ([xb] : List (JV))) else (lhaV1 xg xa xh))
def lhaV3 (xg : List (Int × List (List UInt8) × List (JV))) (xa : JV) (xh : List (Int × List (List UInt8) × List (JV))) (xb : JV) : Bool :=
  (if (rscS ((rmcS xg ([xa] : List (JV))).1) ((rmcS xh ([xb] : List (JV))).1)) = true then (((halS xg xa xh xb).1 == ([((((rmcS xg ([xa] : List (JV))).2).getD (Int.toNat 0) default).1 == (((rmcS xh ([xb] : List (JV))).2).getD (Int.toNat 0) default).1), ((((rmcS xg ([xa] : List (JV))).2).getD (Int.toNat 0) default).2.1 == (((rmcS xh ([xb] : List (JV))).2).getD (Int.toNat 0) default).2.1), ((((rmcS xg ([xa] : List (JV))).2).getD (Int.toNat 0) default).2.2 == (((rmcS xh ([xb] : List (JV))).2).getD (Int.toNat 0) default).2.2)].all id)) && (((halS xg xa xh xb).2) == 0)) else (((halS xg xa xh xb).1 == false) && (((halS xg xa xh xb).2) == 0)))
def lhaj37 (xg : List (Int × List (List UInt8) × List (JV))) (xa : JV) (xh : List (Int × List (List UInt8) × List (JV))) (xb : JV) (K : Bool → Prop) : Prop :=
  K (lhaV3 xg xa xh xb)
def lhaj19 (xg : List (Int × List (List UInt8) × List (JV))) (xa : JV) (xh : List (Int × List (List UInt8) × List (JV))) (xb : JV) (K : Bool → Prop) : Prop :=
  ((((lhaV2 xg xa xh xb) != 0)) = true → K ((!((halS xg xa xh xb).1)) && (((halS xg xa xh xb).2) == (lhaV2 xg xa xh xb)))) ∧ ((((lhaV2 xg xa xh xb) != 0)) = false → rrcQ xg ([xa] : List (JV)) ∧ rrcQ xh ([xb] : List (JV)) ∧ rscP ((rmcS xg ([xa] : List (JV))).1) ((rmcS xh ([xb] : List (JV))).1) ∧ (((rscS ((rmcS xg ([xa] : List (JV))).1) ((rmcS xh ([xb] : List (JV))).1))) = true → (0 : Int) ≤ 0 ∧ Int.toNat 0 < ((rmcS xg ([xa] : List (JV))).2).length ∧ (0 : Int) ≤ 0 ∧ Int.toNat 0 < ((rmcS xh ([xb] : List (JV))).2).length ∧ ((((halS xg xa xh xb).1 == ([((((rmcS xg ([xa] : List (JV))).2).getD (Int.toNat 0) default).1 == (((rmcS xh ([xb] : List (JV))).2).getD (Int.toNat 0) default).1), ((((rmcS xg ([xa] : List (JV))).2).getD (Int.toNat 0) default).2.1 == (((rmcS xh ([xb] : List (JV))).2).getD (Int.toNat 0) default).2.1), ((((rmcS xg ([xa] : List (JV))).2).getD (Int.toNat 0) default).2.2 == (((rmcS xh ([xb] : List (JV))).2).getD (Int.toNat 0) default).2.2)].all id))) = true → lhaj37 xg xa xh xb K) ∧ ((((halS xg xa xh xb).1 == ([((((rmcS xg ([xa] : List (JV))).2).getD (Int.toNat 0) default).1 == (((rmcS xh ([xb] : List (JV))).2).getD (Int.toNat 0) default).1), ((((rmcS xg ([xa] : List (JV))).2).getD (Int.toNat 0) default).2.1 == (((rmcS xh ([xb] : List (JV))).2).getD (Int.toNat 0) default).2.1), ((((rmcS xg ([xa] : List (JV))).2).getD (Int.toNat 0) default).2.2 == (((rmcS xh ([xb] : List (JV))).2).getD (Int.toNat 0) default).2.2)].all id))) = false → lhaj37 xg xa xh xb K)) ∧ (((rscS ((rmcS xg ([xa] : List (JV))).1) ((rmcS xh ([xb] : List (JV))).1))) = false → ((((halS xg xa xh xb).1 == false)) = true → lhaj37 xg xa xh xb K) ∧ ((((halS xg xa xh xb).1 == false)) = false → lhaj37 xg xa xh xb K)))
def lhaj13 (xg : List (Int × List (List UInt8) × List (JV))) (xa : JV) (xh : List (Int × List (List UInt8) × List (JV))) (xb : JV) (K : Bool → Prop) : Prop :=
  ((((lhaV1 xg xa xh) == 0)) = true → haskP xh ([xb] : List (JV)) ∧ lhaj19 xg xa xh xb K) ∧ ((((lhaV1 xg xa xh) == 0)) = false → lhaj19 xg xa xh xb K)
def lhaj7 (xg : List (Int × List (List UInt8) × List (JV))) (xa : JV) (xh : List (Int × List (List UInt8) × List (JV))) (xb : JV) (K : Bool → Prop) : Prop :=
  ((((lhaV0 xg xh) == 0)) = true → haskP xg ([xa] : List (JV)) ∧ lhaj13 xg xa xh xb K) ∧ ((((lhaV0 xg xh) == 0)) = false → lhaj13 xg xa xh xb K)
def lhaF (xg : List (Int × List (List UInt8) × List (JV))) (xa : JV) (xh : List (Int × List (List UInt8) × List (JV))) (xb : JV) (K : Bool → Prop) : Prop :=
  halP xg xa xh xb ∧ haskP xg ([]) ∧ ((((haskS xg ([])) == 0)) = true → haskP xh ([]) ∧ lhaj7 xg xa xh xb K) ∧ ((((haskS xg ([])) == 0)) = false → lhaj7 xg xa xh xb K)
set_option maxHeartbeats 4000000 in
set_option maxRecDepth 100000 in
set_option linter.unusedVariables false in
theorem lha_ok {g : Ghost} {axg_0 : Option Addr} {cxg_0 : Nat} (xg : List (Int × List (List UInt8) × List (JV))) (xa : JV) {axh_0 : Option Addr} {cxh_0 : Nat} (xh : List (Int × List (List UInt8) × List (JV))) (xb : JV) (hRxg_0 : Rep g (.slice (.pair (.int .i64) (.pair (.slice (.str)) (.slice (.pair (.int .i64) (.pair (.int .i64) (.str))))))) [.slice axg_0 xg.length cxg_0] xg) (hRxh_0 : Rep g (.slice (.pair (.int .i64) (.pair (.slice (.str)) (.slice (.pair (.int .i64) (.pair (.int .i64) (.str))))))) [.slice axh_0 xh.length cxh_0] xh) (K : Bool → Prop)
    (hF : lhaF xg xa xh xb K) : CallsH Try.prog 3 #[.slice axg_0 xg.length cxg_0, .agg #[.int .i64 xa.1, .int .i64 xa.2.1, .string ⟨⟨xa.2.2⟩⟩], .slice axh_0 xh.length cxh_0, .agg #[.int .i64 xb.1, .int .i64 xb.2.1, .string ⟨⟨xb.2.2⟩⟩]] g [] (fun g' H' v => ∃ (r0 : Bool), v = .bool r0 ∧ H' = [] ∧ K r0) := by
  refine CallsH.enter 83 [(0, .slice axg_0 xg.length cxg_0), (1, .agg #[.int .i64 xa.1, .int .i64 xa.2.1, .string ⟨⟨xa.2.2⟩⟩]), (2, .slice axh_0 xh.length cxh_0), (3, .agg #[.int .i64 xb.1, .int .i64 xb.2.1, .string ⟨⟨xb.2.2⟩⟩])] Try.func3 rfl (by kernel_rfl) (by kernel_rfl) (by kernel_rfl) fun w0 => ?_
  refine Ok.seq ?_
  refine Ok.region ?_
  refine Ok.op rfl (OpOk.box (v := .agg #[.int .i64 xa.1, .int .i64 xa.2.1, .string ⟨⟨xa.2.2⟩⟩]) (cs := #[.int .i64 xa.1, .int .i64 xa.2.1, .string ⟨⟨xa.2.2⟩⟩]) rfl (by kernel_rfl) rfl fun b1 => ?_)
  refine Ok.op rfl (OpOk.box (v := .agg #[.int .i64 xb.1, .int .i64 xb.2.1, .string ⟨⟨xb.2.2⟩⟩]) (cs := #[.int .i64 xb.1, .int .i64 xb.2.1, .string ⟨⟨xb.2.2⟩⟩]) rfl (by kernel_rfl) rfl fun b2 => ?_)
  refine Ok.batch 1 [(0, .slice axg_0 xg.length cxg_0), (2, .slice axh_0 xh.length cxh_0), (5, .pointer (some ⟨b1, 0, none⟩)), (7, .pointer (some ⟨b2, 0, none⟩))] (by kernel_rfl) ?_
  refine Ok.nil ?_
  refine Ok.thenN ?_
  refine Ok.seq ?_
  refine Ok.region ?_
  refine Ok.batch 1 [(0, .slice axg_0 xg.length cxg_0), (2, .slice axh_0 xh.length cxh_0), (5, .pointer (some ⟨b1, 0, none⟩)), (7, .pointer (some ⟨b2, 0, none⟩)), (17, .slice axg_0 xg.length cxg_0)] (by kernel_rfl) ?_
  refine Ok.op rfl (OpOk.step (v := .agg #[.int .i64 xa.1, .int .i64 xa.2.1, .string ⟨⟨xa.2.2⟩⟩]) (Yields.loadAgg 1 3 #[.int .i64 xa.1, .int .i64 xa.2.1, .string ⟨⟨xa.2.2⟩⟩] rfl rfl Try.underlying24 rfl (by kernel_rfl) (by kernel_rfl) (by kernel_rfl)) rfl rfl ?_)
  refine Ok.batch 1 [(0, .slice axg_0 xg.length cxg_0), (2, .slice axh_0 xh.length cxh_0), (5, .pointer (some ⟨b1, 0, none⟩)), (7, .pointer (some ⟨b2, 0, none⟩)), (17, .slice axg_0 xg.length cxg_0), (18, .agg #[.int .i64 xa.1, .int .i64 xa.2.1, .string ⟨⟨xa.2.2⟩⟩]), (19, .slice axh_0 xh.length cxh_0)] (by kernel_rfl) ?_
  refine Ok.op rfl (OpOk.step (v := .agg #[.int .i64 xb.1, .int .i64 xb.2.1, .string ⟨⟨xb.2.2⟩⟩]) (Yields.loadAgg 0 3 #[.int .i64 xb.1, .int .i64 xb.2.1, .string ⟨⟨xb.2.2⟩⟩] rfl rfl Try.underlying24 rfl (by kernel_rfl) (by kernel_rfl) (by kernel_rfl)) rfl rfl ?_)
  obtain ⟨hp3, hF⟩ := hF
  refine Ok.op rfl (OpOk.callG (v := .tuple #[.bool ((halS xg xa xh xb).1), .int .i64 ((halS xg xa xh xb).2)]) (enters (by kernel_rfl) (fun _ => by kernel_rfl)) (fun W hW => hal_c xg xa xh xb (hRxg_0.mono hW.sees) (hRxh_0.mono hW.sees) hp3) rfl ?_)
  refine Ok.batch 5 [(0, .slice axg_0 xg.length cxg_0), (2, .slice axh_0 xh.length cxh_0), (5, .pointer (some ⟨b1, 0, none⟩)), (7, .pointer (some ⟨b2, 0, none⟩)), (9, .bool ((halS xg xa xh xb).1)), (10, .int .i64 ((halS xg xa xh xb).2))] (by kernel_rfl) ?_
  refine Ok.nil ?_
  refine Ok.thenN ?_
  refine Ok.seq ?_
  refine Ok.region ?_
  refine Ok.batch 1 [(0, .slice axg_0 xg.length cxg_0), (2, .slice axh_0 xh.length cxh_0), (5, .pointer (some ⟨b1, 0, none⟩)), (7, .pointer (some ⟨b2, 0, none⟩)), (9, .bool ((halS xg xa xh xb).1)), (10, .int .i64 ((halS xg xa xh xb).2)), (24, .slice axg_0 xg.length cxg_0)] (by kernel_rfl) ?_
  obtain ⟨hp4, hF⟩ := hF
  refine Ok.op rfl (OpOk.callG (v := .int .i64 (haskS xg ([]))) (enters (by kernel_rfl) (fun _ => by kernel_rfl)) (fun W hW => rha_c xg ([]) (hRxg_0.mono hW.sees) Rep.nil hp4) rfl ?_)
  refine Ok.batch 1 [(0, .slice axg_0 xg.length cxg_0), (2, .slice axh_0 xh.length cxh_0), (5, .pointer (some ⟨b1, 0, none⟩)), (7, .pointer (some ⟨b2, 0, none⟩)), (9, .bool ((halS xg xa xh xb).1)), (10, .int .i64 ((halS xg xa xh xb).2)), (11, .int .i64 (haskS xg ([])))] (by kernel_rfl) ?_
  refine Ok.nil ?_
  refine Ok.thenN ?_
  refine Ok.cut (fun a W => ∃ gj7 : Ghost, Gext w0 g gj7 ∧ StA 83 [(0, .slice axg_0 xg.length cxg_0), (2, .slice axh_0 xh.length cxh_0), (5, .pointer (some ⟨b1, 0, none⟩)), (7, .pointer (some ⟨b2, 0, none⟩)), (9, .bool ((halS xg xa xh xb).1)), (10, .int .i64 ((halS xg xa xh xb).2)), (11, .int .i64 (lhaV0 xg xh))] a ∧ StW w0 [.blk b2 (.cells #[.int .i64 xb.1, .int .i64 xb.2.1, .string ⟨⟨xb.2.2⟩⟩] 24), .blk b1 (.cells #[.int .i64 xa.1, .int .i64 xa.2.1, .string ⟨⟨xa.2.2⟩⟩] 24)] gj7 W ∧ lhaj7 xg xa xh xb K) ?_ ?_
  ·
    refine Ok.seq ?_
    refine Ok.region ?_
    refine Ok.batch 2 [(0, .slice axg_0 xg.length cxg_0), (2, .slice axh_0 xh.length cxh_0), (5, .pointer (some ⟨b1, 0, none⟩)), (7, .pointer (some ⟨b2, 0, none⟩)), (9, .bool ((halS xg xa xh xb).1)), (10, .int .i64 ((halS xg xa xh xb).2)), (11, .int .i64 (haskS xg ([]))), (27, .bool ((haskS xg ([])) == 0))] (by kernel_rfl) ?_
    refine Ok.nil ?_
    refine Ok.thenN ?_
    refine Ok.cond (b := ((haskS xg ([])) == 0)) rfl (fun hc30 => ?_) (fun hc30 => ?_)
    · replace hF := hF.1 hc30
      refine Ok.region ?_
      refine Ok.batch 1 [(0, .slice axg_0 xg.length cxg_0), (2, .slice axh_0 xh.length cxh_0), (5, .pointer (some ⟨b1, 0, none⟩)), (7, .pointer (some ⟨b2, 0, none⟩)), (9, .bool ((halS xg xa xh xb).1)), (10, .int .i64 ((halS xg xa xh xb).2)), (28, .slice axh_0 xh.length cxh_0)] (by kernel_rfl) ?_
      obtain ⟨hp31, hF⟩ := hF
      refine Ok.op rfl (OpOk.callG (v := .int .i64 (haskS xh ([]))) (enters (by kernel_rfl) (fun _ => by kernel_rfl)) (fun W hW => rha_c xh ([]) (hRxh_0.mono hW.sees) Rep.nil hp31) rfl ?_)
      refine Ok.batch 1 [(0, .slice axg_0 xg.length cxg_0), (2, .slice axh_0 xh.length cxh_0), (5, .pointer (some ⟨b1, 0, none⟩)), (7, .pointer (some ⟨b2, 0, none⟩)), (9, .bool ((halS xg xa xh xb).1)), (10, .int .i64 ((halS xg xa xh xb).2)), (11, .int .i64 (haskS xh ([])))] (by kernel_rfl) ?_
      refine Ok.nil ?_
      refine Ok.thenN ?_
      refine Ok.reval 11 rfl (show (.int .i64 (haskS xh ([])) : Value) = .int .i64 (lhaV0 xg xh) from congrArg (Value.int .i64) ((if_t hc30).symm)) ?_
      exact fun a W hA hW => ⟨g, (Gext.refl w0 g), hA.sub (by kernel_rfl), hW, hF⟩
    · replace hF := hF.2 hc30
      refine Ok.skip ?_
      refine Ok.thenN ?_
      refine Ok.reval 11 rfl (show (.int .i64 (haskS xg ([])) : Value) = .int .i64 (lhaV0 xg xh) from congrArg (Value.int .i64) ((if_f hc30).symm)) ?_
      exact fun a W hA hW => ⟨g, (Gext.refl w0 g), hA.sub (by kernel_rfl), hW, hF⟩
  ·
    clear hF
    rintro a W ⟨gj7, hxj7, hA, hW, hF⟩
    refine (?_ : Ok _ _ _ _ _ _) a W hA hW
    clear hA hW
    replace hRxg_0 := hRxg_0.mono hxj7.1
    replace hRxh_0 := hRxh_0.mono hxj7.1
    refine Ok.cut (fun a W => ∃ gj13 : Ghost, Gext w0 gj7 gj13 ∧ StA 83 [(0, .slice axg_0 xg.length cxg_0), (2, .slice axh_0 xh.length cxh_0), (5, .pointer (some ⟨b1, 0, none⟩)), (7, .pointer (some ⟨b2, 0, none⟩)), (9, .bool ((halS xg xa xh xb).1)), (10, .int .i64 ((halS xg xa xh xb).2)), (11, .int .i64 (lhaV1 xg xa xh))] a ∧ StW w0 [.blk b2 (.cells #[.int .i64 xb.1, .int .i64 xb.2.1, .string ⟨⟨xb.2.2⟩⟩] 24), .blk b1 (.cells #[.int .i64 xa.1, .int .i64 xa.2.1, .string ⟨⟨xa.2.2⟩⟩] 24)] gj13 W ∧ lhaj13 xg xa xh xb K) ?_ ?_
    ·
      refine Ok.seq ?_
      refine Ok.region ?_
      refine Ok.batch 2 [(0, .slice axg_0 xg.length cxg_0), (2, .slice axh_0 xh.length cxh_0), (5, .pointer (some ⟨b1, 0, none⟩)), (7, .pointer (some ⟨b2, 0, none⟩)), (9, .bool ((halS xg xa xh xb).1)), (10, .int .i64 ((halS xg xa xh xb).2)), (11, .int .i64 (lhaV0 xg xh)), (31, .bool ((lhaV0 xg xh) == 0))] (by kernel_rfl) ?_
      refine Ok.nil ?_
      refine Ok.thenN ?_
      refine Ok.cond (b := ((lhaV0 xg xh) == 0)) rfl (fun hc27 => ?_) (fun hc27 => ?_)
      · replace hF := hF.1 hc27
        refine Ok.region ?_
        refine Ok.batch 1 [(0, .slice axg_0 xg.length cxg_0), (2, .slice axh_0 xh.length cxh_0), (5, .pointer (some ⟨b1, 0, none⟩)), (7, .pointer (some ⟨b2, 0, none⟩)), (9, .bool ((halS xg xa xh xb).1)), (10, .int .i64 ((halS xg xa xh xb).2)), (32, .slice axg_0 xg.length cxg_0)] (by kernel_rfl) ?_
        refine Ok.op rfl (OpOk.step (v := .agg #[.int .i64 xa.1, .int .i64 xa.2.1, .string ⟨⟨xa.2.2⟩⟩]) (Yields.loadAgg 1 3 #[.int .i64 xa.1, .int .i64 xa.2.1, .string ⟨⟨xa.2.2⟩⟩] rfl rfl Try.underlying24 rfl (by kernel_rfl) (by kernel_rfl) (by kernel_rfl)) rfl rfl ?_)
        have hL28 : RepL gj7 (.pair (.int .i64) (.pair (.int .i64) (.str))) ([.int .i64 xa.1, .int .i64 xa.2.1, .string ⟨⟨xa.2.2⟩⟩] : List Value) ([xa] : List (JV)) := (RepL.consN (c := [.int .i64 xa.1, .int .i64 xa.2.1, .string ⟨⟨xa.2.2⟩⟩]) ⟨[.int .i64 xa.1], [.int .i64 xa.2.1, .string ⟨⟨xa.2.2⟩⟩], rfl, rfl, ⟨[.int .i64 xa.2.1], [.string ⟨⟨xa.2.2⟩⟩], rfl, rfl, rfl⟩⟩ rfl)
        refine Ok.op rfl (OpOk.lit (E := 24) (.pair (.int .i64) (.pair (.int .i64) (.str))) ([xa] : List (JV)) ([.int .i64 xa.1, .int .i64 xa.2.1, .string ⟨⟨xa.2.2⟩⟩] : List Value) (by kernel_rfl) (by kernel_rfl) rfl (by kernel_rfl) hL28 rfl fun b28 => ?_)
        obtain ⟨hp29, hF⟩ := hF
        refine Ok.op rfl (OpOk.callG (v := .int .i64 (haskS xg ([xa] : List (JV)))) (enters (by kernel_rfl) (fun _ => by kernel_rfl)) (fun W hW => rha_c xg ([xa] : List (JV)) (hRxg_0.mono hW.sees) (hW.seeOwn 0 rfl hL28) hp29) rfl ?_)
        refine Ok.batch 1 [(0, .slice axg_0 xg.length cxg_0), (2, .slice axh_0 xh.length cxh_0), (5, .pointer (some ⟨b1, 0, none⟩)), (7, .pointer (some ⟨b2, 0, none⟩)), (9, .bool ((halS xg xa xh xb).1)), (10, .int .i64 ((halS xg xa xh xb).2)), (11, .int .i64 (haskS xg ([xa] : List (JV))))] (by kernel_rfl) ?_
        refine Ok.nil ?_
        refine Ok.thenN ?_
        refine Ok.reval 11 rfl (show (.int .i64 (haskS xg ([xa] : List (JV))) : Value) = .int .i64 (lhaV1 xg xa xh) from congrArg (Value.int .i64) ((if_t hc27).symm)) ?_
        exact fun a W hA hW => ⟨gj7, (Gext.refl w0 gj7), hA.sub (by kernel_rfl), hW.sub (.cons _ (.cons_cons _ (.cons_cons _ .slnil))), hF⟩
      · replace hF := hF.2 hc27
        refine Ok.skip ?_
        refine Ok.thenN ?_
        refine Ok.reval 11 rfl (show (.int .i64 (lhaV0 xg xh) : Value) = .int .i64 (lhaV1 xg xa xh) from congrArg (Value.int .i64) ((if_f hc27).symm)) ?_
        exact fun a W hA hW => ⟨gj7, (Gext.refl w0 gj7), hA.sub (by kernel_rfl), hW, hF⟩
    ·
      clear hF
      rintro a W ⟨gj13, hxj13, hA, hW, hF⟩
      refine (?_ : Ok _ _ _ _ _ _) a W hA hW
      clear hA hW
      replace hRxg_0 := hRxg_0.mono hxj13.1
      replace hRxh_0 := hRxh_0.mono hxj13.1
      refine Ok.cut (fun a W => ∃ gj19 : Ghost, Gext w0 gj13 gj19 ∧ StA 83 [(0, .slice axg_0 xg.length cxg_0), (2, .slice axh_0 xh.length cxh_0), (5, .pointer (some ⟨b1, 0, none⟩)), (7, .pointer (some ⟨b2, 0, none⟩)), (9, .bool ((halS xg xa xh xb).1)), (10, .int .i64 ((halS xg xa xh xb).2)), (11, .int .i64 (lhaV2 xg xa xh xb))] a ∧ StW w0 [.blk b2 (.cells #[.int .i64 xb.1, .int .i64 xb.2.1, .string ⟨⟨xb.2.2⟩⟩] 24), .blk b1 (.cells #[.int .i64 xa.1, .int .i64 xa.2.1, .string ⟨⟨xa.2.2⟩⟩] 24)] gj19 W ∧ lhaj19 xg xa xh xb K) ?_ ?_
      ·
        refine Ok.seq ?_
        refine Ok.region ?_
        refine Ok.batch 2 [(0, .slice axg_0 xg.length cxg_0), (2, .slice axh_0 xh.length cxh_0), (5, .pointer (some ⟨b1, 0, none⟩)), (7, .pointer (some ⟨b2, 0, none⟩)), (9, .bool ((halS xg xa xh xb).1)), (10, .int .i64 ((halS xg xa xh xb).2)), (11, .int .i64 (lhaV1 xg xa xh)), (37, .bool ((lhaV1 xg xa xh) == 0))] (by kernel_rfl) ?_
        refine Ok.nil ?_
        refine Ok.thenN ?_
        refine Ok.cond (b := ((lhaV1 xg xa xh) == 0)) rfl (fun hc24 => ?_) (fun hc24 => ?_)
        · replace hF := hF.1 hc24
          refine Ok.region ?_
          refine Ok.batch 1 [(0, .slice axg_0 xg.length cxg_0), (2, .slice axh_0 xh.length cxh_0), (5, .pointer (some ⟨b1, 0, none⟩)), (7, .pointer (some ⟨b2, 0, none⟩)), (9, .bool ((halS xg xa xh xb).1)), (10, .int .i64 ((halS xg xa xh xb).2)), (38, .slice axh_0 xh.length cxh_0)] (by kernel_rfl) ?_
          refine Ok.op rfl (OpOk.step (v := .agg #[.int .i64 xb.1, .int .i64 xb.2.1, .string ⟨⟨xb.2.2⟩⟩]) (Yields.loadAgg 0 3 #[.int .i64 xb.1, .int .i64 xb.2.1, .string ⟨⟨xb.2.2⟩⟩] rfl rfl Try.underlying24 rfl (by kernel_rfl) (by kernel_rfl) (by kernel_rfl)) rfl rfl ?_)
          have hL25 : RepL gj13 (.pair (.int .i64) (.pair (.int .i64) (.str))) ([.int .i64 xb.1, .int .i64 xb.2.1, .string ⟨⟨xb.2.2⟩⟩] : List Value) ([xb] : List (JV)) := (RepL.consN (c := [.int .i64 xb.1, .int .i64 xb.2.1, .string ⟨⟨xb.2.2⟩⟩]) ⟨[.int .i64 xb.1], [.int .i64 xb.2.1, .string ⟨⟨xb.2.2⟩⟩], rfl, rfl, ⟨[.int .i64 xb.2.1], [.string ⟨⟨xb.2.2⟩⟩], rfl, rfl, rfl⟩⟩ rfl)
          refine Ok.op rfl (OpOk.lit (E := 24) (.pair (.int .i64) (.pair (.int .i64) (.str))) ([xb] : List (JV)) ([.int .i64 xb.1, .int .i64 xb.2.1, .string ⟨⟨xb.2.2⟩⟩] : List Value) (by kernel_rfl) (by kernel_rfl) rfl (by kernel_rfl) hL25 rfl fun b25 => ?_)
          obtain ⟨hp26, hF⟩ := hF
          refine Ok.op rfl (OpOk.callG (v := .int .i64 (haskS xh ([xb] : List (JV)))) (enters (by kernel_rfl) (fun _ => by kernel_rfl)) (fun W hW => rha_c xh ([xb] : List (JV)) (hRxh_0.mono hW.sees) (hW.seeOwn 0 rfl hL25) hp26) rfl ?_)
          refine Ok.batch 1 [(0, .slice axg_0 xg.length cxg_0), (2, .slice axh_0 xh.length cxh_0), (5, .pointer (some ⟨b1, 0, none⟩)), (7, .pointer (some ⟨b2, 0, none⟩)), (9, .bool ((halS xg xa xh xb).1)), (10, .int .i64 ((halS xg xa xh xb).2)), (11, .int .i64 (haskS xh ([xb] : List (JV))))] (by kernel_rfl) ?_
          refine Ok.nil ?_
          refine Ok.thenN ?_
          refine Ok.reval 11 rfl (show (.int .i64 (haskS xh ([xb] : List (JV))) : Value) = .int .i64 (lhaV2 xg xa xh xb) from congrArg (Value.int .i64) ((if_t hc24).symm)) ?_
          exact fun a W hA hW => ⟨gj13, (Gext.refl w0 gj13), hA.sub (by kernel_rfl), hW.sub (.cons _ (.cons_cons _ (.cons_cons _ .slnil))), hF⟩
        · replace hF := hF.2 hc24
          refine Ok.skip ?_
          refine Ok.thenN ?_
          refine Ok.reval 11 rfl (show (.int .i64 (lhaV1 xg xa xh) : Value) = .int .i64 (lhaV2 xg xa xh xb) from congrArg (Value.int .i64) ((if_f hc24).symm)) ?_
          exact fun a W hA hW => ⟨gj13, (Gext.refl w0 gj13), hA.sub (by kernel_rfl), hW, hF⟩
      ·
        clear hF
        rintro a W ⟨gj19, hxj19, hA, hW, hF⟩
        refine (?_ : Ok _ _ _ _ _ _) a W hA hW
        clear hA hW
        replace hRxg_0 := hRxg_0.mono hxj19.1
        replace hRxh_0 := hRxh_0.mono hxj19.1
        refine Ok.seq ?_
        refine Ok.seq ?_
        refine Ok.region ?_
        refine Ok.batch 2 [(0, .slice axg_0 xg.length cxg_0), (2, .slice axh_0 xh.length cxh_0), (5, .pointer (some ⟨b1, 0, none⟩)), (7, .pointer (some ⟨b2, 0, none⟩)), (9, .bool ((halS xg xa xh xb).1)), (10, .int .i64 ((halS xg xa xh xb).2)), (11, .int .i64 (lhaV2 xg xa xh xb)), (43, .bool ((lhaV2 xg xa xh xb) != 0))] (by kernel_rfl) ?_
        refine Ok.nil ?_
        refine Ok.thenN ?_
        refine Ok.cond (b := ((lhaV2 xg xa xh xb) != 0)) rfl (fun hc5 => ?_) (fun hc5 => ?_)
        · replace hF := hF.1 hc5
          refine Ok.seq ?_
          refine Ok.region ?_
          refine Ok.batch 3 [(10, .int .i64 ((halS xg xa xh xb).2)), (11, .int .i64 (lhaV2 xg xa xh xb)), (46, .bool (!((halS xg xa xh xb).1)))] (by kernel_rfl) ?_
          refine Ok.midway 4 [(50, .bool ((!((halS xg xa xh xb).1)) && (((halS xg xa xh xb).2) == (lhaV2 xg xa xh xb))))] (fun hR6 => ?_) ?_
          · refine Ok.boolAt 46 (!((halS xg xa xh xb).1)) rfl (fun hc7 => ?_) (fun hc7 => ?_)
            · skip
              refine Ok.batch 4 [(50, .bool (((halS xg xa xh xb).2) == (lhaV2 xg xa xh xb)))] (by kernel_rfl) ?_
              refine Ok.reval 50 rfl (show (.bool (((halS xg xa xh xb).2) == (lhaV2 xg xa xh xb)) : Value) = .bool ((!((halS xg xa xh xb).1)) && (((halS xg xa xh xb).2) == (lhaV2 xg xa xh xb))) from congrArg Value.bool (mand_t hc7)) ?_
              refine Ok.batch 0 [(50, .bool ((!((halS xg xa xh xb).1)) && (((halS xg xa xh xb).2) == (lhaV2 xg xa xh xb))))] (by kernel_rfl) ?_
              exact hR6
            · skip
              refine Ok.batch 4 [(50, .bool false)] (by kernel_rfl) ?_
              refine Ok.reval 50 rfl (show (.bool false : Value) = .bool ((!((halS xg xa xh xb).1)) && (((halS xg xa xh xb).2) == (lhaV2 xg xa xh xb))) from congrArg Value.bool (mand_f hc7)) ?_
              refine Ok.batch 0 [(50, .bool ((!((halS xg xa xh xb).1)) && (((halS xg xa xh xb).2) == (lhaV2 xg xa xh xb))))] (by kernel_rfl) ?_
              exact hR6
          refine Ok.batch 1 [(8, .bool ((!((halS xg xa xh xb).1)) && (((halS xg xa xh xb).2) == (lhaV2 xg xa xh xb))))] (by kernel_rfl) ?_
          refine Ok.nil ?_
          refine Ok.thenN ?_
          refine Ok.ret ?_
          refine Ok.thenR ?_
          exact Ok.resP (vs := [.bool ((!((halS xg xa xh xb).1)) && (((halS xg xa xh xb).2) == (lhaV2 xg xa xh xb)))]) [] [] (by decide) rfl (.inl rfl) rfl (.cons (.tmp rfl) .nil) ((hxj7.trans hxj13).trans hxj19) ⟨((!((halS xg xa xh xb).1)) && (((halS xg xa xh xb).2) == (lhaV2 xg xa xh xb))), rfl, rfl, hF⟩
        · replace hF := hF.2 hc5
          refine Ok.skip ?_
          refine Ok.thenN ?_
          refine Ok.seq ?_
          refine Ok.region ?_
          refine Ok.batch 1 [(2, .slice axh_0 xh.length cxh_0), (5, .pointer (some ⟨b1, 0, none⟩)), (7, .pointer (some ⟨b2, 0, none⟩)), (9, .bool ((halS xg xa xh xb).1)), (10, .int .i64 ((halS xg xa xh xb).2)), (52, .slice axg_0 xg.length cxg_0)] (by kernel_rfl) ?_
          refine Ok.op rfl (OpOk.step (v := .agg #[.int .i64 xa.1, .int .i64 xa.2.1, .string ⟨⟨xa.2.2⟩⟩]) (Yields.loadAgg 1 3 #[.int .i64 xa.1, .int .i64 xa.2.1, .string ⟨⟨xa.2.2⟩⟩] rfl rfl Try.underlying24 rfl (by kernel_rfl) (by kernel_rfl) (by kernel_rfl)) rfl rfl ?_)
          have hL8 : RepL gj19 (.pair (.int .i64) (.pair (.int .i64) (.str))) ([.int .i64 xa.1, .int .i64 xa.2.1, .string ⟨⟨xa.2.2⟩⟩] : List Value) ([xa] : List (JV)) := (RepL.consN (c := [.int .i64 xa.1, .int .i64 xa.2.1, .string ⟨⟨xa.2.2⟩⟩]) ⟨[.int .i64 xa.1], [.int .i64 xa.2.1, .string ⟨⟨xa.2.2⟩⟩], rfl, rfl, ⟨[.int .i64 xa.2.1], [.string ⟨⟨xa.2.2⟩⟩], rfl, rfl, rfl⟩⟩ rfl)
          refine Ok.op rfl (OpOk.lit (E := 24) (.pair (.int .i64) (.pair (.int .i64) (.str))) ([xa] : List (JV)) ([.int .i64 xa.1, .int .i64 xa.2.1, .string ⟨⟨xa.2.2⟩⟩] : List Value) (by kernel_rfl) (by kernel_rfl) rfl (by kernel_rfl) hL8 rfl fun b8 => ?_)
          refine Ok.freeze (H' := [.blk b2 (.cells #[.int .i64 xb.1, .int .i64 xb.2.1, .string ⟨⟨xb.2.2⟩⟩] 24), .blk b1 (.cells #[.int .i64 xa.1, .int .i64 xa.2.1, .string ⟨⟨xa.2.2⟩⟩] 24)]) 0 rfl hL8 rfl fun g9 hx9 hRf9 => ?_
          replace hRxh_0 := hRxh_0.mono hx9.1
          replace hRxg_0 := hRxg_0.mono hx9.1
          obtain ⟨hp10, hF⟩ := hF
          refine Ok.op rfl (OpOk.callH [] [.blk b2 (.cells #[.int .i64 xb.1, .int .i64 xb.2.1, .string ⟨⟨xb.2.2⟩⟩] 24), .blk b1 (.cells #[.int .i64 xa.1, .int .i64 xa.2.1, .string ⟨⟨xa.2.2⟩⟩] 24)] (enters (by kernel_rfl) (fun _ => by kernel_rfl)) rfl (rmc_c xg ([xa] : List (JV)) hRxg_0 hRf9 hp10) rfl fun g11 _ _ hx11 hV11 => ?_)
          obtain ⟨a11_0, c11_0, a11_2, c11_2, rfl, hR11_0, hR11_2, rfl⟩ := hV11
          replace hRxh_0 := hRxh_0.mono hx11.1
          replace hRxg_0 := hRxg_0.mono hx11.1
          replace hRf9 := hRf9.mono hx11.1
          refine Ok.batch 5 [(2, .slice axh_0 xh.length cxh_0), (7, .pointer (some ⟨b2, 0, none⟩)), (9, .bool ((halS xg xa xh xb).1)), (10, .int .i64 ((halS xg xa xh xb).2)), (12, .slice a11_0 ((rmcS xg ([xa] : List (JV))).1).length c11_0), (13, .slice a11_2 ((rmcS xg ([xa] : List (JV))).2).length c11_2)] (by kernel_rfl) ?_
          refine Ok.nil ?_
          refine Ok.thenN ?_
          refine Ok.seq ?_
          refine Ok.region ?_
          refine Ok.batch 1 [(7, .pointer (some ⟨b2, 0, none⟩)), (9, .bool ((halS xg xa xh xb).1)), (10, .int .i64 ((halS xg xa xh xb).2)), (12, .slice a11_0 ((rmcS xg ([xa] : List (JV))).1).length c11_0), (13, .slice a11_2 ((rmcS xg ([xa] : List (JV))).2).length c11_2), (59, .slice axh_0 xh.length cxh_0)] (by kernel_rfl) ?_
          refine Ok.op rfl (OpOk.step (v := .agg #[.int .i64 xb.1, .int .i64 xb.2.1, .string ⟨⟨xb.2.2⟩⟩]) (Yields.loadAgg 0 3 #[.int .i64 xb.1, .int .i64 xb.2.1, .string ⟨⟨xb.2.2⟩⟩] rfl rfl Try.underlying24 rfl (by kernel_rfl) (by kernel_rfl) (by kernel_rfl)) rfl rfl ?_)
          have hL12 : RepL g11 (.pair (.int .i64) (.pair (.int .i64) (.str))) ([.int .i64 xb.1, .int .i64 xb.2.1, .string ⟨⟨xb.2.2⟩⟩] : List Value) ([xb] : List (JV)) := (RepL.consN (c := [.int .i64 xb.1, .int .i64 xb.2.1, .string ⟨⟨xb.2.2⟩⟩]) ⟨[.int .i64 xb.1], [.int .i64 xb.2.1, .string ⟨⟨xb.2.2⟩⟩], rfl, rfl, ⟨[.int .i64 xb.2.1], [.string ⟨⟨xb.2.2⟩⟩], rfl, rfl, rfl⟩⟩ rfl)
          refine Ok.op rfl (OpOk.lit (E := 24) (.pair (.int .i64) (.pair (.int .i64) (.str))) ([xb] : List (JV)) ([.int .i64 xb.1, .int .i64 xb.2.1, .string ⟨⟨xb.2.2⟩⟩] : List Value) (by kernel_rfl) (by kernel_rfl) rfl (by kernel_rfl) hL12 rfl fun b12 => ?_)
          refine Ok.freeze (H' := [.blk b2 (.cells #[.int .i64 xb.1, .int .i64 xb.2.1, .string ⟨⟨xb.2.2⟩⟩] 24), .blk b1 (.cells #[.int .i64 xa.1, .int .i64 xa.2.1, .string ⟨⟨xa.2.2⟩⟩] 24)]) 0 rfl hL12 rfl fun g13 hx13 hRf13 => ?_
          replace hR11_0 := hR11_0.mono hx13.1
          replace hR11_2 := hR11_2.mono hx13.1
          replace hRxh_0 := hRxh_0.mono hx13.1
          obtain ⟨hp14, hF⟩ := hF
          refine Ok.op rfl (OpOk.callH [] [.blk b2 (.cells #[.int .i64 xb.1, .int .i64 xb.2.1, .string ⟨⟨xb.2.2⟩⟩] 24), .blk b1 (.cells #[.int .i64 xa.1, .int .i64 xa.2.1, .string ⟨⟨xa.2.2⟩⟩] 24)] (enters (by kernel_rfl) (fun _ => by kernel_rfl)) rfl (rmc_c xh ([xb] : List (JV)) hRxh_0 hRf13 hp14) rfl fun g15 _ _ hx15 hV15 => ?_)
          obtain ⟨a15_0, c15_0, a15_2, c15_2, rfl, hR15_0, hR15_2, rfl⟩ := hV15
          replace hR11_0 := hR11_0.mono hx15.1
          replace hR11_2 := hR11_2.mono hx15.1
          replace hRxh_0 := hRxh_0.mono hx15.1
          replace hRf13 := hRf13.mono hx15.1
          refine Ok.batch 5 [(9, .bool ((halS xg xa xh xb).1)), (10, .int .i64 ((halS xg xa xh xb).2)), (12, .slice a11_0 ((rmcS xg ([xa] : List (JV))).1).length c11_0), (13, .slice a11_2 ((rmcS xg ([xa] : List (JV))).2).length c11_2), (14, .slice a15_0 ((rmcS xh ([xb] : List (JV))).1).length c15_0), (15, .slice a15_2 ((rmcS xh ([xb] : List (JV))).2).length c15_2)] (by kernel_rfl) ?_
          refine Ok.nil ?_
          refine Ok.thenN ?_
          refine Ok.cut (fun a W => ∃ gj37 : Ghost, Gext w0 g15 gj37 ∧ StA 83 [(8, .bool (lhaV3 xg xa xh xb))] a ∧ StW w0 [] gj37 W ∧ lhaj37 xg xa xh xb K) ?_ ?_
          ·
            refine Ok.quiet' (by kernel_rfl) (by kernel_rfl) ?_
            refine OkQ.batch 3 [(10, .int .i64 ((halS xg xa xh xb).2)), (13, .slice a11_2 ((rmcS xg ([xa] : List (JV))).2).length c11_2), (15, .slice a15_2 ((rmcS xh ([xb] : List (JV))).2).length c15_2), (65, .bool ((halS xg xa xh xb).1)), (66, .slice a11_0 ((rmcS xg ([xa] : List (JV))).1).length c11_0), (67, .slice a15_0 ((rmcS xh ([xb] : List (JV))).1).length c15_0)] (by kernel_rfl) ?_
            obtain ⟨hp16, hF⟩ := hF
            refine OkQ.op rfl (OpQ.callG (v := .bool (rscS ((rmcS xg ([xa] : List (JV))).1) ((rmcS xh ([xb] : List (JV))).1))) (enters (by kernel_rfl) (fun _ => by kernel_rfl)) (fun W hW => rsc_c ((rmcS xg ([xa] : List (JV))).1) ((rmcS xh ([xb] : List (JV))).1) (hR11_0.mono hW.sees) (hR15_0.mono hW.sees) hp16) rfl ?_)
            refine OkQ.batch 1 [(10, .int .i64 ((halS xg xa xh xb).2)), (13, .slice a11_2 ((rmcS xg ([xa] : List (JV))).2).length c11_2), (15, .slice a15_2 ((rmcS xh ([xb] : List (JV))).2).length c15_2), (65, .bool ((halS xg xa xh xb).1)), (69, .bool (rscS ((rmcS xg ([xa] : List (JV))).1) ((rmcS xh ([xb] : List (JV))).1)))] (by kernel_rfl) ?_
            refine OkQ.boolAt 69 ((rscS ((rmcS xg ([xa] : List (JV))).1) ((rmcS xh ([xb] : List (JV))).1))) rfl (fun hc17 => ?_) (fun hc17 => ?_)
            · replace hF := hF.1 hc17
              refine OkQ.batch 1 [(10, .int .i64 ((halS xg xa xh xb).2)), (15, .slice a15_2 ((rmcS xh ([xb] : List (JV))).2).length c15_2), (65, .bool ((halS xg xa xh xb).1)), (69, .bool true), (70, .slice a11_2 ((rmcS xg ([xa] : List (JV))).2).length c11_2)] (by kernel_rfl) ?_
              obtain ⟨h019, h119, hF⟩ := hF
              have he19 := get_of (l := (rmcS xg ([xa] : List (JV))).2) (default : JV) h119
              generalize hg19 : (((rmcS xg ([xa] : List (JV))).2).getD (Int.toNat 0) default) = e19 at he19 hF ⊢
              refine OkQ.opYes (j := 4) (d := 69) (want := true) (b := true) rfl (by kernel_rfl) (by kernel_rfl) rfl (OpQ.indexRo (e := .pair (.int .i64) (.pair (.int .i64) (.str))) (i := 0) (el := e19) rfl rfl Try.underlying29 (by kernel_rfl) hR11_2 h019 he19 rfl fun q18 o18 cs18 _ hat18 hr18 => ?_)
              obtain ⟨_, _, rfl, rfl, ⟨_, _, rfl, rfl, rfl⟩⟩ := hr18
              replace hat18 : At g15 q18 o18 [.int .i64 e19.1, .int .i64 e19.2.1, .string ⟨⟨e19.2.2⟩⟩] := hat18
              refine OkQ.opYes (j := 4) (d := 69) (want := true) (b := true) rfl (by kernel_rfl) (by kernel_rfl) rfl (OpQ.step (v := .agg #[.int .i64 e19.1, .int .i64 e19.2.1, .string ⟨⟨e19.2.2⟩⟩]) (Yields.loadAggRo 0 3 #[.int .i64 e19.1, .int .i64 e19.2.1, .string ⟨⟨e19.2.2⟩⟩] hat18 (by kernel_rfl) Try.underlying24 rfl (by kernel_rfl) (by kernel_rfl) (by kernel_rfl)) rfl rfl ?_)
              refine OkQ.batch 1 [(10, .int .i64 ((halS xg xa xh xb).2)), (65, .bool ((halS xg xa xh xb).1)), (69, .bool true), (72, .agg #[.int .i64 e19.1, .int .i64 e19.2.1, .string ⟨⟨e19.2.2⟩⟩]), (73, .slice a15_2 ((rmcS xh ([xb] : List (JV))).2).length c15_2)] (by kernel_rfl) ?_
              obtain ⟨h021, h121, hF⟩ := hF
              have he21 := get_of (l := (rmcS xh ([xb] : List (JV))).2) (default : JV) h121
              generalize hg21 : (((rmcS xh ([xb] : List (JV))).2).getD (Int.toNat 0) default) = e21 at he21 hF ⊢
              refine OkQ.opYes (j := 4) (d := 69) (want := true) (b := true) rfl (by kernel_rfl) (by kernel_rfl) rfl (OpQ.indexRo (e := .pair (.int .i64) (.pair (.int .i64) (.str))) (i := 0) (el := e21) rfl rfl Try.underlying29 (by kernel_rfl) hR15_2 h021 he21 rfl fun q20 o20 cs20 _ hat20 hr20 => ?_)
              obtain ⟨_, _, rfl, rfl, ⟨_, _, rfl, rfl, rfl⟩⟩ := hr20
              replace hat20 : At g15 q20 o20 [.int .i64 e21.1, .int .i64 e21.2.1, .string ⟨⟨e21.2.2⟩⟩] := hat20
              refine OkQ.opYes (j := 4) (d := 69) (want := true) (b := true) rfl (by kernel_rfl) (by kernel_rfl) rfl (OpQ.step (v := .agg #[.int .i64 e21.1, .int .i64 e21.2.1, .string ⟨⟨e21.2.2⟩⟩]) (Yields.loadAggRo 0 3 #[.int .i64 e21.1, .int .i64 e21.2.1, .string ⟨⟨e21.2.2⟩⟩] hat20 (by kernel_rfl) Try.underlying24 rfl (by kernel_rfl) (by kernel_rfl) (by kernel_rfl)) rfl rfl ?_)
              refine OkQ.opYes (j := 4) (d := 69) (want := true) (b := true) rfl (by kernel_rfl) (by kernel_rfl) rfl (OpQ.step (v := .bool ([(e19.1 == e21.1), (e19.2.1 == e21.2.1), (e19.2.2 == e21.2.2)].all id)) (Yields.eqAgg (k := 2) rfl rfl (.struct (k := 1) Try.underlying24 (by kernel_rfl) ⟨by decide, ⟨.int .i64 e19.1, .int .i64 e21.1, fun _ => by kernel_rfl, fun _ => by kernel_rfl, EqR.mono (k := 1) (.int Try.underlying3) (by decide)⟩, ⟨by decide, ⟨.int .i64 e19.2.1, .int .i64 e21.2.1, fun _ => by kernel_rfl, fun _ => by kernel_rfl, EqR.mono (k := 1) (.int Try.underlying3) (by decide)⟩, ⟨by decide, ⟨.string ⟨⟨e19.2.2⟩⟩, .string ⟨⟨e21.2.2⟩⟩, fun _ => by kernel_rfl, fun _ => by kernel_rfl, EqR.mono (k := 1) (.str Try.underlying9) (by decide)⟩, trivial⟩⟩⟩) rfl (by kernel_rfl)) rfl rfl ?_)
              refine OkQ.batch 3 [(10, .int .i64 ((halS xg xa xh xb).2)), (79, .bool ((halS xg xa xh xb).1 == ([(e19.1 == e21.1), (e19.2.1 == e21.2.1), (e19.2.2 == e21.2.2)].all id)))] (by kernel_rfl) ?_
              refine OkQ.boolAt 79 (((halS xg xa xh xb).1 == ([(e19.1 == e21.1), (e19.2.1 == e21.2.1), (e19.2.2 == e21.2.2)].all id))) rfl (fun hc22 => ?_) (fun hc22 => ?_)
              · replace hF := hF.1 hc22
                refine OkQ.batch 4 [(8, .bool (((halS xg xa xh xb).2) == 0))] (by kernel_rfl) ?_
                refine OkQ.nil ?_
                refine Ok.thenN ?_
                subst hg21
                subst hg19
                refine Ok.reval 8 rfl (show (.bool (((halS xg xa xh xb).2) == 0) : Value) = .bool (lhaV3 xg xa xh xb) from congrArg (Value.bool) ((Eq.trans (mand_t hc22) ((if_t hc17).symm)))) ?_
                exact fun a W hA hW => ⟨g15, (Gext.refl w0 g15), hA.sub (by kernel_rfl), hW.sub (.cons _ (.cons _ .slnil)), hF⟩
              · replace hF := hF.2 hc22
                refine OkQ.batch 4 [(8, .bool false)] (by kernel_rfl) ?_
                refine OkQ.nil ?_
                refine Ok.thenN ?_
                subst hg21
                subst hg19
                refine Ok.reval 8 rfl (show (.bool false : Value) = .bool (lhaV3 xg xa xh xb) from congrArg (Value.bool) ((Eq.trans (mand_f hc22) ((if_t hc17).symm)))) ?_
                exact fun a W hA hW => ⟨g15, (Gext.refl w0 g15), hA.sub (by kernel_rfl), hW.sub (.cons _ (.cons _ .slnil)), hF⟩
            · replace hF := hF.2 hc17
              refine OkQ.batch 10 [(10, .int .i64 ((halS xg xa xh xb).2)), (79, .bool ((halS xg xa xh xb).1 == false))] (by kernel_rfl) ?_
              refine OkQ.boolAt 79 (((halS xg xa xh xb).1 == false)) rfl (fun hc23 => ?_) (fun hc23 => ?_)
              · replace hF := hF.1 hc23
                refine OkQ.batch 4 [(8, .bool (((halS xg xa xh xb).2) == 0))] (by kernel_rfl) ?_
                refine OkQ.nil ?_
                refine Ok.thenN ?_
                refine Ok.reval 8 rfl (show (.bool (((halS xg xa xh xb).2) == 0) : Value) = .bool (lhaV3 xg xa xh xb) from congrArg (Value.bool) ((Eq.trans (mand_t hc23) ((if_f hc17).symm)))) ?_
                exact fun a W hA hW => ⟨g15, (Gext.refl w0 g15), hA.sub (by kernel_rfl), hW.sub (.cons _ (.cons _ .slnil)), hF⟩
              · replace hF := hF.2 hc23
                refine OkQ.batch 4 [(8, .bool false)] (by kernel_rfl) ?_
                refine OkQ.nil ?_
                refine Ok.thenN ?_
                refine Ok.reval 8 rfl (show (.bool false : Value) = .bool (lhaV3 xg xa xh xb) from congrArg (Value.bool) ((Eq.trans (mand_f hc23) ((if_f hc17).symm)))) ?_
                exact fun a W hA hW => ⟨g15, (Gext.refl w0 g15), hA.sub (by kernel_rfl), hW.sub (.cons _ (.cons _ .slnil)), hF⟩
          ·
            clear hF
            rintro a W ⟨gj37, hxj37, hA, hW, hF⟩
            refine (?_ : Ok _ _ _ _ _ _) a W hA hW
            clear hA hW
            refine Ok.ret ?_
            exact Ok.resH (vs := [.bool (lhaV3 xg xa xh xb)]) (.inl rfl) rfl (.cons (.tmp rfl) .nil) (((((((hxj7.trans hxj13).trans hxj19).trans hx9).trans hx11).trans hx13).trans hx15).trans hxj37) ⟨(lhaV3 xg xa xh xb), rfl, rfl, hF⟩
theorem ask_nil (h : List JC) : haskS h [] = hchkS h := by
  unfold haskS
  by_cases hz : hchkS h = 0
  · rw [hz]; rfl
  · rw [if_pos (by simpa using hz)]
theorem mo_code (h : List JC) (l : List JV) : (hMoS h l).2.2 = haskS h l := by
  unfold hMoS
  by_cases hz : haskS h l = 0
  · rw [hz]; rfl
  · rw [if_pos (by simpa using hz)]
theorem hal_codes (g : List JC) (a : JV) (h : List JC) (b : JV) : (halS g a h b = if (lhaV2 g a h b != 0) = true then (false, lhaV2 g a h b) else (halV0 g a h b, 0)) ∧ ((lhaV2 g a h b != 0) = false → haskS g [a] = 0 ∧ haskS h [b] = 0) := by
  unfold halS lhaV2 lhaV1 lhaV0
  rw [ask_nil, ask_nil, mo_code, mo_code]
  generalize hchkS g = p
  generalize hchkS h = q
  generalize haskS g [a] = u
  generalize haskS h [b] = w
  generalize halV0 g a h b = r
  by_cases hp : p = 0
  · subst hp
    by_cases hq : q = 0
    · subst hq
      by_cases hu : u = 0
      · subst hu
        by_cases hw : w = 0
        · subst hw; exact ⟨rfl, fun _ => ⟨rfl, rfl⟩⟩
        · simp [hw]
      · simp [hu]
    · simp [hq]
  · simp [hp]
def lhaP (g : List JC) (a : JV) (h : List JC) (b : JV) : Prop := DomS (.slice (.pair (.int .i64) (.pair (.slice (.str)) (.slice (.pair (.int .i64) (.pair (.int .i64) (.str))))))) g ∧ DomS (.pair (.int .i64) (.pair (.int .i64) (.str))) a ∧ DomS (.slice (.pair (.int .i64) (.pair (.slice (.str)) (.slice (.pair (.int .i64) (.pair (.int .i64) (.str))))))) h ∧ DomS (.pair (.int .i64) (.pair (.int .i64) (.str))) b
theorem lha_F (g : List JC) (a : JV) (h : List JC) (b : JV) (hp : lhaP g a h b) : lhaF g a h b (fun r => r = true) := by
  have hp0 : halP g a h b := ⟨⟨hp.1.1.1, fun c hc => ⟨(hp.1.1.2 c hc).2.1.1, (hp.1.1.2 c hc).2.2.1⟩⟩, ⟨hp.2.2.1.1.1, fun c hc => ⟨(hp.2.2.1.1.2 c hc).2.1.1, (hp.2.2.1.1.2 c hc).2.2.1⟩⟩⟩
  obtain ⟨hg, hh⟩ := hp0
  have hl : ∀ x : JV, [x].length ≤ maxLen := fun x => by rw [maxLen_eq]; simp
  have hl0 : ([] : List JV).length ≤ maxLen := Nat.zero_le _
  obtain ⟨hS, hz⟩ := hal_codes g a h b
  have j19 : lhaj19 g a h b (fun r => r = true) := by
    refine ⟨fun hc => ?_, fun hc => ?_⟩
    · rw [hS, if_t hc]; simp
    · obtain ⟨z1, z2⟩ := hz hc
      have m1 : hMoS g [a] = ((rmcS g [a]).1, (rmcS g [a]).2, 0) := (mo_ok (by rw [mo_code]; exact z1)).2.2
      have m2 : hMoS h [b] = ((rmcS h [b]).1, (rmcS h [b]).2, 0) := (mo_ok (by rw [mo_code]; exact z2)).2.2
      have j37 : lhaj37 g a h b (fun r => r = true) := by
        unfold lhaj37 lhaV3
        rw [hS, if_f hc]
        unfold halV0
        rw [m1, m2]
        cases hr : rscS (rmcS g [a]).1 (rmcS h [b]).1
        · have hr' : cefS (rmcS g [a]).1 (rmcS h [b]).1 (fun y0 y1 => hsmS y0 y1) = false := hr
          rw [if_f rfl]
          simp only [hr', Bool.false_and, beq_self_eq_true, Bool.and_true]
        · have hr' : cefS (rmcS g [a]).1 (rmcS h [b]).1 (fun y0 y1 => hsmS y0 y1) = true := hr
          rw [if_t rfl]
          simp only [hr', Bool.true_and, beq_self_eq_true, Bool.and_true]
      have c1 := mo_cells (mo_ok (l := [a]) (by rw [mo_code]; exact z1)).1 (mo_ok (by rw [mo_code]; exact z1)).2.1
      have c2 := mo_cells (mo_ok (l := [b]) (by rw [mo_code]; exact z2)).1 (mo_ok (by rw [mo_code]; exact z2)).2.1
      refine ⟨⟨z1, by simp⟩, ⟨z2, by simp⟩, ⟨c1.1, fun x hx y hy => ?_⟩, fun _ => ⟨by decide, by unfold rmcS; simp, by decide, by unfold rmcS; simp, fun _ => j37, fun _ => j37⟩, fun _ => ⟨fun _ => j37, fun _ => j37⟩⟩
      have q1 := c1.2 x hx
      have q2 := c2.2 y hy
      exact ⟨⟨by omega, by omega⟩, ⟨by omega, by omega⟩⟩
  have j13 : lhaj13 g a h b (fun r => r = true) := ⟨fun _ => ⟨⟨hh, hl b⟩, j19⟩, fun _ => j19⟩
  have j7 : lhaj7 g a h b (fun r => r = true) := ⟨fun _ => ⟨⟨hg, hl a⟩, j13⟩, fun _ => j13⟩
  exact ⟨⟨hg, hh⟩, ⟨hg, hl0⟩, fun _ => ⟨⟨hh, hl0⟩, j7⟩, fun _ => j7⟩
set_option linter.unusedVariables false in
theorem lha_c {g : Ghost} {axg_0 : Option Addr} {cxg_0 : Nat} (xg : List (Int × List (List UInt8) × List (Int × Int × List UInt8))) (xa : Int × Int × List UInt8) {axh_0 : Option Addr} {cxh_0 : Nat} (xh : List (Int × List (List UInt8) × List (Int × Int × List UInt8))) (xb : Int × Int × List UInt8) (hRxg_0 : Rep g (.slice (.pair (.int .i64) (.pair (.slice (.str)) (.slice (.pair (.int .i64) (.pair (.int .i64) (.str))))))) [.slice axg_0 xg.length cxg_0] xg) (hRxh_0 : Rep g (.slice (.pair (.int .i64) (.pair (.slice (.str)) (.slice (.pair (.int .i64) (.pair (.int .i64) (.str))))))) [.slice axh_0 xh.length cxh_0] xh)  (hp : lhaP xg xa xh xb) : CallsG Try.prog 3 #[.slice axg_0 xg.length cxg_0, .agg #[.int .i64 xa.1, .int .i64 xa.2.1, .string ⟨⟨xa.2.2⟩⟩], .slice axh_0 xh.length cxh_0, .agg #[.int .i64 xb.1, .int .i64 xb.2.1, .string ⟨⟨xb.2.2⟩⟩]] g (.bool ((fun _ _ _ _ => true) xg xa xh xb)) :=
  (lha_ok xg xa xh xb hRxg_0 hRxh_0 _ (lha_F xg xa xh xb hp)).gives (by rintro g' H' v _ ⟨r0, rfl, rfl, hK⟩; subst hK; rfl)
end Go.Proofs.Ytbifbljdmndjbaa.Hp
