/- Events: paths, steps, what is heard. -/
import Derived.Test.YtbifbljdmndjbaaDoorDob
import Derived.Test.YtbifbljdmndjbaaDoorFrk
import Derived.Test.YtbifbljdmndjbaaDoorTnl
import Derived.Test.YtbifbljdmndjbaaDoorVew
namespace Go.Proofs.YtbifbljdmndjbaaDoor.Ev
open Go Go.Eng Go.RowKit Do
set_option maxHeartbeats 4000000
set_option maxRecDepth 100000
set_option linter.unusedSimpArgs false
set_option linter.unusedVariables false
noncomputable section
theorem idxN_any {α : Type} (f : α → Bool) : ∀ (l : List α) (i : Nat), decide (idxN f l i ≥ 0) = l.any f
 | [], _ => rfl
 | x :: l, i => by
  rw [idxN, List.any_cons, ← idxN_any f l (i + 1)]
  cases f x
  ·rfl
  ·rw [if_t rfl, decide_eq_true (by omega)]; rfl

def ervl4b (K : (List (Int)) → Prop) (x2l4 : Int) (x3l4 : Int) (yown_xs_0l4 : List (Int)) (C4 : Int → Int → (List (Int)) → Prop) : Prop :=
 ((decide (x2l4 < x3l4)) = true → (0 : Int) ≤ x3l4 ∧ Int.toNat x3l4 < yown_xs_0l4.length ∧ (0 : Int) ≤ x2l4 ∧ Int.toNat x2l4 < yown_xs_0l4.length ∧ (0 : Int) ≤ x3l4 ∧ Int.toNat x3l4 < (yown_xs_0l4.set (Int.toNat x2l4) (yown_xs_0l4.getD (Int.toNat x3l4) default)).length ∧ C4 (w6 (x2l4 + 1)) (w6 (x3l4 - 1)) ((yown_xs_0l4.set (Int.toNat x2l4) (yown_xs_0l4.getD (Int.toNat x3l4) default)).set (Int.toNat x3l4) (yown_xs_0l4.getD (Int.toNat x2l4) default))) ∧ ((decide (x2l4 < x3l4)) = false → K yown_xs_0l4)
def ervl4 (K : (List (Int)) → Prop) : Nat → Int → Int → (List (Int)) → Prop
 | 0, _, _, _ => False
 | k + 1, x2l4, x3l4, yown_xs_0l4 => ervl4b K x2l4 x3l4 yown_xs_0l4 (ervl4 K k)
def ervF (xs : List (Int)) (K : (List (Int)) → Prop) : Prop :=
 ∃ k, ervl4 K k 0 (w6 ((xs.length : Int) - 1)) xs
theorem erv_ok {g : Ghost} {axs : Option Addr} {cxs : Nat} {xsxs : List Value} (xs : List (Int)) (hLxs : RepL g (.int .i64) xsxs xs) (K : (List (Int)) → Prop)
  (hF : ervF xs K) : CallsH Tryd.prog 12 #[.slice axs xs.length cxs] g [.own (.slice axs xs.length cxs) 3 1 xs.length xsxs] (fun g' H' v => ∃ (fxs : List (Int)), ∃ (xsfxs : List Value), v = .tuple #[] ∧ RepL g' (.int .i64) xsfxs fxs ∧ H' = [.own (.slice axs fxs.length cxs) 3 1 fxs.length xsfxs] ∧ fxs.length = xs.length ∧ K fxs) := by
 refine CallsH.enter 28 [(0, .slice axs xs.length cxs)] Tryd.func12 rfl (by kernel_rfl) (by kernel_rfl) (by kernel_rfl) fun w0 => ?_
 refine Ok.seq (Ok.region (Ok.batch 5 [(0, .slice axs xs.length cxs), (2, .int .i64 0), (3, .int .i64 (w6 ((xs.length : Int) - 1)))] (by kernel_rfl) (Ok.nil (Ok.thenN (Ok.block ?_)))))
 obtain ⟨k, hF⟩ := hF
 refine Ok.loop (fun k a W => ∃ gl4 : Ghost, Gext w0 g gl4 ∧ ∃ (x2l4 : Int) (x3l4 : Int) (yown_xs_0l4 : List (Int)) (xsyown_xs_0l4 : List Value), RepL gl4 (.int .i64) xsyown_xs_0l4 yown_xs_0l4 ∧ yown_xs_0l4.length = xs.length ∧ StA 28 [(0, .slice axs yown_xs_0l4.length cxs), (2, .int .i64 x2l4), (3, .int .i64 x3l4)] a ∧ StW w0 [.own (.slice axs yown_xs_0l4.length cxs) 3 1 yown_xs_0l4.length xsyown_xs_0l4] gl4 W ∧ ervl4 K k x2l4 x3l4 yown_xs_0l4) k ?_ ?_
 ·
  exact fun a W hA hW => ⟨g, (Gext.refl w0 g), 0, w6 ((xs.length : Int) - 1), xs, xsxs, hLxs, rfl, hA.sub (by kernel_rfl), hW, hF⟩
 ·
  clear hF
  rintro k4 a W ⟨gl4, hxl4, x2l4, x3l4, yown_xs_0l4, xsyown_xs_0l4, hLyown_xs_0l4, hnyown_xs_0l4, hA, hW, hF⟩
  cases k4 with
  | zero => exact (hF : False).elim
  | succ k4 =>
   refine (?_ : Ok _ _ _ _ _ _) a W hA hW
   clear hA hW
   refine Ok.seq (Ok.seq (Ok.region (Ok.bat 3 [0, 2, 3] [(9, .bool (decide (x2l4 < x3l4)))] ?_)))
   refine Ok.nil (Ok.thenN (Ok.cond (b := decide (x2l4 < x3l4)) rfl (fun hc1 => ?_) (fun hc1 => ?_)))
   ·replace hF := hF.1 hc1
    refine Ok.skip (Ok.thenN (Ok.seq (Ok.block (Ok.mix [0, 1, 4, 5, 6, 7, 8, 9, 10, 11, 12] [] [] [(0, true), (1, true), (2, true), (3, true), (4, true), (5, true), (6, true), (7, true), (8, true), (9, true), (10, true), (11, true), (12, true), (13, false), (14, false), (15, false)] (by kernel_rfl) (by kernel_rfl) (.cons _ .slnil) (OkM.bat 6 [0, 2, 3] [(14, .slice axs yown_xs_0l4.length cxs), (15, .int .i64 x2l4), (16, .slice axs yown_xs_0l4.length cxs), (17, .int .i64 x3l4), (18, .slice axs yown_xs_0l4.length cxs), (19, .int .i64 x3l4)] ?_)))))
    obtain ⟨h03, h13, hF⟩ := hF
    have he3 := get_of (l := yown_xs_0l4) (default : Int) h13
    generalize hg3 : (yown_xs_0l4.getD (Int.toNat x3l4) default) = e3 at he3 hF ⊢
    refine OkM.head rfl rfl (show _ = [.own (.slice axs yown_xs_0l4.length cxs) 3 1 yown_xs_0l4.length xsyown_xs_0l4] from rfl) (OpQ.indexOwn (e := .int .i64) (q := x3l4) (el := e3) 0 rfl hLyown_xs_0l4 rfl rfl Tryd.underlying28 (by kernel_rfl) (by kernel_rfl) h03 he3 rfl fun cs2 _ hr2 hc2 => ?_)
    obtain rfl := hr2
    replace hc2 : ∀ j v, ([.int .i64 e3] : List Value)[j]? = some v → xsyown_xs_0l4[Int.toNat x3l4 * 1 + j]? = some v := hc2
    refine OkM.head rfl rfl (show _ = [.own (.slice axs yown_xs_0l4.length cxs) 3 1 yown_xs_0l4.length xsyown_xs_0l4] from rfl) (OpQ.step (v := .int .i64 e3) (Yields.loadOwn 0 0 rfl hc2 rfl Tryd.underlying3 rfl (by kernel_rfl)) rfl rfl (OkM.bat 2 [0, 2, 3, 14, 15, 16, 17] [(21, .int .i64 e3), (22, .slice axs yown_xs_0l4.length cxs), (23, .int .i64 x2l4)] ?_))
    obtain ⟨h05, h15, hF⟩ := hF
    have he5 := get_of (l := yown_xs_0l4) (default : Int) h15
    generalize hg5 : (yown_xs_0l4.getD (Int.toNat x2l4) default) = e5 at he5 hF ⊢
    refine OkM.head rfl rfl (show _ = [.own (.slice axs yown_xs_0l4.length cxs) 3 1 yown_xs_0l4.length xsyown_xs_0l4] from rfl) (OpQ.indexOwn (e := .int .i64) (q := x2l4) (el := e5) 0 rfl hLyown_xs_0l4 rfl rfl Tryd.underlying28 (by kernel_rfl) (by kernel_rfl) h05 he5 rfl fun cs4 _ hr4 hc4 => ?_)
    obtain rfl := hr4
    replace hc4 : ∀ j v, ([.int .i64 e5] : List Value)[j]? = some v → xsyown_xs_0l4[Int.toNat x2l4 * 1 + j]? = some v := hc4
    refine OkM.head rfl rfl (show _ = [.own (.slice axs yown_xs_0l4.length cxs) 3 1 yown_xs_0l4.length xsyown_xs_0l4] from rfl) (OpQ.step (v := .int .i64 e5) (Yields.loadOwn 0 0 rfl hc4 rfl Tryd.underlying3 rfl (by kernel_rfl)) rfl rfl (OkM.head rfl rfl (show _ = [.own (.slice axs yown_xs_0l4.length cxs) 3 1 yown_xs_0l4.length xsyown_xs_0l4] from rfl) (OpQ.indexOwn (e := .int .i64) (q := x2l4) (el := e5) 0 rfl hLyown_xs_0l4 rfl rfl Tryd.underlying28 (by kernel_rfl) (by kernel_rfl) h05 he5 rfl fun cs6 _ hr6 hc6 => ?_)))
    obtain rfl := hr6
    replace hc6 : ∀ j v, ([.int .i64 e5] : List Value)[j]? = some v → xsyown_xs_0l4[Int.toNat x2l4 * 1 + j]? = some v := hc6
    refine OkM.tail rfl rfl (OpOk.storeOwn (e := .int .i64) (q := Int.toNat x2l4) (cells := [.int .i64 e5]) (vs := [.int .i64 e3]) (el' := e3) 0 0 1 rfl hLyown_xs_0l4 hc6 (by kernel_rfl) rfl rfl rfl (by kernel_rfl) (by kernel_rfl) (by kernel_rfl) (by kernel_rfl) (by kernel_rfl) (show Rep _ _ [.int .i64 e3] _ from rfl) fun xs7 hL7 => ?_)
    rw [show yown_xs_0l4.length = (yown_xs_0l4.set (Int.toNat x2l4) e3).length from (List.length_set ..).symm]
    refine OkM.leaf (i := 13) (show _ = [] from rfl) (Gle.refl _) (.cons _ .slnil) ?_
    obtain ⟨h09, h19, hF⟩ := hF
    have he9 := get_of (l := (yown_xs_0l4.set (Int.toNat x2l4) e3)) (default : Int) h19
    generalize hg9 : ((yown_xs_0l4.set (Int.toNat x2l4) e3).getD (Int.toNat x3l4) default) = e9 at he9 hF ⊢
    refine OkM.tail rfl rfl (OpOk.indexOwn (e := .int .i64) (q := x3l4) (el := e9) 0 rfl hL7 rfl rfl Tryd.underlying28 (by kernel_rfl) (by kernel_rfl) h09 he9 rfl fun cs8 _ hr8 hc8 => ?_)
    obtain rfl := hr8
    replace hc8 : ∀ j v, ([.int .i64 e9] : List Value)[j]? = some v → xs7[Int.toNat x3l4 * 1 + j]? = some v := hc8
    refine OkM.leaf (i := 14) (show _ = [] from rfl) (Gle.refl _) (.cons _ .slnil) (OkM.tail rfl rfl (OpOk.storeOwn (e := .int .i64) (q := Int.toNat x3l4) (cells := [.int .i64 e9]) (vs := [.int .i64 e5]) (el' := e5) 0 0 1 rfl hL7 hc8 (by kernel_rfl) rfl rfl rfl (by kernel_rfl) (by kernel_rfl) (by kernel_rfl) (by kernel_rfl) (by kernel_rfl) (show Rep _ _ [.int .i64 e5] _ from rfl) fun xs10 hL10 => ?_))
    rw [show (yown_xs_0l4.set (Int.toNat x2l4) e3).length = ((yown_xs_0l4.set (Int.toNat x2l4) e3).set (Int.toNat x3l4) e5).length from (List.length_set ..).symm]
    refine OkM.leaf (i := 15) (show _ = [] from rfl) (Gle.refl _) (.cons _ .slnil) (OkM.nil (Ok.blockN (Ok.thenN (Ok.region (Ok.batch 6 [(0, .slice axs ((yown_xs_0l4.set (Int.toNat x2l4) e3).set (Int.toNat x3l4) e5).length cxs), (2, .int .i64 (w6 (x2l4 + 1))), (3, .int .i64 (w6 (x3l4 - 1)))] (by kernel_rfl) (Ok.nil (Ok.thenN ?_)))))))
    subst hg9
    subst hg5
    subst hg3
    exact fun a W hA hW => ⟨k4, Nat.lt_succ_self _, gl4, hxl4, w6 (x2l4 + 1), w6 (x3l4 - 1), ((yown_xs_0l4.set (Int.toNat x2l4) (yown_xs_0l4.getD (Int.toNat x3l4) default)).set (Int.toNat x3l4) (yown_xs_0l4.getD (Int.toNat x2l4) default)), xs10, hL10, (by simp only [List.length_set, hnyown_xs_0l4]), hA.sub (by kernel_rfl), hW, hF⟩
   ·replace hF := hF.2 hc1
    refine Ok.exit (Ok.thenE (Ok.thenE (Ok.blockHit ?_)))
    exact Ok.resH (vs := []) (.inr rfl) rfl .nil hxl4 ⟨yown_xs_0l4, xsyown_xs_0l4, rfl, hLyown_xs_0l4, rfl, hnyown_xs_0l4, hF⟩
def ervS (l : List (Int)) : List (Int) := l.reverse
def ervP (l : List (Int)) : Prop := l.length ≤ 1000000
theorem erv_F (l : List (Int)) (hp : ervP l) : ervF l (fun r => r = ervS l) := by
 unfold ervP at hp
 unfold ervS
 have loop : ∀ (k i : Nat) (x : List (Int)), l.length ≤ 2 * i + k → 2 * i ≤ l.length + 1 → x.length = l.length → (∀ m, m < l.length → x[m]? = if m < i ∨ l.length ≤ m + i then l[l.length - 1 - m]? else l[m]?) → ervl4 (fun r => r = l.reverse) (k + 1) (i : Int) ((l.length : Int) - 1 - (i : Int)) x := by
  have done : ∀ (i : Nat) (x : List (Int)), ¬ (i : Int) < (l.length : Int) - 1 - (i : Int) → x.length = l.length → (∀ m, m < l.length → x[m]? = if m < i ∨ l.length ≤ m + i then l[l.length - 1 - m]? else l[m]?) → x = l.reverse := by
   intro i x hn hx hm
   refine List.ext_getElem? fun m => ?_
   by_cases h : m < l.length
   ·rw [List.getElem?_reverse h, hm m h]
    split
    ·rfl
    ·have : m = l.length - 1 - m := by omega
     rw [← this]
   ·rw [List.getElem?_eq_none (by omega), List.getElem?_eq_none (by rw [List.length_reverse]; omega)]
  intro k
  induction k with
  | zero =>
   intro i x h1 h2 hx hm
   exact ⟨fun h => by have := of_decide_eq_true h; omega, fun h => done i x (of_decide_eq_false h) hx hm⟩
  | succ k ih =>
   intro i x h1 h2 hx hm
   refine ⟨fun h => ?_, fun h => done i x (of_decide_eq_false h) hx hm⟩
   have h := of_decide_eq_true h
   have e : ((l.length : Int) - 1 - (i : Int)).toNat = l.length - 1 - i := by omega
   rw [Int.toNat_natCast, e]
   refine ⟨by omega, by omega, by omega, by omega, by omega, by rw [List.length_set]; omega, ?_⟩
   rw [w64 (by omega), w64 (by omega)]
   have := ih (i + 1) ((x.set i (x.getD (l.length - 1 - i) default)).set (l.length - 1 - i) (x.getD i default)) (by omega) (by omega) (by rw [List.length_set, List.length_set]; exact hx) (fun m hml => ?_)
   ·rw [show (l.length : Int) - 1 - ((i + 1 : Nat) : Int) = (l.length : Int) - 1 - (i : Int) - 1 by omega] at this
    exact this
   ·rw [List.getElem?_set, List.getElem?_set]
    by_cases q1 : l.length - 1 - i = m
    ·subst q1
     rw [if_pos rfl, if_pos (by rw [List.length_set]; omega), if_pos (by omega)]
     have := hm i (by omega)
     rw [if_neg (by omega)] at this
     rw [List.getD_eq_getElem?_getD, this, show l.length - 1 - (l.length - 1 - i) = i by omega, List.getElem?_eq_getElem (by omega), Option.getD_some]
    ·rw [if_neg q1]
     by_cases q2 : i = m
     ·subst q2
      rw [if_pos rfl, if_pos (by omega), if_pos (by omega)]
      have := hm (l.length - 1 - i) (by omega)
      rw [if_neg (by omega)] at this
      rw [List.getD_eq_getElem?_getD, this, List.getElem?_eq_getElem (by omega), Option.getD_some]
     ·rw [if_neg q2, hm m hml]
      by_cases q3 : m < i ∨ l.length ≤ m + i
      ·rw [if_pos q3, if_pos (by omega)]
      ·rw [if_neg q3, if_neg (by omega)]
 refine ⟨l.length + 1, ?_⟩
 rw [w64 (by omega)]
 have := loop l.length 0 l (by omega) (by omega) rfl (fun m h => by rw [if_neg (by omega)])
 rw [show (l.length : Int) - 1 - ((0 : Nat) : Int) = (l.length : Int) - 1 by omega] at this
 exact this
theorem erv_c {g : Ghost} {axs : Option Addr} {cxs : Nat} {xsxs : List Value} (xs : List (Int)) (hLxs : RepL g (.int .i64) xsxs xs)  (hp : ervP xs) : CallsH Tryd.prog 12 #[.slice axs xs.length cxs] g [.own (.slice axs xs.length cxs) 3 1 xs.length xsxs] (fun g' H' v => ∃ (xsfxs : List Value), v = .tuple #[] ∧ RepL g' (.int .i64) xsfxs (ervS xs) ∧ H' = [.own (.slice axs (ervS xs).length cxs) 3 1 (ervS xs).length xsfxs] ∧ (ervS xs).length = xs.length) :=
 (erv_ok xs hLxs _ (erv_F xs hp)).mono (by rintro g' H' v _ ⟨fxs, xsfxs, rfl, hLfxs, rfl, hlen0, hK⟩; subst hK; exact ⟨xsfxs, rfl, hLfxs, rfl, hlen0⟩)

def eixl7b (xs : List (Int)) (xv : Int) (K : Int → Prop) (x8l7 : Int) (C7 : Int → Prop) : Prop :=
 ((decide (x8l7 < (xs.length : Int))) = true → (0 : Int) ≤ x8l7 ∧ Int.toNat x8l7 < xs.length ∧ (((xv == (xs.getD (Int.toNat x8l7) default))) = true → K x8l7) ∧ (((xv == (xs.getD (Int.toNat x8l7) default))) = false → C7 (w6 (x8l7 + 1)))) ∧ ((decide (x8l7 < (xs.length : Int))) = false → K (-1))
def eixl7 (xs : List (Int)) (xv : Int) (K : Int → Prop) : Nat → Int → Prop
 | 0, _ => False
 | k + 1, x8l7 => eixl7b xs xv K x8l7 (eixl7 xs xv K k)
def eixF (xs : List (Int)) (xv : Int) (K : Int → Prop) : Prop :=
 ∃ k, eixl7 xs xv K k 0
theorem eix_ok {g : Ghost} {axs_0 : Option Addr} {cxs_0 : Nat} (xs : List (Int)) (xv : Int) (hRxs_0 : Rep g (.slice (.int .i64)) [.slice axs_0 xs.length cxs_0] xs) (K : Int → Prop)
  (hF : eixF xs xv K) : CallsH Tryd.prog 29 #[.slice axs_0 xs.length cxs_0, .int .i64 xv] g [] (fun g' H' v => ∃ (r0 : Int), v = .int .i64 r0 ∧ H' = [] ∧ K r0) := by
 refine CallsH.enter 19 [(0, .slice axs_0 xs.length cxs_0), (1, .int .i64 xv)] Tryd.func29 rfl (by kernel_rfl) (by kernel_rfl) (by kernel_rfl) fun w0 => ?_
 refine Ok.seq (Ok.region (Ok.batch 1 [(0, .slice axs_0 xs.length cxs_0), (1, .int .i64 xv)] (by kernel_rfl) (Ok.nil (Ok.thenN (Ok.seq (Ok.seq (Ok.region (Ok.bat 3 [0, 1] [(7, .int .i64 (xs.length : Int)), (8, .int .i64 0)] ?_))))))))
 refine Ok.nil (Ok.thenN (Ok.block ?_))
 obtain ⟨k, hF⟩ := hF
 refine Ok.loop (fun k a W => ∃ (x8l7 : Int), StA 19 [(0, .slice axs_0 xs.length cxs_0), (1, .int .i64 xv), (7, .int .i64 (xs.length : Int)), (8, .int .i64 x8l7)] a ∧ StW w0 [] g W ∧ eixl7 xs xv K k x8l7) k ?_ ?_
 ·
  exact fun a W hA hW => ⟨0, hA.sub (by kernel_rfl), hW, hF⟩
 ·
  clear hF
  rintro k7 a W ⟨x8l7, hA, hW, hF⟩
  cases k7 with
  | zero => exact (hF : False).elim
  | succ k7 =>
   refine (?_ : Ok _ _ _ _ _ _) a W hA hW
   clear hA hW
   refine Ok.seq (Ok.region (Ok.bat 1 [0, 1, 7, 8] [(9, .bool (decide (x8l7 < (xs.length : Int))))] ?_))
   refine Ok.nil (Ok.thenN (Ok.seq (Ok.cond (b := decide (x8l7 < (xs.length : Int))) rfl (fun hc1 => ?_) (fun hc1 => ?_))))
   ·replace hF := hF.1 hc1
    refine Ok.skip (Ok.thenN (Ok.seq (Ok.block (Ok.seq (Ok.region (Ok.bat 2 [0, 1, 7, 8] [(5, .int .i64 x8l7)] ?_))))))
    refine Ok.nil (Ok.thenN (Ok.seq (Ok.region (Ok.bat 3 [0, 1, 5, 7, 8] [(11, .int .i64 xv), (12, .slice axs_0 xs.length cxs_0), (13, .int .i64 x8l7)] ?_))))
    obtain ⟨h03, h13, hF⟩ := hF
    have he3 := get_of (l := xs) (default : Int) h13
    generalize hg3 : (xs.getD (Int.toNat x8l7) default) = e3 at he3 hF ⊢
    refine Ok.op rfl (OpOk.indexRo (e := .int .i64) (i := x8l7) (el := e3) rfl rfl Tryd.underlying28 (by kernel_rfl) hRxs_0 h03 he3 rfl fun q2 o2 cs2 _ hat2 hr2 => ?_)
    obtain rfl := hr2
    replace hat2 : At g q2 o2 [.int .i64 e3] := hat2
    refine Ok.op rfl (OpOk.step (v := .int .i64 e3) (Yields.loadRo 0 hat2 (by kernel_rfl) Tryd.underlying3 rfl (by kernel_rfl)) rfl rfl (Ok.bat 1 [0, 1, 5, 7, 8] [(16, .bool (xv == e3))] ?_))
    refine Ok.nil (Ok.thenN (Ok.cond (b := (xv == e3)) rfl (fun hc4 => ?_) (fun hc4 => ?_)))
    ·replace hF := hF.1 hc4
     refine Ok.seq (Ok.region (Ok.batch 2 [(4, .int .i64 x8l7)] (by kernel_rfl) (Ok.nil (Ok.thenN (Ok.ret (Ok.blockR (Ok.thenR (Ok.thenR (Ok.blockR (Ok.thenR ?_))))))))))
     exact Ok.resH (vs := [.int .i64 x8l7]) (.inl rfl) rfl (.cons (.tmp rfl) .nil) (Gext.refl w0 g) ⟨x8l7, rfl, rfl, hF⟩
    ·replace hF := hF.2 hc4
     refine Ok.skip (Ok.blockN (Ok.thenN (Ok.region (Ok.bat 2 [0, 1, 7] [(8, .int .i64 (w6 (x8l7 + 1)))] ?_))))
     refine Ok.nil (Ok.thenN ?_)
     subst hg3
     exact fun a W hA hW => ⟨k7, Nat.lt_succ_self _, w6 (x8l7 + 1), hA.sub (by kernel_rfl), hW, hF⟩
   ·replace hF := hF.2 hc1
    refine Ok.exit (Ok.thenE (Ok.thenE (Ok.blockHit (Ok.thenN (Ok.seq (Ok.region (Ok.batch 1 [(4, .int .i64 (-1))] (by kernel_rfl) (Ok.nil (Ok.thenN (Ok.ret ?_))))))))))
    exact Ok.resH (vs := [.int .i64 (-1)]) (.inl rfl) rfl (.cons (.tmp rfl) .nil) (Gext.refl w0 g) ⟨(-1), rfl, rfl, hF⟩
def eixS (l : List (Int)) (v : Int) : Int := idxN (fun x => v == x) l 0
def eixP (l : List (Int)) (_ : Int) : Prop := l.length ≤ 1000000
theorem eix_F (l : List (Int)) (v : Int) (hp : eixP l v) : eixF l v (fun r => r = eixS l v) := by
 unfold eixP at hp
 have loop : ∀ (k i : Nat), i + k = l.length → eixS l v = idxN (fun x => v == x) (l.drop i) i → eixl7 l v (fun r => r = eixS l v) (k + 1) (i : Int) := by
  intro k
  induction k with
  | zero =>
   intro i h h2
   rw [List.drop_of_length_le (by omega)] at h2
   exact ⟨fun h => by have := of_decide_eq_true h; omega, fun _ => h2.symm⟩
  | succ k ih =>
   intro i h h2
   rw [drop_get (l := l) default (by omega), idxN] at h2
   refine ⟨fun _ => ⟨by omega, by rw [Int.toNat_natCast]; omega, fun hc => ?_, fun hc => ?_⟩, fun h => by have := of_decide_eq_false h; omega⟩
   ·rw [Int.toNat_natCast] at hc
    rw [h2, if_t hc]
   ·rw [Int.toNat_natCast] at hc
    rw [if_f hc] at h2
    rw [w64 (by omega)]
    exact ih (i + 1) (by omega) h2
 exact ⟨_, loop l.length 0 (by omega) rfl⟩
theorem eix_c {g : Ghost} {axs_0 : Option Addr} {cxs_0 : Nat} (xs : List (Int)) (xv : Int) (hRxs_0 : Rep g (.slice (.int .i64)) [.slice axs_0 xs.length cxs_0] xs)  (hp : eixP xs xv) : CallsG Tryd.prog 29 #[.slice axs_0 xs.length cxs_0, .int .i64 xv] g (.int .i64 (eixS xs xv)) :=
 (eix_ok xs xv hRxs_0 _ (eix_F xs xv hp)).gives (by rintro g' H' v _ ⟨r0, rfl, rfl, hK⟩; subst hK; rfl)

def ecoF (xs : List (Int)) (xv : Int) (K : Bool → Prop) : Prop :=
 eixP xs xv ∧ K (decide ((eixS xs xv) ≥ 0))
theorem eco_ok {g : Ghost} {axs_0 : Option Addr} {cxs_0 : Nat} (xs : List (Int)) (xv : Int) (hRxs_0 : Rep g (.slice (.int .i64)) [.slice axs_0 xs.length cxs_0] xs) (K : Bool → Prop)
  (hF : ecoF xs xv K) : CallsH Tryd.prog 20 #[.slice axs_0 xs.length cxs_0, .int .i64 xv] g [] (fun g' H' v => ∃ (r0 : Bool), v = .bool r0 ∧ H' = [] ∧ K r0) := by
 refine CallsH.enter 9 [(0, .slice axs_0 xs.length cxs_0), (1, .int .i64 xv)] Tryd.func20 rfl (by kernel_rfl) (by kernel_rfl) (by kernel_rfl) fun w0 => ?_
 refine Ok.seq (Ok.region (Ok.batch 1 [(0, .slice axs_0 xs.length cxs_0), (1, .int .i64 xv)] (by kernel_rfl) (Ok.nil (Ok.thenN (Ok.seq (Ok.region (Ok.batch 2 [(5, .slice axs_0 xs.length cxs_0), (6, .int .i64 xv)] (by kernel_rfl) ?_)))))))
 obtain ⟨hp1, hF⟩ := hF
 refine Ok.op rfl (OpOk.callG (v := .int .i64 (eixS xs xv)) enr (fun W hW => eix_c xs xv (hRxs_0.mono hW.sees) hp1) rfl ?_)
 refine Ok.batch 2 [(4, .bool (decide ((eixS xs xv) ≥ 0)))] (by kernel_rfl) (Ok.nil (Ok.thenN (Ok.ret ?_)))
 exact Ok.resH (vs := [.bool (decide ((eixS xs xv) ≥ 0))]) (.inl rfl) rfl (.cons (.tmp rfl) .nil) (Gext.refl w0 g) ⟨(decide ((eixS xs xv) ≥ 0)), rfl, rfl, hF⟩
def ecoS (l : List (Int)) (v : Int) : Bool := l.any fun x => v == x
def ecoP (l : List (Int)) (_ : Int) : Prop := l.length ≤ 1000000
theorem eco_F (l : List (Int)) (v : Int) (hp : ecoP l v) : ecoF l v (fun r => r = ecoS l v) := ⟨hp, idxN_any _ l 0⟩
theorem eco_c {g : Ghost} {axs_0 : Option Addr} {cxs_0 : Nat} (xs : List (Int)) (xv : Int) (hRxs_0 : Rep g (.slice (.int .i64)) [.slice axs_0 xs.length cxs_0] xs)  (hp : ecoP xs xv) : CallsG Tryd.prog 20 #[.slice axs_0 xs.length cxs_0, .int .i64 xv] g (.bool (ecoS xs xv)) :=
 (eco_ok xs xv hRxs_0 _ (eco_F xs xv hp)).gives (by rintro g' H' v _ ⟨r0, rfl, rfl, hK⟩; subst hK; rfl)
theorem eco_iff (l : List (Int)) (v : Int) : ecoS l v = true ↔ v ∈ l := by
 unfold ecoS
 rw [List.any_eq_true]
 constructor
 ·rintro ⟨x, hx, h⟩
  rw [eq_of_beq h]; exact hx
 ·intro h
  exact ⟨v, h, beq_self_eq_true v⟩

def eeql15b (xs1 : List (Int)) (xs2 : List (Int)) (K : Bool → Prop) (x13l15 : Int) (C15 : Int → Prop) : Prop :=
 ((decide (x13l15 < (xs1.length : Int))) = true → (0 : Int) ≤ x13l15 ∧ Int.toNat x13l15 < xs1.length ∧ (0 : Int) ≤ x13l15 ∧ Int.toNat x13l15 < xs2.length ∧ ((((xs1.getD (Int.toNat x13l15) default) != (xs2.getD (Int.toNat x13l15) default))) = true → K false) ∧ ((((xs1.getD (Int.toNat x13l15) default) != (xs2.getD (Int.toNat x13l15) default))) = false → C15 (w6 (x13l15 + 1)))) ∧ ((decide (x13l15 < (xs1.length : Int))) = false → K true)
def eeql15 (xs1 : List (Int)) (xs2 : List (Int)) (K : Bool → Prop) : Nat → Int → Prop
 | 0, _ => False
 | k + 1, x13l15 => eeql15b xs1 xs2 K x13l15 (eeql15 xs1 xs2 K k)
def eeqF (xs1 : List (Int)) (xs2 : List (Int)) (K : Bool → Prop) : Prop :=
 ((((xs1.length : Int) != (xs2.length : Int))) = true → K false) ∧ ((((xs1.length : Int) != (xs2.length : Int))) = false → ∃ k, eeql15 xs1 xs2 K k 0)
theorem eeq_ok {g : Ghost} {axs1_0 : Option Addr} {cxs1_0 : Nat} (xs1 : List (Int)) {axs2_0 : Option Addr} {cxs2_0 : Nat} (xs2 : List (Int)) (hRxs1_0 : Rep g (.slice (.int .i64)) [.slice axs1_0 xs1.length cxs1_0] xs1) (hRxs2_0 : Rep g (.slice (.int .i64)) [.slice axs2_0 xs2.length cxs2_0] xs2) (K : Bool → Prop)
  (hF : eeqF xs1 xs2 K) : CallsH Tryd.prog 7 #[.slice axs1_0 xs1.length cxs1_0, .slice axs2_0 xs2.length cxs2_0] g [] (fun g' H' v => ∃ (r0 : Bool), v = .bool r0 ∧ H' = [] ∧ K r0) := by
 refine CallsH.enter 26 [(0, .slice axs1_0 xs1.length cxs1_0), (1, .slice axs2_0 xs2.length cxs2_0)] Tryd.func7 rfl (by kernel_rfl) (by kernel_rfl) (by kernel_rfl) fun w0 => ?_
 refine Ok.seq (Ok.region (Ok.batch 1 [(0, .slice axs1_0 xs1.length cxs1_0), (1, .slice axs2_0 xs2.length cxs2_0)] (by kernel_rfl) (Ok.nil (Ok.thenN (Ok.seq (Ok.seq (Ok.region (Ok.bat 5 [0, 1] [(10, .bool ((xs1.length : Int) != (xs2.length : Int)))] ?_))))))))
 refine Ok.nil (Ok.thenN (Ok.cond (b := ((xs1.length : Int) != (xs2.length : Int))) rfl (fun hc1 => ?_) (fun hc1 => ?_)))
 ·replace hF := hF.1 hc1
  refine Ok.seq (Ok.region (Ok.batch 1 [(4, .bool false)] (by kernel_rfl) (Ok.nil (Ok.thenN (Ok.ret (Ok.thenR ?_))))))
  exact Ok.resH (vs := [.bool false]) (.inl rfl) rfl (.cons (.tmp rfl) .nil) (Gext.refl w0 g) ⟨false, rfl, rfl, hF⟩
 ·replace hF := hF.2 hc1
  refine Ok.skip (Ok.thenN (Ok.seq (Ok.seq (Ok.region (Ok.bat 3 [0, 1] [(12, .int .i64 (xs1.length : Int)), (13, .int .i64 0)] ?_)))))
  refine Ok.nil (Ok.thenN (Ok.block ?_))
  obtain ⟨k, hF⟩ := hF
  refine Ok.loop (fun k a W => ∃ (x13l15 : Int), StA 26 [(0, .slice axs1_0 xs1.length cxs1_0), (1, .slice axs2_0 xs2.length cxs2_0), (12, .int .i64 (xs1.length : Int)), (13, .int .i64 x13l15)] a ∧ StW w0 [] g W ∧ eeql15 xs1 xs2 K k x13l15) k ?_ ?_
  ·
   exact fun a W hA hW => ⟨0, hA.sub (by kernel_rfl), hW, hF⟩
  ·
   clear hF
   rintro k15 a W ⟨x13l15, hA, hW, hF⟩
   cases k15 with
   | zero => exact (hF : False).elim
   | succ k15 =>
    refine (?_ : Ok _ _ _ _ _ _) a W hA hW
    clear hA hW
    refine Ok.seq (Ok.region (Ok.bat 1 [0, 1, 12, 13] [(14, .bool (decide (x13l15 < (xs1.length : Int))))] ?_))
    refine Ok.nil (Ok.thenN (Ok.seq (Ok.cond (b := decide (x13l15 < (xs1.length : Int))) rfl (fun hc2 => ?_) (fun hc2 => ?_))))
    ·replace hF := hF.1 hc2
     refine Ok.skip (Ok.thenN (Ok.seq (Ok.block (Ok.seq (Ok.region (Ok.bat 2 [0, 1, 12, 13] [(5, .int .i64 x13l15)] ?_))))))
     refine Ok.nil (Ok.thenN (Ok.seq (Ok.quiet' (by kernel_rfl) (by kernel_rfl) (OkQ.bat 2 [0, 1, 5, 12, 13] [(16, .slice axs1_0 xs1.length cxs1_0), (17, .int .i64 x13l15)] ?_))))
     obtain ⟨h04, h14, hF⟩ := hF
     have he4 := get_of (l := xs1) (default : Int) h14
     generalize hg4 : (xs1.getD (Int.toNat x13l15) default) = e4 at he4 hF ⊢
     refine OkQ.op rfl (OpQ.indexRo (e := .int .i64) (i := x13l15) (el := e4) rfl rfl Tryd.underlying28 (by kernel_rfl) hRxs1_0 h04 he4 rfl fun q3 o3 cs3 _ hat3 hr3 => ?_)
     obtain rfl := hr3
     replace hat3 : At g q3 o3 [.int .i64 e4] := hat3
     refine OkQ.op rfl (OpQ.step (v := .int .i64 e4) (Yields.loadRo 0 hat3 (by kernel_rfl) Tryd.underlying3 rfl (by kernel_rfl)) rfl rfl (OkQ.bat 2 [0, 1, 12, 13] [(19, .int .i64 e4), (20, .slice axs2_0 xs2.length cxs2_0), (21, .int .i64 x13l15)] ?_))
     obtain ⟨h06, h16, hF⟩ := hF
     have he6 := get_of (l := xs2) (default : Int) h16
     generalize hg6 : (xs2.getD (Int.toNat x13l15) default) = e6 at he6 hF ⊢
     refine OkQ.op rfl (OpQ.indexRo (e := .int .i64) (i := x13l15) (el := e6) rfl rfl Tryd.underlying28 (by kernel_rfl) hRxs2_0 h06 he6 rfl fun q5 o5 cs5 _ hat5 hr5 => ?_)
     obtain rfl := hr5
     replace hat5 : At g q5 o5 [.int .i64 e6] := hat5
     refine OkQ.op rfl (OpQ.step (v := .int .i64 e6) (Yields.loadRo 0 hat5 (by kernel_rfl) Tryd.underlying3 rfl (by kernel_rfl)) rfl rfl (OkQ.bat 1 [0, 1, 12, 13] [(24, .bool (e4 != e6))] ?_))
     refine OkQ.nil (Ok.thenN (Ok.cond (b := (e4 != e6)) rfl (fun hc7 => ?_) (fun hc7 => ?_)))
     ·replace hF := hF.1 hc7
      refine Ok.seq (Ok.region (Ok.batch 1 [(4, .bool false)] (by kernel_rfl) (Ok.nil (Ok.thenN (Ok.ret (Ok.blockR (Ok.thenR (Ok.thenR (Ok.blockR (Ok.thenR ?_))))))))))
      exact Ok.resH (vs := [.bool false]) (.inl rfl) rfl (.cons (.tmp rfl) .nil) (Gext.refl w0 g) ⟨false, rfl, rfl, hF⟩
     ·replace hF := hF.2 hc7
      refine Ok.skip (Ok.blockN (Ok.thenN (Ok.region (Ok.bat 2 [0, 1, 12] [(13, .int .i64 (w6 (x13l15 + 1)))] ?_))))
      refine Ok.nil (Ok.thenN ?_)
      subst hg6
      subst hg4
      exact fun a W hA hW => ⟨k15, Nat.lt_succ_self _, w6 (x13l15 + 1), hA.sub (by kernel_rfl), hW, hF⟩
    ·replace hF := hF.2 hc2
     refine Ok.exit (Ok.thenE (Ok.thenE (Ok.blockHit (Ok.thenN (Ok.seq (Ok.region (Ok.batch 1 [(4, .bool true)] (by kernel_rfl) (Ok.nil (Ok.thenN (Ok.ret ?_))))))))))
     exact Ok.resH (vs := [.bool true]) (.inl rfl) rfl (.cons (.tmp rfl) .nil) (Gext.refl w0 g) ⟨true, rfl, rfl, hF⟩
def eeqS (a b : List (Int)) : Bool := a == b
def eeqP (a b : List (Int)) : Prop := a.length ≤ 1000000 ∧ b.length ≤ 1000000
theorem eeq_F (p q : List (Int)) (hp : eeqP p q) : eeqF p q (fun r => r = eeqS p q) := by
 obtain ⟨hp1, hp2⟩ := hp
 unfold eeqS
 refine ⟨fun h => ?_, fun h => ?_⟩
 ·have h : p.length ≠ q.length := by rw [bne_iff_ne] at h; omega
  have : (p == q) = false := by
   rw [beq_eq_false_iff_ne]
   intro h2; exact h (congrArg List.length h2)
  rw [this]
 ·have hlen : p.length = q.length := by
   rw [bne_eq_false_iff_eq] at h; omega
  have loop : ∀ (k i : Nat), i + k = p.length → (p == q) = (p.drop i == q.drop i) → eeql15 p q (fun r => r = (p == q)) (k + 1) (i : Int) := by
   intro k
   induction k with
   | zero =>
    intro i h1 he
    rw [List.drop_of_length_le (by omega), List.drop_of_length_le (by omega)] at he
    exact ⟨fun h => by have := of_decide_eq_true h; omega, fun _ => by rw [he]; rfl⟩
   | succ k ih =>
    intro i h1 he
    have hi : i < p.length := by omega
    rw [drop_get (l := p) default hi, drop_get (l := q) default (by omega)] at he
    refine ⟨fun _ => ?_, fun h => by have := of_decide_eq_false h; omega⟩
    rw [Int.toNat_natCast]
    refine ⟨by omega, by omega, by omega, by omega, fun h => ?_, fun h => ?_⟩
    ·have h : (p.getD i default == q.getD i default) = false := by rw [bne, Bool.not_eq_true'] at h; exact h
     rw [he, List.cons_beq_cons, h]; rfl
    ·have h : (p.getD i default == q.getD i default) = true := by rw [bne, Bool.not_eq_false'] at h; exact h
     rw [w64 (by omega)]
     refine ih (i + 1) (by omega) ?_
     rw [he, List.cons_beq_cons, h]; rfl
  exact ⟨_, loop p.length 0 (by omega) rfl⟩
theorem eeq_c {g : Ghost} {axs1_0 : Option Addr} {cxs1_0 : Nat} (xs1 : List (Int)) {axs2_0 : Option Addr} {cxs2_0 : Nat} (xs2 : List (Int)) (hRxs1_0 : Rep g (.slice (.int .i64)) [.slice axs1_0 xs1.length cxs1_0] xs1) (hRxs2_0 : Rep g (.slice (.int .i64)) [.slice axs2_0 xs2.length cxs2_0] xs2)  (hp : eeqP xs1 xs2) : CallsG Tryd.prog 7 #[.slice axs1_0 xs1.length cxs1_0, .slice axs2_0 xs2.length cxs2_0] g (.bool (eeqS xs1 xs2)) :=
 (eeq_ok xs1 xs2 hRxs1_0 hRxs2_0 _ (eeq_F xs1 xs2 hp)).gives (by rintro g' H' v _ ⟨r0, rfl, rfl, hK⟩; subst hK; rfl)

/-! the chain of parents ends -/
def Ends (l : List ND) : Nat → Int → Prop
 | 0, n => n < 0
 | k + 1, n => n < 0 ∨ n < (l.length : Int) ∧ Ends l k (par l n.toNat)
theorem Ends.mono {l : List ND} : ∀ {k k' : Nat} {n : Int}, Ends l k n → k ≤ k' → Ends l k' n
 | 0, 0, _, h, _ => h
 | 0, _ + 1, _, h, _ => .inl h
 | _ + 1, 0, _, _, h => by omega
 | k + 1, k' + 1, n, h, hk => by
  rcases h with h | ⟨h1, h2⟩
  ·exact .inl h
  ·exact .inr ⟨h1, h2.mono (by omega)⟩
theorem dup_ge (l : List ND) : ∀ (k : Nat) (n m : Int), m ≤ dupN l k n m
 | 0, _, _ => Int.le_refl _
 | k + 1, n, m => by
  rw [dupN]
  split
  ·have := dup_ge l k (par l n.toNat) (m + 1); omega
  ·exact Int.le_refl _
theorem dup_ends {l : List ND} (hk : KGood l) : ∀ (k : Nat) (n m : Int), 0 ≤ n → n < (l.length : Int) → 0 ≤ m → dupN l k n m ≤ (l.length : Int) → (l.length : Int) + 2 ≤ m + k → Ends l (Int.toNat (dupN l k n m - m) + 1) n
 | 0, n, m, h0, h1, h2, h3, h4 => by rw [dupN] at h3; omega
 | k + 1, n, m, h0, h1, h2, h3, h4 => by
  rw [dupN] at h3 ⊢
  split
  ·rename_i hc
   rw [if_t hc] at h3
   rw [Bool.and_eq_true, decide_eq_true_eq, decide_eq_true_eq] at hc
   have hg := dup_ge l k (par l n.toNat) (m + 1)
   have ih := dup_ends hk k (par l n.toNat) (m + 1) hc.1 (up_in hk h0 h1 hc.1) (by omega) h3 (by omega)
   refine .inr ⟨h1, ?_⟩
   rw [show Int.toNat (dupN l k (par l n.toNat) (m + 1) - m) = Int.toNat (dupN l k (par l n.toNat) (m + 1) - (m + 1)) + 1 by omega]
   exact ih
  ·rename_i hc
   rw [if_neg hc] at h3
   have hp : par l n.toNat < 0 := by
    apply Classical.byContradiction
    intro hn
    exact hc (by rw [Bool.and_eq_true, decide_eq_true_eq, decide_eq_true_eq]; exact ⟨by omega, h3⟩)
   refine .inr ⟨h1, ?_⟩
   rw [show Int.toNat (m - m) = 0 by omega]
   exact hp
theorem ends_ok {d : DC} (h : DGood d) {n : Nat} (hn : n < d.1.length) : Ends d.1 41 n := by
 have h1 := h.deep n hn
 have h2 := h.ends n hn
 unfold dupS at h1 h2
 exact (dup_ends h.kids (d.1.length + 2) n 0 (by omega) (by omega) (by omega) h2 (by omega)).mono (by omega)
/-! paths -/
def chainN (l : List ND) : Nat → Int → List Int
 | 0, _ => []
 | k + 1, n => if decide (n < 0) = true then [] else n :: chainN l k (par l n.toNat)
theorem chain_len (l : List ND) : ∀ (k : Nat) (n : Int), (chainN l k n).length ≤ k
 | 0, _ => Nat.le_refl _
 | k + 1, n => by
  rw [chainN]
  split
  ·simp
  ·rw [List.length_cons]; have := chain_len l k (par l n.toNat); omega
def finC (c : List Int) : List Int × Int := if ((c.reverse.getD (Int.toNat 0) default) != 0) = true then ([], 5) else (c.reverse, 0)
def epaS (d : DC) (n : Int) : List Int × Int := if (dchkS d != 0) = true then ([], dchkS d) else if (decide (n < 0) || decide (n ≥ (d.1.length : Int))) = true then ([], 1) else finC (chainN d.1 41 n)
def epaP (d : DC) (_ : Int) : Prop := dchkP d
def epal25b (xd : (List (Int × Bs × (List (Bs × Bs)) × Bs × Int × List (Int))) × Bool) (K : (List (Int)) → Int → Prop) (x1l25 : Int) (yown9_0l25 : List (Int)) (C25 : Int → (List (Int)) → Prop) : Prop :=
 ((decide (x1l25 ≥ 0)) = true → (yown9_0l25 ++ ([x1l25] : List (Int))).length ≤ 17592186044416 ∧ (0 : Int) ≤ x1l25 ∧ Int.toNat x1l25 < xd.1.length ∧ C25 (xd.1.getD (Int.toNat x1l25) default).2.2.2.2.1 (yown9_0l25 ++ ([x1l25] : List (Int)))) ∧ ((decide (x1l25 ≥ 0)) = false → ervP yown9_0l25 ∧ (0 : Int) ≤ 0 ∧ Int.toNat 0 < (ervS yown9_0l25).length ∧ (((((ervS yown9_0l25).getD (Int.toNat 0) default) != 0)) = true → K ([] : List (Int)) 5) ∧ (((((ervS yown9_0l25).getD (Int.toNat 0) default) != 0)) = false → K (ervS yown9_0l25) 0))
def epal25 (xd : (List (Int × Bs × (List (Bs × Bs)) × Bs × Int × List (Int))) × Bool) (K : (List (Int)) → Int → Prop) : Nat → Int → (List (Int)) → Prop
 | 0, _, _ => False
 | k + 1, x1l25, yown9_0l25 => epal25b xd K x1l25 yown9_0l25 (epal25 xd K k)
def epaj14 (xd : (List (Int × Bs × (List (Bs × Bs)) × Bs × Int × List (Int))) × Bool) (xn : Int) (K : (List (Int)) → Int → Prop) : Prop :=
 ((((decide (xn < 0)) || (decide (xn ≥ (xd.1.length : Int))))) = true → K ([] : List (Int)) 1) ∧ ((((decide (xn < 0)) || (decide (xn ≥ (xd.1.length : Int))))) = false → ∃ k, epal25 xd K k xn ([] : List (Int)))
def epaF (xd : (List (Int × Bs × (List (Bs × Bs)) × Bs × Int × List (Int))) × Bool) (xn : Int) (K : (List (Int)) → Int → Prop) : Prop :=
 dchkP xd ∧ ((((dchkS xd) != 0)) = true → K ([] : List (Int)) (dchkS xd)) ∧ ((((dchkS xd) != 0)) = false → ((decide (xn < 0)) = true → epaj14 xd xn K) ∧ ((decide (xn < 0)) = false → epaj14 xd xn K))
theorem epa_ok {g : Ghost} {axd_0 : Option Addr} {cxd_0 : Nat} (xd : (List (Int × Bs × (List (Bs × Bs)) × Bs × Int × List (Int))) × Bool) (xn : Int) (hRxd_0 : Rep g (.slice (.pair (.int .i64) (.pair (.str) (.pair (.slice (.pair (.str) (.str))) (.pair (.str) (.pair (.int .i64) (.slice (.int .i64)))))))) [.slice axd_0 xd.1.length cxd_0] xd.1) (K : (List (Int)) → Int → Prop)
  (hF : epaF xd xn K) : CallsH Tryd.prog 4 #[.agg #[.slice axd_0 xd.1.length cxd_0, .bool xd.2], .int .i64 xn] g [] (fun g' H' v => ∃ (r0 : List (Int)), ∃ (r1 : Int), ∃ (ar0_0 : Option Addr) (cr0_0 : Nat), v = .tuple #[.slice ar0_0 r0.length cr0_0, .int .i64 r1] ∧ Rep g' (.slice (.int .i64)) [.slice ar0_0 r0.length cr0_0] r0 ∧ H' = [] ∧ K r0 r1) := by
 refine CallsH.enter 41 [(0, .agg #[.slice axd_0 xd.1.length cxd_0, .bool xd.2]), (1, .int .i64 xn)] Tryd.func4 rfl (by kernel_rfl) (by kernel_rfl) (by kernel_rfl) fun w0 => ?_
 refine Ok.seq (Ok.region (Ok.op rfl (OpOk.box (v := .agg #[.slice axd_0 xd.1.length cxd_0, .bool xd.2]) (cs := #[.slice axd_0 xd.1.length cxd_0, .bool xd.2]) rfl (by kernel_rfl) rfl fun b1 => ?_)))
 refine Ok.batch 1 [(1, .int .i64 xn), (2, pv b1 0)] (by kernel_rfl) (Ok.bat 1 [1, 2] [] ?_)
 refine Ok.nil (Ok.thenN (Ok.seq (Ok.seq (Ok.region (Ok.op rfl (OpOk.step (v := .agg #[.slice axd_0 xd.1.length cxd_0, .bool xd.2]) (Yields.loadAgg 0 2 #[.slice axd_0 xd.1.length cxd_0, .bool xd.2] rfl rfl Tryd.underlying24 rfl (by kernel_rfl) (by kernel_rfl) (by kernel_rfl)) rfl rfl ?_))))))
 obtain ⟨hp2, hF⟩ := hF
 refine Ok.op rfl (OpOk.callG (v := .int .i64 (dchkS xd)) enr (fun W hW => dchk_c xd (hRxd_0.mono hW.sees) hp2) rfl ?_)
 refine Ok.bat 1 [1, 2] [(6, .int .i64 (dchkS xd))] ?_
 refine Ok.nil (Ok.thenN (Ok.seq (Ok.region (Ok.bat 2 [1, 2, 6] [(11, .bool ((dchkS xd) != 0))] ?_))))
 refine Ok.nil (Ok.thenN (Ok.cond (b := ((dchkS xd) != 0)) rfl (fun hc3 => ?_) (fun hc3 => ?_)))
 ·replace hF := hF.1 hc3
  refine Ok.seq (Ok.region (Ok.batch 2 [(4, .slice none 0 0), (12, .int .i64 (dchkS xd))] (by kernel_rfl) ?_))
  have hL4 : RepL g (.int .i64) [] [] := rfl
  refine Ok.ownNil 3 1 (Ok.batch 1 [(4, .slice none ([] : List (Int)).length 0), (5, .int .i64 (dchkS xd))] (by kernel_rfl) (Ok.nil (Ok.thenN (Ok.ret (Ok.thenR (Ok.frz 0 rfl hL4 fun g5 hx5 hRf5 => ?_))))))
  replace hRxd_0 := hRxd_0.mono hx5.1
  exact Ok.resP (vs := [.slice none ([] : List (Int)).length 0, .int .i64 (dchkS xd)]) [] [] (by decide) rfl (.inl rfl) rfl (.cons (.tmp rfl) (.cons (.tmp rfl) .nil)) hx5 ⟨([] : List (Int)), (dchkS xd), none, 0, rfl, hRf5, rfl, hF⟩
 ·replace hF := hF.2 hc3
  refine Ok.skip (Ok.thenN (Ok.seq (Ok.cut (fun a W => ∃ gj14 : Ghost, Gext w0 g gj14 ∧ StA 41 [(1, .int .i64 xn), (2, pv b1 0), (21, .bool ((decide (xn < 0)) || (decide (xn ≥ (xd.1.length : Int)))))] a ∧ StW w0 [.blk b1 (.cells #[.slice axd_0 xd.1.length cxd_0, .bool xd.2] 24)] gj14 W ∧ epaj14 xd xn K) ?_ ?_)))
  ·
   refine Ok.region (Ok.bat 3 [1, 2] [(15, .bool (decide (xn < 0)))] ?_)
   refine Ok.boolAt 15 (decide (xn < 0)) rfl (fun hc23 => ?_) (fun hc23 => ?_)
   ·replace hF := hF.1 hc23
    refine Ok.bat 6 [1, 2] [(21, .bool true)] ?_
    refine Ok.nil (Ok.thenN (Ok.reval 21 rfl (show (.bool true : Value) = .bool ((decide (xn < 0)) || (decide (xn ≥ (xd.1.length : Int)))) from congrArg (Value.bool) (mor_t hc23)) ?_))
    exact fun a W hA hW => ⟨g, (Gext.refl w0 g), hA.sub (by kernel_rfl), hW, hF⟩
   ·replace hF := hF.2 hc23
    refine Ok.bat 2 [1, 2] [(15, .bool false), (16, .int .i64 xn), (17, pv b1 0)] ?_
    refine Ok.opYes (j := 2) (d := 15) (want := false) (b := false) rfl (by kernel_rfl) (by kernel_rfl) rfl (OpOk.step (v := .slice axd_0 xd.1.length cxd_0) (Yields.load 0 rfl rfl Tryd.underlying22 rfl (by kernel_rfl)) rfl rfl (Ok.bat 3 [1, 2] [(21, .bool (decide (xn ≥ (xd.1.length : Int))))] ?_))
    refine Ok.nil (Ok.thenN (Ok.reval 21 rfl (show (.bool (decide (xn ≥ (xd.1.length : Int))) : Value) = .bool ((decide (xn < 0)) || (decide (xn ≥ (xd.1.length : Int)))) from congrArg (Value.bool) (mor_f hc23)) ?_))
    exact fun a W hA hW => ⟨g, (Gext.refl w0 g), hA.sub (by kernel_rfl), hW, hF⟩
  ·
   clear hF
   rintro a W ⟨gj14, hxj14, hA, hW, hF⟩
   refine (?_ : Ok _ _ _ _ _ _) a W hA hW
   clear hA hW
   replace hRxd_0 := hRxd_0.mono hxj14.1
   refine Ok.cond (b := ((decide (xn < 0)) || (decide (xn ≥ (xd.1.length : Int))))) rfl (fun hc6 => ?_) (fun hc6 => ?_)
   ·replace hF := hF.1 hc6
    refine Ok.seq (Ok.region (Ok.batch 1 [(4, .slice none 0 0)] (by kernel_rfl) ?_))
    have hL7 : RepL gj14 (.int .i64) [] [] := rfl
    refine Ok.ownNil 3 1 (Ok.batch 1 [(4, .slice none ([] : List (Int)).length 0), (5, .int .i64 1)] (by kernel_rfl) (Ok.nil (Ok.thenN (Ok.ret (Ok.thenR (Ok.frz 0 rfl hL7 fun g8 hx8 hRf8 => ?_))))))
    replace hRxd_0 := hRxd_0.mono hx8.1
    exact Ok.resP (vs := [.slice none ([] : List (Int)).length 0, .int .i64 1]) [] [] (by decide) rfl (.inl rfl) rfl (.cons (.tmp rfl) (.cons (.tmp rfl) .nil)) (hxj14.trans hx8) ⟨([] : List (Int)), 1, none, 0, rfl, hRf8, rfl, hF⟩
   ·replace hF := hF.2 hc6
    refine Ok.skip (Ok.thenN (Ok.seq (Ok.region (Ok.bat 1 [1, 2] [(7, .slice none 0 0)] ?_))))
    have hL9 : RepL gj14 (.int .i64) [] [] := rfl
    refine Ok.ownNil 3 1 (Ok.nil (Ok.thenN (Ok.seq (Ok.block ?_))))
    obtain ⟨k, hF⟩ := hF
    refine Ok.loop (fun k a W => ∃ gl25 : Ghost, Gext w0 gj14 gl25 ∧ ∃ (x1l25 : Int) (ayown9_0l25 : Option Addr) (cyown9_0l25 : Nat) (yown9_0l25 : List (Int)) (xsyown9_0l25 : List Value), RepL gl25 (.int .i64) xsyown9_0l25 yown9_0l25 ∧ StA 41 [(1, .int .i64 x1l25), (2, pv b1 0), (7, .slice ayown9_0l25 yown9_0l25.length cyown9_0l25)] a ∧ StW w0 [.own (.slice ayown9_0l25 yown9_0l25.length cyown9_0l25) 3 1 yown9_0l25.length xsyown9_0l25, .blk b1 (.cells #[.slice axd_0 xd.1.length cxd_0, .bool xd.2] 24)] gl25 W ∧ epal25 xd K k x1l25 yown9_0l25) k ?_ ?_
    ·
     exact fun a W hA hW => ⟨gj14, (Gext.refl w0 gj14), xn, none, 0, ([] : List (Int)), [], hL9, hA.sub (by kernel_rfl), hW, hF⟩
    ·
     clear hF
     rintro k25 a W ⟨gl25, hxl25, x1l25, ayown9_0l25, cyown9_0l25, yown9_0l25, xsyown9_0l25, hLyown9_0l25, hA, hW, hF⟩
     cases k25 with
     | zero => exact (hF : False).elim
     | succ k25 =>
      refine (?_ : Ok _ _ _ _ _ _) a W hA hW
      clear hA hW
      replace hRxd_0 := hRxd_0.mono hxl25.1
      refine Ok.seq (Ok.seq (Ok.region (Ok.bat 2 [1, 2, 7] [(23, .bool (decide (x1l25 ≥ 0)))] ?_)))
      refine Ok.nil (Ok.thenN (Ok.cond (b := decide (x1l25 ≥ 0)) rfl (fun hc10 => ?_) (fun hc10 => ?_)))
      ·replace hF := hF.1 hc10
       refine Ok.skip (Ok.thenN (Ok.seq (Ok.block (Ok.region (Ok.bat 2 [1, 2] [(30, .slice ayown9_0l25 yown9_0l25.length cyown9_0l25), (31, .int .i64 x1l25)] ?_)))))
       have hL11 : RepL gl25 (.int .i64) ([.int .i64 x1l25] : List Value) ([x1l25] : List (Int)) := (RepL.consN (c := [.int .i64 x1l25]) rfl rfl)
       refine Ok.op rfl (OpOk.lit (E := 3) (.int .i64) ([x1l25] : List (Int)) ([.int .i64 x1l25] : List Value) (by kernel_rfl) (by kernel_rfl) rfl (by kernel_rfl) hL11 rfl fun b11 => ?_)
       obtain ⟨hb12, hF⟩ := hF
       refine Ok.op rfl (OpOk.append' (e := .int .i64) 8 17592186044416 1 0 rfl rfl rfl rfl hLyown9_0l25 hL11 Tryd.underlying28 (by kernel_rfl) (by kernel_rfl) (by kernel_rfl) hb12 rfl fun a12 c12 xs12 hL12 => ?_)
       refine Ok.bat 1 [1, 2] [(7, .slice a12 (yown9_0l25 ++ ([x1l25] : List (Int))).length c12)] ?_
       refine Ok.nil (Ok.blockN (Ok.thenN (Ok.region (Ok.bat 1 [1, 2, 7] [(24, pv b1 0)] ?_))))
       refine Ok.op rfl (OpOk.step (v := .slice axd_0 xd.1.length cxd_0) (Yields.load 2 rfl rfl Tryd.underlying22 rfl (by kernel_rfl)) rfl rfl (Ok.bat 1 [2, 7] [(25, .slice axd_0 xd.1.length cxd_0), (26, .int .i64 x1l25)] ?_))
       obtain ⟨h014, h114, hF⟩ := hF
       have he14 := get_of (l := xd.1) (default : Int × Bs × (List (Bs × Bs)) × Bs × Int × List (Int)) h114
       generalize hg14 : (xd.1.getD (Int.toNat x1l25) default) = e14 at he14 hF ⊢
       refine Ok.op rfl (OpOk.indexRo (e := .pair (.int .i64) (.pair (.str) (.pair (.slice (.pair (.str) (.str))) (.pair (.str) (.pair (.int .i64) (.slice (.int .i64))))))) (i := x1l25) (el := e14) rfl rfl Tryd.underlying22 (by kernel_rfl) hRxd_0 h014 he14 rfl fun q13 o13 cs13 _ hat13 hr13 => ?_)
       obtain ⟨_, _, rfl, rfl, ⟨_, _, rfl, rfl, ⟨_, _, rfl, ⟨a13_2, c13_2, rfl, hm13_2, hr13_2⟩, ⟨_, _, rfl, rfl, ⟨_, _, rfl, rfl, ⟨a13_5, c13_5, rfl, hm13_5, hr13_5⟩⟩⟩⟩⟩⟩ := hr13
       have hR13_2 : Rep gl25 (.slice (.pair (.str) (.str))) [.slice a13_2 e14.2.2.1.length c13_2] e14.2.2.1 := ⟨a13_2, c13_2, rfl, hm13_2, hr13_2⟩
       have hR13_5 : Rep gl25 (.slice (.int .i64)) [.slice a13_5 e14.2.2.2.2.2.length c13_5] e14.2.2.2.2.2 := ⟨a13_5, c13_5, rfl, hm13_5, hr13_5⟩
       replace hat13 : At gl25 q13 o13 [.int .i64 e14.1, sv e14.2.1, .slice a13_2 e14.2.2.1.length c13_2, sv e14.2.2.2.1, .int .i64 e14.2.2.2.2.1, .slice a13_5 e14.2.2.2.2.2.length c13_5] := hat13
       refine Ok.bat 1 [2, 7] [(28, .pointer (some ⟨q13, o13 + 4, none⟩))] ?_
       refine Ok.op rfl (OpOk.step (v := .int .i64 e14.2.2.2.2.1) (Yields.loadRo 4 hat13 (by kernel_rfl) Tryd.underlying3 rfl (by kernel_rfl)) rfl rfl (Ok.bat 1 [2, 7] [(1, .int .i64 e14.2.2.2.2.1)] ?_))
       refine Ok.nil (Ok.thenN ?_)
       subst hg14
       exact fun a W hA hW => ⟨k25, Nat.lt_succ_self _, gl25, hxl25, (xd.1.getD (Int.toNat x1l25) default).2.2.2.2.1, a12, c12, (yown9_0l25 ++ ([x1l25] : List (Int))), xs12, hL12, hA.sub (by kernel_rfl), hW.sub (.cons _ (.cons_cons _ (.cons_cons _ .slnil))), hF⟩
      ·replace hF := hF.2 hc10
       refine Ok.exit (Ok.thenE (Ok.thenE (Ok.blockHit (Ok.thenN (Ok.seq (Ok.region (Ok.bat 1 [7] [(34, .slice ayown9_0l25 yown9_0l25.length cyown9_0l25)] ?_)))))))
       obtain ⟨hp15, hF⟩ := hF
       refine Ok.op rfl (OpOk.callH [_] _ enr rfl (erv_c yown9_0l25 hLyown9_0l25 hp15) rfl fun g16 _ _ hx16 hV16 => ?_)
       obtain ⟨xs16_0, rfl, hL16_0, rfl, hlen16_0⟩ := hV16
       replace hLyown9_0l25 := hLyown9_0l25.mono hx16.1
       replace hRxd_0 := hRxd_0.mono hx16.1
       refine Ok.reval 7 rfl (show (.slice ayown9_0l25 yown9_0l25.length cyown9_0l25 : Value) = .slice ayown9_0l25 (ervS yown9_0l25).length cyown9_0l25 from by rw [hlen16_0]) (Ok.reval 34 rfl (show (.slice ayown9_0l25 yown9_0l25.length cyown9_0l25 : Value) = .slice ayown9_0l25 (ervS yown9_0l25).length cyown9_0l25 from by rw [hlen16_0]) (Ok.nil (Ok.thenN (Ok.seq (Ok.seq (Ok.region (Ok.batch 1 [(7, .slice ayown9_0l25 (ervS yown9_0l25).length cyown9_0l25), (36, .slice ayown9_0l25 (ervS yown9_0l25).length cyown9_0l25)] (by kernel_rfl) ?_)))))))
       obtain ⟨h018, h118, hF⟩ := hF
       have he18 := get_of (l := (ervS yown9_0l25)) (default : Int) h118
       generalize hg18 : ((ervS yown9_0l25).getD (Int.toNat 0) default) = e18 at he18 hF ⊢
       refine Ok.op rfl (OpOk.indexOwn (e := .int .i64) (q := 0) (el := e18) 0 rfl hL16_0 rfl rfl Tryd.underlying28 (by kernel_rfl) (by kernel_rfl) h018 he18 rfl fun cs17 _ hr17 hc17 => ?_)
       obtain rfl := hr17
       replace hc17 : ∀ j v, ([.int .i64 e18] : List Value)[j]? = some v → xs16_0[Int.toNat 0 * 1 + j]? = some v := hc17
       refine Ok.op rfl (OpOk.step (v := .int .i64 e18) (Yields.loadOwn 0 0 rfl hc17 rfl Tryd.underlying3 rfl (by kernel_rfl)) rfl rfl (Ok.bat 1 [7] [(39, .bool (e18 != 0))] ?_))
       refine Ok.nil (Ok.thenN (Ok.cond (b := (e18 != 0)) rfl (fun hc19 => ?_) (fun hc19 => ?_)))
       ·replace hF := hF.1 hc19
        refine Ok.seq (Ok.region (Ok.batch 1 [(4, .slice none 0 0)] (by kernel_rfl) ?_))
        have hL20 : RepL g16 (.int .i64) [] [] := rfl
        refine Ok.ownNil 3 1 (Ok.batch 1 [(4, .slice none ([] : List (Int)).length 0), (5, .int .i64 5)] (by kernel_rfl) (Ok.nil (Ok.thenN (Ok.ret (Ok.thenR (Ok.frz 0 rfl hL20 fun g21 hx21 hRf21 => ?_))))))
        replace hL16_0 := hL16_0.mono hx21.1
        replace hRxd_0 := hRxd_0.mono hx21.1
        exact Ok.resP (vs := [.slice none ([] : List (Int)).length 0, .int .i64 5]) [] [] (by decide) rfl (.inl rfl) rfl (.cons (.tmp rfl) (.cons (.tmp rfl) .nil)) (((hxj14.trans hxl25).trans hx16).trans hx21) ⟨([] : List (Int)), 5, none, 0, rfl, hRf21, rfl, hF⟩
       ·replace hF := hF.2 hc19
        refine Ok.skip (Ok.thenN (Ok.seq (Ok.region (Ok.batch 3 [(4, .slice ayown9_0l25 (ervS yown9_0l25).length cyown9_0l25), (5, .int .i64 0)] (by kernel_rfl) (Ok.nil (Ok.thenN (Ok.ret (Ok.frz 0 rfl hL16_0 fun g22 hx22 hRf22 => ?_))))))))
        replace hRxd_0 := hRxd_0.mono hx22.1
        exact Ok.resP (vs := [.slice ayown9_0l25 (ervS yown9_0l25).length cyown9_0l25, .int .i64 0]) [] [] (by decide) rfl (.inl rfl) rfl (.cons (.tmp rfl) (.cons (.tmp rfl) .nil)) (((hxj14.trans hxl25).trans hx16).trans hx22) ⟨(ervS yown9_0l25), 0, ayown9_0l25, cyown9_0l25, rfl, hRf22, rfl, hF⟩
theorem epa_loop (d : DC) (R : List Int × Int) : ∀ (k : Nat) (n : Int) (acc : List Int), Ends d.1 k n → (acc ≠ [] ∨ 0 ≤ n) → acc.length + k ≤ 1000 → R = finC (acc ++ chainN d.1 k n) → epal25 d (fun a b => (a, b) = R) (k + 1) n acc := by
 have fin : ∀ (acc : List Int), acc ≠ [] → acc.length ≤ 1000 → R = finC acc → ervP acc ∧ (0 : Int) ≤ 0 ∧ Int.toNat 0 < (ervS acc).length ∧ (((ervS acc).getD (Int.toNat 0) default != 0) = true → (([] : List Int), (5 : Int)) = R) ∧ (((ervS acc).getD (Int.toNat 0) default != 0) = false → (ervS acc, (0 : Int)) = R) := by
  intro acc h1 h2 h3
  have h4 : 0 < acc.length := List.length_pos_iff.2 h1
  refine ⟨by unfold ervP; omega, Int.le_refl _, by unfold ervS; rw [List.length_reverse]; exact h4, fun h => ?_, fun h => ?_⟩
  ·rw [h3]; unfold finC; unfold ervS at h; rw [if_t h]
  ·rw [h3]; unfold finC; unfold ervS at h ⊢; rw [if_f h]
 intro k
 induction k with
 | zero =>
  intro n acc h ha hl hR
  have h : n < 0 := h
  rw [chainN, List.append_nil] at hR
  exact ⟨fun h2 => by have := of_decide_eq_true h2; omega, fun _ => fin acc (by rcases ha with h | h; exact h; omega) (by omega) hR⟩
 | succ k ih =>
  intro n acc h ha hl hR
  rw [chainN] at hR
  by_cases h0 : n < 0
  ·rw [if_t (decide_eq_true h0), List.append_nil] at hR
   exact ⟨fun h2 => by have := of_decide_eq_true h2; omega, fun _ => fin acc (by rcases ha with h | h; exact h; omega) (by omega) hR⟩
  ·rw [if_f (decide_eq_false h0)] at hR
   rcases h with h | ⟨h1, h2⟩
   ·exact absurd h h0
   refine ⟨fun _ => ⟨?_, by omega, by omega, ?_⟩, fun h2 => by have := of_decide_eq_false h2; omega⟩
   ·rw [List.length_append, List.length_singleton]; omega
   ·exact ih _ _ h2 (.inl (by simp)) (by rw [List.length_append, List.length_singleton]; omega) (by rw [List.append_assoc]; exact hR)
theorem epa_F (d : DC) (n : Int) (hp : epaP d n) : epaF d n (fun a b => (a, b) = epaS d n) := by
 refine ⟨hp, fun h => by unfold epaS; rw [if_t h], fun h => ?_⟩
 have hG := (dchk_sp d hp).2 (by simpa using h)
 have j14 : epaj14 d n (fun a b => (a, b) = epaS d n) := by
  refine ⟨fun h2 => by unfold epaS; rw [if_f h, if_t h2], fun h2 => ?_⟩
  have h3 := h2
  simp only [Bool.or_eq_false_iff, decide_eq_false_iff_not] at h3
  refine ⟨42, epa_loop d _ 41 n [] ?_ (.inr (by omega)) (by simp) (by unfold epaS; rw [if_f h, if_f h2]; rfl)⟩
  have := ends_ok hG (n := n.toNat) (by omega)
  rwa [Int.toNat_of_nonneg (by omega)] at this
 exact ⟨fun _ => j14, fun _ => j14⟩
theorem epa_c {g : Ghost} {axd_0 : Option Addr} {cxd_0 : Nat} (xd : (List (Int × Bs × (List (Bs × Bs)) × Bs × Int × List (Int))) × Bool) (xn : Int) (hRxd_0 : Rep g (.slice (.pair (.int .i64) (.pair (.str) (.pair (.slice (.pair (.str) (.str))) (.pair (.str) (.pair (.int .i64) (.slice (.int .i64)))))))) [.slice axd_0 xd.1.length cxd_0] xd.1)  (hp : epaP xd xn) : CallsH Tryd.prog 4 #[.agg #[.slice axd_0 xd.1.length cxd_0, .bool xd.2], .int .i64 xn] g [] (fun g' H' v => ∃ (ar0_0 : Option Addr) (cr0_0 : Nat), v = .tuple #[.slice ar0_0 ((epaS xd xn).1).length cr0_0, .int .i64 (epaS xd xn).2] ∧ Rep g' (.slice (.int .i64)) [.slice ar0_0 ((epaS xd xn).1).length cr0_0] (epaS xd xn).1 ∧ H' = []) :=
 (epa_ok xd xn hRxd_0 _ (epa_F xd xn hp)).mono (by rintro g' H' v _ ⟨r0, r1, ar0_0, cr0_0, rfl, hRr0_0, rfl, hK⟩; obtain ⟨rfl, rfl⟩ : r0 = (epaS xd xn).1 ∧ r1 = (epaS xd xn).2 := ⟨congrArg (fun z => z.1) hK, congrArg (fun z => z.2) hK⟩; exact ⟨ar0_0, cr0_0, rfl, hRr0_0, rfl⟩)
theorem epa_len (d : DC) (n : Int) : (epaS d n).1.length ≤ 41 := by
 unfold epaS
 split
 ·simp
 ·split
  ·simp
  ·unfold finC
   split
   ·simp
   ·rw [List.length_reverse]; exact chain_len _ _ _
/-! may it be sent? -/
theorem assoc_put {κ V : Type} [BEq κ] [LawfulBEq κ] (k k' : κ) (v : V) : ∀ m : List (κ × V), assocK k' (putK k v m) = if (k' == k) = true then some v else assocK k' m
 | [] => by
  rw [putK, assocK, assocK]; rfl
 | x :: m => by
  rw [putK]
  by_cases h : (k == x.1) = true
  ·rw [if_pos h, assocK, assocK]
   have := eq_of_beq h
   subst this
   split <;> rfl
  ·rw [if_neg h, assocK, assoc_put k k' v m, assocK]
   by_cases h2 : (k' == x.1) = true
   ·rw [if_pos h2, if_pos h2]
    have := eq_of_beq h2
    subst this
    rw [if_neg (fun h3 => h (by rw [← eq_of_beq h3]; exact beq_self_eq_true _))]
   ·rw [if_neg h2, if_neg h2]
abbrev LI := Int × Int × Bs × Bool × Bool × Bool × Bool × Bool
abbrev HD := Int × Int × Int
abbrev EV := Bs × Int × Int × Int × Bs × Bool × Bool
def idIn (id : Int) (l : List LI) : Bool := l.any fun y => id == y.1
def twN (l : List LI) : Nat → Bool
 | 0 => false
 | i + 1 => twN l i || idIn (l.getD i default).1 (l.take i)
def badS (d : DC) (x : LI) : Bool := decide (x.2.1 < 0) || decide (x.2.1 ≥ (d.1.length : Int))
def easS (d : DC) (l : List LI) (e : EV) : List Int × Int := if (dchkS d != 0) = true then ([], dchkS d) else if decide ((l.length : Int) > 60) = true then ([], 2) else if l.any (badS d) = true then ([], 1) else if twN l l.length = true then ([], 6) else if ((e.1 == ([] : Bs)) || decide ((e.1.length : Int) > 40)) = true then ([], 3) else epaS d e.2.1
def easP (d : DC) (_ : List LI) (_ : EV) : Prop := dchkP d
def easV0 (xd : (List (Int × Bs × (List (Bs × Bs)) × Bs × Int × List (Int))) × Bool) (e9 : Int × Int × Bs × Bool × Bool × Bool × Bool × Bool) : Bool :=
 ((decide (e9.2.1 < 0)) || (decide (e9.2.1 ≥ (xd.1.length : Int))))
def easV1 (xe : Bs × Int × Int × Int × Bs × Bool × Bool) : Bool :=
 ((xe.1 == ([] : Bs)) || (decide ((xe.1.length : Int) > 40)))
def easj48 (xl : List (Int × Int × Bs × Bool × Bool × Bool × Bool × Bool)) (x10j48 : Bool) (x24l29 : Int) (yb6_0l29 : List ((Int) × (Int))) (C29 : Bool → Int → (List ((Int) × (Int))) → Prop) : Prop :=
 C29 x10j48 (w6 (x24l29 + 1)) (putK (xl.getD (Int.toNat x24l29) default).1 1 yb6_0l29)
def easj41 (xd : (List (Int × Bs × (List (Bs × Bs)) × Bs × Int × List (Int))) × Bool) (xl : List (Int × Int × Bs × Bool × Bool × Bool × Bool × Bool)) (K : (List (Int)) → Int → Prop) (e9 : Int × Int × Bs × Bool × Bool × Bool × Bool × Bool) (x10l29 : Bool) (x24l29 : Int) (yb6_0l29 : List ((Int) × (Int))) (C29 : Bool → Int → (List ((Int) × (Int))) → Prop) : Prop :=
 (((easV0 xd e9)) = true → K ([]) 1) ∧ (((easV0 xd e9)) = false → ((x10l29) = true → easj48 xl true x24l29 yb6_0l29 C29) ∧ ((x10l29) = false → (∀ e14 : Int, assocK e9.1 yb6_0l29 = some e14 → easj48 xl (e14 == 1) x24l29 yb6_0l29 C29) ∧ (assocK e9.1 yb6_0l29 = none → easj48 xl false x24l29 yb6_0l29 C29)))
def easj60 (xd : (List (Int × Bs × (List (Bs × Bs)) × Bs × Int × List (Int))) × Bool) (xe : Bs × Int × Int × Int × Bs × Bool × Bool) (K : (List (Int)) → Int → Prop) : Prop :=
 (((easV1 xe)) = true → K ([]) 3) ∧ (((easV1 xe)) = false → epaP xd xe.2.1 ∧ K (epaS xd xe.2.1).1 (epaS xd xe.2.1).2)
def easl29b (xd : (List (Int × Bs × (List (Bs × Bs)) × Bs × Int × List (Int))) × Bool) (xl : List (Int × Int × Bs × Bool × Bool × Bool × Bool × Bool)) (xe : Bs × Int × Int × Int × Bs × Bool × Bool) (K : (List (Int)) → Int → Prop) (x10l29 : Bool) (x24l29 : Int) (yb6_0l29 : List ((Int) × (Int))) (C29 : Bool → Int → (List ((Int) × (Int))) → Prop) : Prop :=
 ((decide (x24l29 < (xl.length : Int))) = true → (0 : Int) ≤ x24l29 ∧ Int.toNat x24l29 < xl.length ∧ ((decide ((xl.getD (Int.toNat x24l29) default).2.1 < 0)) = true → easj41 xd xl K (xl.getD (Int.toNat x24l29) default) x10l29 x24l29 yb6_0l29 C29) ∧ ((decide ((xl.getD (Int.toNat x24l29) default).2.1 < 0)) = false → easj41 xd xl K (xl.getD (Int.toNat x24l29) default) x10l29 x24l29 yb6_0l29 C29)) ∧ ((decide (x24l29 < (xl.length : Int))) = false → ((x10l29) = true → K ([]) 6) ∧ ((x10l29) = false → (((xe.1 == ([] : Bs))) = true → easj60 xd xe K) ∧ (((xe.1 == ([] : Bs))) = false → easj60 xd xe K)))
def easl29 (xd : (List (Int × Bs × (List (Bs × Bs)) × Bs × Int × List (Int))) × Bool) (xl : List (Int × Int × Bs × Bool × Bool × Bool × Bool × Bool)) (xe : Bs × Int × Int × Int × Bs × Bool × Bool) (K : (List (Int)) → Int → Prop) : Nat → Bool → Int → (List ((Int) × (Int))) → Prop
 | 0, _, _, _ => False
 | k + 1, x10l29, x24l29, yb6_0l29 => easl29b xd xl xe K x10l29 x24l29 yb6_0l29 (easl29 xd xl xe K k)
def easF (xd : (List (Int × Bs × (List (Bs × Bs)) × Bs × Int × List (Int))) × Bool) (xl : List (Int × Int × Bs × Bool × Bool × Bool × Bool × Bool)) (xe : Bs × Int × Int × Int × Bs × Bool × Bool) (K : (List (Int)) → Int → Prop) : Prop :=
 dchkP xd ∧ ((((dchkS xd) != 0)) = true → K ([]) (dchkS xd)) ∧ ((((dchkS xd) != 0)) = false → ((decide ((xl.length : Int) > 60)) = true → K ([]) 2) ∧ ((decide ((xl.length : Int) > 60)) = false → ∃ k, easl29 xd xl xe K k false 0 ([] : List ((Int) × (Int)))))
theorem eas_ok {g : Ghost} {axd_0 : Option Addr} {cxd_0 : Nat} (xd : (List (Int × Bs × (List (Bs × Bs)) × Bs × Int × List (Int))) × Bool) {axl_0 : Option Addr} {cxl_0 : Nat} (xl : List (Int × Int × Bs × Bool × Bool × Bool × Bool × Bool)) (xe : Bs × Int × Int × Int × Bs × Bool × Bool) (hRxd_0 : Rep g (.slice (.pair (.int .i64) (.pair (.str) (.pair (.slice (.pair (.str) (.str))) (.pair (.str) (.pair (.int .i64) (.slice (.int .i64)))))))) [.slice axd_0 xd.1.length cxd_0] xd.1) (hRxl_0 : Rep g (.slice (.pair (.int .i64) (.pair (.int .i64) (.pair (.str) (.pair (.bool) (.pair (.bool) (.pair (.bool) (.pair (.bool) (.bool))))))))) [.slice axl_0 xl.length cxl_0] xl) (K : (List (Int)) → Int → Prop)
  (hF : easF xd xl xe K) : CallsH Tryd.prog 13 #[.agg #[.slice axd_0 xd.1.length cxd_0, .bool xd.2], .slice axl_0 xl.length cxl_0, .agg #[sv xe.1, .int .i64 xe.2.1, .int .i64 xe.2.2.1, .int .i64 xe.2.2.2.1, sv xe.2.2.2.2.1, .bool xe.2.2.2.2.2.1, .bool xe.2.2.2.2.2.2]] g [] (fun g' H' v => ∃ (r0 : List (Int)), ∃ (r1 : Int), ∃ (ar0_0 : Option Addr) (cr0_0 : Nat), v = .tuple #[.slice ar0_0 r0.length cr0_0, .int .i64 r1] ∧ Rep g' (.slice (.int .i64)) [.slice ar0_0 r0.length cr0_0] r0 ∧ H' = [] ∧ K r0 r1) := by
 refine CallsH.enter 69 [(0, .agg #[.slice axd_0 xd.1.length cxd_0, .bool xd.2]), (1, .slice axl_0 xl.length cxl_0), (2, .agg #[sv xe.1, .int .i64 xe.2.1, .int .i64 xe.2.2.1, .int .i64 xe.2.2.2.1, sv xe.2.2.2.2.1, .bool xe.2.2.2.2.2.1, .bool xe.2.2.2.2.2.2])] Tryd.func13 rfl (by kernel_rfl) (by kernel_rfl) (by kernel_rfl) fun w0 => ?_
 refine Ok.seq (Ok.region (Ok.op rfl (OpOk.box (v := .agg #[.slice axd_0 xd.1.length cxd_0, .bool xd.2]) (cs := #[.slice axd_0 xd.1.length cxd_0, .bool xd.2]) rfl (by kernel_rfl) rfl fun b1 => ?_)))
 refine Ok.op rfl (OpOk.box (v := .agg #[sv xe.1, .int .i64 xe.2.1, .int .i64 xe.2.2.1, .int .i64 xe.2.2.2.1, sv xe.2.2.2.2.1, .bool xe.2.2.2.2.2.1, .bool xe.2.2.2.2.2.2]) (cs := #[sv xe.1, .int .i64 xe.2.1, .int .i64 xe.2.2.1, .int .i64 xe.2.2.2.1, sv xe.2.2.2.2.1, .bool xe.2.2.2.2.2.1, .bool xe.2.2.2.2.2.2]) rfl (by kernel_rfl) rfl fun b2 => ?_)
 refine Ok.batch 2 [(1, .slice axl_0 xl.length cxl_0), (3, pv b1 0), (5, pv b2 0)] (by kernel_rfl) (Ok.nil (Ok.thenN (Ok.seq (Ok.seq (Ok.region (Ok.op rfl (OpOk.step (v := .agg #[.slice axd_0 xd.1.length cxd_0, .bool xd.2]) (Yields.loadAgg 1 2 #[.slice axd_0 xd.1.length cxd_0, .bool xd.2] rfl rfl Tryd.underlying24 rfl (by kernel_rfl) (by kernel_rfl) (by kernel_rfl)) rfl rfl ?_)))))))
 obtain ⟨hp3, hF⟩ := hF
 refine Ok.op rfl (OpOk.callG (v := .int .i64 (dchkS xd)) enr (fun W hW => dchk_c xd (hRxd_0.mono hW.sees) hp3) rfl ?_)
 refine Ok.bat 1 [1, 3, 5] [(8, .int .i64 (dchkS xd))] ?_
 refine Ok.nil (Ok.thenN (Ok.seq (Ok.region (Ok.bat 2 [1, 3, 5, 8] [(16, .bool ((dchkS xd) != 0))] ?_))))
 refine Ok.nil (Ok.thenN (Ok.cond (b := ((dchkS xd) != 0)) rfl (fun hc4 => ?_) (fun hc4 => ?_)))
 ·replace hF := hF.1 hc4
  refine Ok.seq (Ok.region (Ok.batch 3 [(6, .slice none 0 0), (7, .int .i64 (dchkS xd))] (by kernel_rfl) (Ok.nil (Ok.thenN (Ok.ret (Ok.thenR ?_))))))
  exact Ok.resP (vs := [.slice none 0 0, .int .i64 (dchkS xd)]) [] [] (by decide) rfl (.inl rfl) rfl (.cons (.tmp rfl) (.cons (.tmp rfl) .nil)) (Gext.refl w0 g) ⟨([]), (dchkS xd), none, 0, rfl, Rep.nil, rfl, hF⟩
 ·replace hF := hF.2 hc4
  refine Ok.skip (Ok.thenN (Ok.seq (Ok.seq (Ok.region (Ok.bat 3 [1, 3, 5] [(20, .bool (decide ((xl.length : Int) > 60)))] ?_)))))
  refine Ok.nil (Ok.thenN (Ok.cond (b := decide ((xl.length : Int) > 60)) rfl (fun hc5 => ?_) (fun hc5 => ?_)))
  ·replace hF := hF.1 hc5
   refine Ok.seq (Ok.region (Ok.batch 2 [(6, .slice none 0 0), (7, .int .i64 2)] (by kernel_rfl) (Ok.nil (Ok.thenN (Ok.ret (Ok.thenR ?_))))))
   exact Ok.resP (vs := [.slice none 0 0, .int .i64 2]) [] [] (by decide) rfl (.inl rfl) rfl (.cons (.tmp rfl) (.cons (.tmp rfl) .nil)) (Gext.refl w0 g) ⟨([]), 2, none, 0, rfl, Rep.nil, rfl, hF⟩
  ·replace hF := hF.2 hc5
   refine Ok.skip (Ok.thenN (Ok.seq (Ok.region (Ok.op rfl (OpOk.makeMap (.int .i64) false (kt := (Value.int .i64)) rfl fun b6 hM6 => ?_)))))
   refine Ok.bat 1 [1, 3, 5] [(9, .map (some b6))] ?_
   refine Ok.nil (Ok.thenN (Ok.seq (Ok.region (Ok.bat 1 [1, 3, 5, 9] [(10, .bool false)] ?_))))
   refine Ok.nil (Ok.thenN (Ok.seq (Ok.seq (Ok.region (Ok.bat 3 [3, 5, 9, 10] [(22, .slice axl_0 xl.length cxl_0), (23, .int .i64 (xl.length : Int)), (24, .int .i64 0)] ?_)))))
   refine Ok.nil (Ok.thenN (Ok.block ?_))
   obtain ⟨k, hF⟩ := hF
   refine Ok.loop (fun k a W => ∃ gl29 : Ghost, Gext w0 g gl29 ∧ ∃ (x10l29 : Bool) (x24l29 : Int) (esyb6_0l29 : Array MapEntry) (ckyb6_0l29 : Nat) (yb6_0l29 : List ((Int) × (Int))), RepMap gl29 (.int .i64) false (Value.int .i64) esyb6_0l29.toList yb6_0l29 ∧ StA 69 [(3, pv b1 0), (5, pv b2 0), (9, .map (some b6)), (10, .bool x10l29), (22, .slice axl_0 xl.length cxl_0), (23, .int .i64 (xl.length : Int)), (24, .int .i64 x24l29)] a ∧ StW w0 [.blk b6 (.map esyb6_0l29 ckyb6_0l29), .blk b2 (.cells #[sv xe.1, .int .i64 xe.2.1, .int .i64 xe.2.2.1, .int .i64 xe.2.2.2.1, sv xe.2.2.2.2.1, .bool xe.2.2.2.2.2.1, .bool xe.2.2.2.2.2.2] 27), .blk b1 (.cells #[.slice axd_0 xd.1.length cxd_0, .bool xd.2] 24)] gl29 W ∧ easl29 xd xl xe K k x10l29 x24l29 yb6_0l29) k ?_ ?_
   ·
    exact fun a W hA hW => ⟨g, (Gext.refl w0 g), false, 0, (#[] : Array MapEntry), 0, ([] : List ((Int) × (Int))), hM6, hA.sub (by kernel_rfl), hW, hF⟩
   ·
    clear hF
    rintro k29 a W ⟨gl29, hxl29, x10l29, x24l29, esyb6_0l29, ckyb6_0l29, yb6_0l29, hMyb6_0l29, hA, hW, hF⟩
    cases k29 with
    | zero => exact (hF : False).elim
    | succ k29 =>
     refine (?_ : Ok _ _ _ _ _ _) a W hA hW
     clear hA hW
     replace hRxl_0 := hRxl_0.mono hxl29.1
     replace hRxd_0 := hRxd_0.mono hxl29.1
     refine Ok.seq (Ok.region (Ok.bat 1 [3, 5, 9, 10, 22, 23, 24] [(25, .bool (decide (x24l29 < (xl.length : Int))))] ?_))
     refine Ok.nil (Ok.thenN (Ok.seq (Ok.cond (b := decide (x24l29 < (xl.length : Int))) rfl (fun hc7 => ?_) (fun hc7 => ?_))))
     ·replace hF := hF.1 hc7
      refine Ok.skip (Ok.thenN (Ok.seq (Ok.block (Ok.seq (Ok.region ?_)))))
      obtain ⟨h09, h19, hF⟩ := hF
      have he9 := get_of (l := xl) (default : Int × Int × Bs × Bool × Bool × Bool × Bool × Bool) h19
      generalize hg9 : (xl.getD (Int.toNat x24l29) default) = e9 at he9 hF ⊢
      refine Ok.op rfl (OpOk.indexRo (e := .pair (.int .i64) (.pair (.int .i64) (.pair (.str) (.pair (.bool) (.pair (.bool) (.pair (.bool) (.pair (.bool) (.bool)))))))) (i := x24l29) (el := e9) rfl rfl Tryd.underlying25 (by kernel_rfl) hRxl_0 h09 he9 rfl fun q8 o8 cs8 _ hat8 hr8 => ?_)
      obtain ⟨_, _, rfl, rfl, ⟨_, _, rfl, rfl, ⟨_, _, rfl, rfl, ⟨_, _, rfl, rfl, ⟨_, _, rfl, rfl, ⟨_, _, rfl, rfl, ⟨_, _, rfl, rfl, rfl⟩⟩⟩⟩⟩⟩⟩ := hr8
      replace hat8 : At gl29 q8 o8 [.int .i64 e9.1, .int .i64 e9.2.1, sv e9.2.2.1, .bool e9.2.2.2.1, .bool e9.2.2.2.2.1, .bool e9.2.2.2.2.2.1, .bool e9.2.2.2.2.2.2.1, .bool e9.2.2.2.2.2.2.2] := hat8
      refine Ok.op rfl (OpOk.step (v := .agg #[.int .i64 e9.1, .int .i64 e9.2.1, sv e9.2.2.1, .bool e9.2.2.2.1, .bool e9.2.2.2.2.1, .bool e9.2.2.2.2.2.1, .bool e9.2.2.2.2.2.2.1, .bool e9.2.2.2.2.2.2.2]) (Yields.loadAggRo 0 8 #[.int .i64 e9.1, .int .i64 e9.2.1, sv e9.2.2.1, .bool e9.2.2.2.1, .bool e9.2.2.2.2.1, .bool e9.2.2.2.2.2.1, .bool e9.2.2.2.2.2.2.1, .bool e9.2.2.2.2.2.2.2] hat8 (by kernel_rfl) Tryd.underlying41 rfl (by kernel_rfl) (by kernel_rfl) (by kernel_rfl)) rfl rfl (Ok.op rfl (OpOk.alloc (z := .agg #[.int .i64 0, .int .i64 0, sv ([] : Bs), .bool false, .bool false, .bool false, .bool false, .bool false]) (cs := #[.int .i64 0, .int .i64 0, sv ([] : Bs), .bool false, .bool false, .bool false, .bool false, .bool false]) (by kernel_rfl) (by kernel_rfl) rfl fun b10 => ?_)))
      refine Ok.op rfl (OpOk.sto (k := 8) (v := .agg #[.int .i64 e9.1, .int .i64 e9.2.1, sv e9.2.2.1, .bool e9.2.2.2.1, .bool e9.2.2.2.2.1, .bool e9.2.2.2.2.2.1, .bool e9.2.2.2.2.2.2.1, .bool e9.2.2.2.2.2.2.2]) 0 #[.int .i64 e9.1, .int .i64 e9.2.1, sv e9.2.2.1, .bool e9.2.2.2.1, .bool e9.2.2.2.2.1, .bool e9.2.2.2.2.2.1, .bool e9.2.2.2.2.2.2.1, .bool e9.2.2.2.2.2.2.2] rfl rfl rfl ?_)
      refine Ok.nil (Ok.thenN (Ok.seq (Ok.cut (fun a W => ∃ gj41 : Ghost, Gext w0 gl29 gj41 ∧ StA 69 [(3, pv b1 0), (5, pv b2 0), (9, .map (some b6)), (10, .bool x10l29), (12, pv b10 0), (22, .slice axl_0 xl.length cxl_0), (23, .int .i64 (xl.length : Int)), (24, .int .i64 x24l29), (38, .bool (easV0 xd e9))] a ∧ StW w0 [.blk b10 (.cells #[.int .i64 e9.1, .int .i64 e9.2.1, sv e9.2.2.1, .bool e9.2.2.2.1, .bool e9.2.2.2.2.1, .bool e9.2.2.2.2.2.1, .bool e9.2.2.2.2.2.2.1, .bool e9.2.2.2.2.2.2.2] 41), .blk b6 (.map esyb6_0l29 ckyb6_0l29), .blk b2 (.cells #[sv xe.1, .int .i64 xe.2.1, .int .i64 xe.2.2.1, .int .i64 xe.2.2.2.1, sv xe.2.2.2.2.1, .bool xe.2.2.2.2.2.1, .bool xe.2.2.2.2.2.2] 27), .blk b1 (.cells #[.slice axd_0 xd.1.length cxd_0, .bool xd.2] 24)] gj41 W ∧ easj41 xd xl K e9 x10l29 x24l29 yb6_0l29 (easl29 xd xl xe K k29)) ?_ ?_)))
      ·
       refine Ok.region (Ok.bat 1 [3, 5, 9, 10, 22, 23, 24] [(12, pv b10 0), (28, pv b10 1)] ?_)
       refine Ok.op rfl (OpOk.step (v := .int .i64 e9.2.1) (Yields.load 0 rfl rfl Tryd.underlying3 rfl (by kernel_rfl)) rfl rfl (Ok.bat 2 [3, 5, 9, 10, 12, 22, 23, 24] [(31, .bool (decide (e9.2.1 < 0)))] ?_))
       refine Ok.boolAt 31 (decide (e9.2.1 < 0)) rfl (fun hc15 => ?_) (fun hc15 => ?_)
       ·replace hF := hF.1 hc15
        refine Ok.bat 7 [3, 5, 9, 10, 12, 22, 23, 24] [(38, .bool true)] ?_
        refine Ok.nil (Ok.thenN (Ok.reval 38 rfl (show (.bool true : Value) = .bool (easV0 xd e9) from congrArg (Value.bool) (mor_t hc15)) ?_))
        exact fun a W hA hW => ⟨gl29, (Gext.refl w0 gl29), hA.sub (by kernel_rfl), hW, hF⟩
       ·replace hF := hF.2 hc15
        refine Ok.bat 1 [3, 5, 9, 10, 12, 22, 23, 24] [(31, .bool false), (32, pv b10 1)] ?_
        refine Ok.opYes (j := 3) (d := 31) (want := false) (b := false) rfl (by kernel_rfl) (by kernel_rfl) rfl (OpOk.step (v := .int .i64 e9.2.1) (Yields.load 0 rfl rfl Tryd.underlying3 rfl (by kernel_rfl)) rfl rfl (Ok.bat 1 [3, 5, 9, 10, 12, 22, 23, 24, 31] [(33, .int .i64 e9.2.1), (34, pv b1 0)] ?_))
        refine Ok.opYes (j := 3) (d := 31) (want := false) (b := false) rfl (by kernel_rfl) (by kernel_rfl) rfl (OpOk.step (v := .slice axd_0 xd.1.length cxd_0) (Yields.load 3 rfl rfl Tryd.underlying22 rfl (by kernel_rfl)) rfl rfl (Ok.bat 3 [3, 5, 9, 10, 12, 22, 23, 24] [(38, .bool (decide (e9.2.1 ≥ (xd.1.length : Int))))] ?_))
        refine Ok.nil (Ok.thenN (Ok.reval 38 rfl (show (.bool (decide (e9.2.1 ≥ (xd.1.length : Int))) : Value) = .bool (easV0 xd e9) from congrArg (Value.bool) (mor_f hc15)) ?_))
        exact fun a W hA hW => ⟨gl29, (Gext.refl w0 gl29), hA.sub (by kernel_rfl), hW, hF⟩
      ·
       clear hF
       rintro a W ⟨gj41, hxj41, hA, hW, hF⟩
       refine (?_ : Ok _ _ _ _ _ _) a W hA hW
       clear hA hW
       replace hRxl_0 := hRxl_0.mono hxj41.1
       replace hMyb6_0l29 := hMyb6_0l29.mono hxj41.1
       replace hRxd_0 := hRxd_0.mono hxj41.1
       refine Ok.cond (b := (easV0 xd e9)) rfl (fun hc11 => ?_) (fun hc11 => ?_)
       ·replace hF := hF.1 hc11
        refine Ok.seq (Ok.region (Ok.batch 2 [(6, .slice none 0 0), (7, .int .i64 1)] (by kernel_rfl) (Ok.nil (Ok.thenN (Ok.ret (Ok.thenR (Ok.blockR (Ok.thenR (Ok.thenR (Ok.blockR (Ok.thenR ?_)))))))))))
        exact Ok.resP (vs := [.slice none 0 0, .int .i64 1]) [] [] (by decide) rfl (.inl rfl) rfl (.cons (.tmp rfl) (.cons (.tmp rfl) .nil)) (hxl29.trans hxj41) ⟨([]), 1, none, 0, rfl, Rep.nil, rfl, hF⟩
       ·replace hF := hF.2 hc11
        refine Ok.skip (Ok.thenN (Ok.cut (fun a W => ∃ gj48 : Ghost, Gext w0 gj41 gj48 ∧ ∃ (x10j48 : Bool), StA 69 [(3, pv b1 0), (5, pv b2 0), (9, .map (some b6)), (10, .bool x10j48), (12, pv b10 0), (22, .slice axl_0 xl.length cxl_0), (23, .int .i64 (xl.length : Int)), (24, .int .i64 x24l29)] a ∧ StW w0 [.blk b10 (.cells #[.int .i64 e9.1, .int .i64 e9.2.1, sv e9.2.2.1, .bool e9.2.2.2.1, .bool e9.2.2.2.2.1, .bool e9.2.2.2.2.2.1, .bool e9.2.2.2.2.2.2.1, .bool e9.2.2.2.2.2.2.2] 41), .blk b6 (.map esyb6_0l29 ckyb6_0l29), .blk b2 (.cells #[sv xe.1, .int .i64 xe.2.1, .int .i64 xe.2.2.1, .int .i64 xe.2.2.2.1, sv xe.2.2.2.2.1, .bool xe.2.2.2.2.2.1, .bool xe.2.2.2.2.2.2] 27), .blk b1 (.cells #[.slice axd_0 xd.1.length cxd_0, .bool xd.2] 24)] gj48 W ∧ easj48 xl x10j48 x24l29 yb6_0l29 (easl29 xd xl xe K k29)) ?_ ?_))
        ·
         refine Ok.region (Ok.bat 2 [3, 5, 9, 12, 22, 23, 24] [(40, .bool x10l29)] ?_)
         refine Ok.boolAt 40 (x10l29) rfl (fun hc13 => ?_) (fun hc13 => ?_)
         ·replace hF := hF.1 hc13
          refine Ok.bat 7 [3, 5, 9, 12, 22, 23, 24] [(10, .bool true)] ?_
          refine Ok.nil (Ok.thenN ?_)
          exact fun a W hA hW => ⟨gj41, (Gext.refl w0 gj41), true, hA.sub (by kernel_rfl), hW, hF⟩
         ·replace hF := hF.2 hc13
          refine Ok.bat 2 [3, 5, 9, 12, 22, 23, 24] [(40, .bool false), (41, .map (some b6)), (42, pv b10 0)] ?_
          refine Ok.opYes (j := 1) (d := 40) (want := false) (b := false) rfl (by kernel_rfl) (by kernel_rfl) rfl (OpOk.step (v := .int .i64 e9.1) (Yields.load 0 rfl rfl Tryd.underlying3 rfl (by kernel_rfl)) rfl rfl ?_)
          cases hce14 : assocK e9.1 yb6_0l29 with
          | some e14 =>
           replace hF := hF.1 e14 hce14
           refine Ok.opYes (j := 1) (d := 40) (want := false) (b := false) rfl (by kernel_rfl) (by kernel_rfl) rfl (OpOk.lookupSome (vt := .int .i64) (row := false) keyInt 1 rfl hMyb6_0l29 rfl rfl Tryd.underlying50 Tryd.underlying3 hce14 rfl fun v14 cs14 hvi14 hr14 u14 hu14 => ?_)
           obtain rfl := hr14
           have hvi14 : ([.int .i64 e14] : List Value) = [v14] := hvi14
           injection hvi14 with hvi14
           subst hvi14
           have hu14 : u14 = .int .i64 e14 := hu14
           subst hu14
           refine Ok.bat 3 [3, 5, 9, 12, 22, 23, 24] [(10, .bool (e14 == 1))] ?_
           refine Ok.nil (Ok.thenN ?_)
           exact fun a W hA hW => ⟨gj41, (Gext.refl w0 gj41), (e14 == 1), hA.sub (by kernel_rfl), hW, hF⟩
          | none =>
           replace hF := hF.2 hce14
           refine Ok.opYes (j := 1) (d := 40) (want := false) (b := false) rfl (by kernel_rfl) (by kernel_rfl) rfl (OpOk.lookupNone (vt := .int .i64) (row := false) (z := .int .i64 0) (u := .int .i64 0) keyInt 1 rfl hMyb6_0l29 rfl rfl Tryd.underlying50 Tryd.underlying3 (by kernel_rfl) hce14 rfl rfl (Ok.bat 3 [3, 5, 9, 12, 22, 23, 24] [(10, .bool false)] ?_))
           refine Ok.nil (Ok.thenN ?_)
           exact fun a W hA hW => ⟨gj41, (Gext.refl w0 gj41), false, hA.sub (by kernel_rfl), hW, hF⟩
        ·
         clear hF
         rintro a W ⟨gj48, hxj48, x10j48, hA, hW, hF⟩
         refine (?_ : Ok _ _ _ _ _ _) a W hA hW
         clear hA hW
         replace hRxl_0 := hRxl_0.mono hxj48.1
         replace hMyb6_0l29 := hMyb6_0l29.mono hxj48.1
         replace hRxd_0 := hRxd_0.mono hxj48.1
         refine Ok.region (Ok.bat 2 [3, 5, 9, 10, 22, 23, 24] [(47, .map (some b6)), (48, pv b10 0)] ?_)
         refine Ok.op rfl (OpOk.step (v := .int .i64 e9.1) (Yields.load 0 rfl rfl Tryd.underlying3 rfl (by kernel_rfl)) rfl rfl (Ok.op rfl (OpOk.mapUpdate (vt := .int .i64) (row := false) (cells := [.int .i64 1]) (y := 1) keyInt 1 rfl hMyb6_0l29 rfl rfl rfl Tryd.underlying50 Tryd.underlying3 rfl rfl fun es12 ck12 hM12 => ?_)))
         refine Ok.nil (Ok.blockN (Ok.thenN (Ok.region (Ok.bat 2 [3, 5, 9, 10, 22, 23] [(24, .int .i64 (w6 (x24l29 + 1)))] ?_))))
         refine Ok.nil (Ok.thenN ?_)
         subst hg9
         exact fun a W hA hW => ⟨k29, Nat.lt_succ_self _, gj48, ((hxl29.trans hxj41).trans hxj48), x10j48, w6 (x24l29 + 1), es12, ck12, (putK (xl.getD (Int.toNat x24l29) default).1 1 yb6_0l29), hM12, hA.sub (by kernel_rfl), hW.sub (.cons _ (.cons_cons _ (.cons_cons _ (.cons_cons _ .slnil)))), hF⟩
     ·replace hF := hF.2 hc7
      refine Ok.exit (Ok.thenE (Ok.thenE (Ok.blockHit (Ok.thenN (Ok.seq (Ok.block (Ok.seq (Ok.region (Ok.bat 2 [3, 5] [(51, .bool x10l29)] ?_)))))))))
      refine Ok.nil (Ok.thenN (Ok.cond (b := x10l29) rfl (fun hc16 => ?_) (fun hc16 => ?_)))
      ·replace hF := hF.1 hc16
       refine Ok.seq (Ok.region (Ok.batch 2 [(6, .slice none 0 0), (7, .int .i64 6)] (by kernel_rfl) (Ok.nil (Ok.thenN (Ok.ret (Ok.blockR (Ok.thenR ?_)))))))
       exact Ok.resP (vs := [.slice none 0 0, .int .i64 6]) [] [] (by decide) rfl (.inl rfl) rfl (.cons (.tmp rfl) (.cons (.tmp rfl) .nil)) hxl29 ⟨([]), 6, none, 0, rfl, Rep.nil, rfl, hF⟩
      ·replace hF := hF.2 hc16
       refine Ok.cut (fun a W => ∃ gj60 : Ghost, Gext w0 gl29 gj60 ∧ StA 69 [(3, pv b1 0), (5, pv b2 0), (53, .bool (easV1 xe))] a ∧ StW w0 [.blk b2 (.cells #[sv xe.1, .int .i64 xe.2.1, .int .i64 xe.2.2.1, .int .i64 xe.2.2.2.1, sv xe.2.2.2.2.1, .bool xe.2.2.2.2.2.1, .bool xe.2.2.2.2.2.2] 27), .blk b1 (.cells #[.slice axd_0 xd.1.length cxd_0, .bool xd.2] 24)] gj60 W ∧ easj60 xd xe K) ?_ ?_
       ·
        refine Ok.region (Ok.bat 1 [3, 5] [(54, pv b2 0)] ?_)
        refine Ok.op rfl (OpOk.step (v := sv xe.1) (Yields.load 1 rfl rfl Tryd.underlying9 rfl (by kernel_rfl)) rfl rfl (Ok.op rfl (OpOk.step (v := .bool (xe.1 == ([] : Bs))) (Yields.strCmp (f := .eql) (a := xe.1) (b := ([] : Bs)) (by kernel_rfl) (by kernel_rfl) rfl) rfl rfl (Ok.bat 1 [3, 5] [(57, .bool (xe.1 == ([] : Bs)))] ?_))))
        refine Ok.boolAt 57 ((xe.1 == ([] : Bs))) rfl (fun hc20 => ?_) (fun hc20 => ?_)
        ·replace hF := hF.1 hc20
         refine Ok.bat 6 [3, 5] [(53, .bool true)] ?_
         refine Ok.nil (Ok.thenN (Ok.reval 53 rfl (show (.bool true : Value) = .bool (easV1 xe) from congrArg (Value.bool) (mor_t hc20)) ?_))
         exact fun a W hA hW => ⟨gl29, (Gext.refl w0 gl29), hA.sub (by kernel_rfl), hW.sub (.cons _ (.cons_cons _ (.cons_cons _ .slnil))), hF⟩
        ·replace hF := hF.2 hc20
         refine Ok.bat 1 [3, 5] [(57, .bool false), (58, pv b2 0)] ?_
         refine Ok.opYes (j := 3) (d := 57) (want := false) (b := false) rfl (by kernel_rfl) (by kernel_rfl) rfl (OpOk.step (v := sv xe.1) (Yields.load 1 rfl rfl Tryd.underlying9 rfl (by kernel_rfl)) rfl rfl (Ok.bat 4 [3, 5] [(53, .bool (decide ((xe.1.length : Int) > 40)))] ?_))
         refine Ok.nil (Ok.thenN (Ok.reval 53 rfl (show (.bool (decide ((xe.1.length : Int) > 40)) : Value) = .bool (easV1 xe) from congrArg (Value.bool) (mor_f hc20)) ?_))
         exact fun a W hA hW => ⟨gl29, (Gext.refl w0 gl29), hA.sub (by kernel_rfl), hW.sub (.cons _ (.cons_cons _ (.cons_cons _ .slnil))), hF⟩
       ·
        clear hF
        rintro a W ⟨gj60, hxj60, hA, hW, hF⟩
        refine (?_ : Ok _ _ _ _ _ _) a W hA hW
        clear hA hW
        replace hRxd_0 := hRxd_0.mono hxj60.1
        refine Ok.cond (b := (easV1 xe)) rfl (fun hc17 => ?_) (fun hc17 => ?_)
        ·replace hF := hF.1 hc17
         refine Ok.seq (Ok.region (Ok.batch 2 [(6, .slice none 0 0), (7, .int .i64 3)] (by kernel_rfl) (Ok.nil (Ok.thenN (Ok.ret (Ok.blockR (Ok.thenR ?_)))))))
         exact Ok.resP (vs := [.slice none 0 0, .int .i64 3]) [] [] (by decide) rfl (.inl rfl) rfl (.cons (.tmp rfl) (.cons (.tmp rfl) .nil)) (hxl29.trans hxj60) ⟨([]), 3, none, 0, rfl, Rep.nil, rfl, hF⟩
        ·replace hF := hF.2 hc17
         refine Ok.skip (Ok.blockN (Ok.thenN (Ok.seq (Ok.region (Ok.op rfl (OpOk.step (v := .agg #[.slice axd_0 xd.1.length cxd_0, .bool xd.2]) (Yields.loadAgg 1 2 #[.slice axd_0 xd.1.length cxd_0, .bool xd.2] rfl rfl Tryd.underlying24 rfl (by kernel_rfl) (by kernel_rfl) (by kernel_rfl)) rfl rfl (Ok.batch 1 [(63, .agg #[.slice axd_0 xd.1.length cxd_0, .bool xd.2]), (64, pv b2 1)] (by kernel_rfl) (Ok.op rfl (OpOk.step (v := .int .i64 xe.2.1) (Yields.load 0 rfl rfl Tryd.underlying3 rfl (by kernel_rfl)) rfl rfl ?_)))))))))
         obtain ⟨hp18, hF⟩ := hF
         refine Ok.op rfl (OpOk.callH [] _ enr rfl (epa_c xd xe.2.1 hRxd_0 hp18) rfl fun g19 _ _ hx19 hV19 => ?_)
         obtain ⟨a19_0, c19_0, rfl, hR19_0, rfl⟩ := hV19
         replace hRxd_0 := hRxd_0.mono hx19.1
         refine Ok.batch 4 [(6, .slice a19_0 ((epaS xd xe.2.1).1).length c19_0), (7, .int .i64 (epaS xd xe.2.1).2)] (by kernel_rfl) (Ok.nil (Ok.thenN (Ok.ret ?_)))
         exact Ok.resP (vs := [.slice a19_0 ((epaS xd xe.2.1).1).length c19_0, .int .i64 (epaS xd xe.2.1).2]) [] [] (by decide) rfl (.inl rfl) rfl (.cons (.tmp rfl) (.cons (.tmp rfl) .nil)) ((hxl29.trans hxj60).trans hx19) ⟨(epaS xd xe.2.1).1, (epaS xd xe.2.1).2, a19_0, c19_0, rfl, hR19_0, rfl, hF⟩
theorem any_of_get {α : Type} [Inhabited α] {p : α → Bool} {l : List α} {i : Nat} (hi : i < l.length) (h : p (l.getD i default) = true) : l.any p = true := List.any_eq_true.2 ⟨_, mem_getD default hi, h⟩
theorem any_none {α : Type} [Inhabited α] {p : α → Bool} {l : List α} (h : ∀ j, j < l.length → p (l.getD j default) = false) : l.any p = false := by
 rw [List.any_eq_false]
 intro x hx
 obtain ⟨j, hj, rfl⟩ := List.getElem_of_mem hx
 have := h j hj
 rw [List.getD_eq_getElem?_getD, List.getElem?_eq_getElem hj, Option.getD_some] at this
 simp [this]
theorem idIn_snoc (id : Int) (l : List LI) (x : LI) : idIn id (l ++ [x]) = (idIn id l || (id == x.1)) := by
 unfold idIn; rw [List.any_append]; simp
theorem eas_F (d : DC) (l : List LI) (e : EV) (hp : easP d l e) : easF d l e (fun a b => (a, b) = easS d l e) := by
 refine ⟨hp, fun h => by unfold easS; rw [if_t h], fun h => ⟨fun h2 => by unfold easS; rw [if_f h, if_t h2], fun h2 => ?_⟩⟩
 have hl : l.length ≤ 60 := by have := of_decide_eq_false h2; omega
 have loop : ∀ (q i : Nat) (m : List (Int × Int)), i + q = l.length → (∀ j, j < i → badS d (l.getD j default) = false) → (∀ id, assocK id m = if idIn id (l.take i) = true then some 1 else none) → easl29 d l e (fun a b => (a, b) = easS d l e) (q + 1) (twN l i) (i : Int) m := by
  intro q
  induction q with
  | zero =>
   intro i m hi hb hm
   obtain rfl : i = l.length := by omega
   have hany := any_none hb
   refine ⟨fun h3 => by have := of_decide_eq_true h3; omega, fun _ => ⟨fun h3 => ?_, fun h3 => ?_⟩⟩
   ·unfold easS; rw [if_f h, if_f h2, if_f hany, if_t h3]
   ·have j60 : easj60 d e (fun a b => (a, b) = easS d l e) := by
     refine ⟨fun h4 => ?_, fun h4 => ⟨hp, ?_⟩⟩ <;> unfold easV1 at h4
     ·unfold easS; rw [if_f h, if_f h2, if_f hany, if_f h3, if_t h4]
     ·unfold easS; rw [if_f h, if_f h2, if_f hany, if_f h3, if_f h4]
    exact ⟨fun _ => j60, fun _ => j60⟩
  | succ q ih =>
   intro i m hi hb hm
   have hil : i < l.length := by omega
   have j48 : ∀ b : Bool, b = (twN l (i + 1)) → badS d (l.getD i default) = false → easj48 l b (i : Int) m (easl29 d l e (fun a b => (a, b) = easS d l e) (q + 1)) := by
    intro b hb2 hbad
    subst hb2
    unfold easj48
    rw [w64 (by omega)]
    refine ih (i + 1) _ (by omega) (fun j hj => ?_) (fun id => ?_)
    ·by_cases hji : j < i
     ·exact hb j hji
     ·obtain rfl : j = i := by omega
      exact hbad
    ·rw [assoc_put, take_get default hil, idIn_snoc, hm, Int.toNat_natCast]
     cases idIn id (l.take i) <;> cases (id == (l.getD i default).1) <;> rfl
   have j41 : easj41 d l (fun a b => (a, b) = easS d l e) (l.getD (Int.toNat (i : Int)) default) (twN l i) (i : Int) m (easl29 d l e (fun a b => (a, b) = easS d l e) (q + 1)) := by
    refine ⟨fun h3 => ?_, fun h3 => ⟨fun h4 => ?_, fun h4 => ⟨fun v hv => ?_, fun hv => ?_⟩⟩⟩
    ·unfold easS
     rw [if_f h, if_f h2, if_t (any_of_get hil (by rw [Int.toNat_natCast] at h3; exact h3))]
    ·exact j48 true (by rw [twN, h4]; rfl) (by rw [Int.toNat_natCast] at h3; exact h3)
    ·rw [Int.toNat_natCast] at h3 hv
     rw [hm] at hv
     by_cases hc : idIn (l.getD i default).1 (l.take i) = true
     ·rw [if_pos hc] at hv
      obtain rfl : v = 1 := (Option.some.inj hv).symm
      exact j48 _ (by rw [twN, h4, hc]; rfl) h3
     ·rw [if_neg hc] at hv; cases hv
    ·rw [Int.toNat_natCast] at h3 hv
     rw [hm] at hv
     by_cases hc : idIn (l.getD i default).1 (l.take i) = true
     ·rw [if_pos hc] at hv; cases hv
     ·exact j48 _ (by rw [twN, h4]; simpa using hc) h3
   exact ⟨fun _ => ⟨by omega, by omega, fun _ => j41, fun _ => j41⟩, fun h3 => by have := of_decide_eq_false h3; omega⟩
 exact ⟨_, loop l.length 0 [] (by omega) (fun j hj => by omega) (fun id => rfl)⟩
theorem eas_c {g : Ghost} {axd_0 : Option Addr} {cxd_0 : Nat} (xd : (List (Int × Bs × (List (Bs × Bs)) × Bs × Int × List (Int))) × Bool) {axl_0 : Option Addr} {cxl_0 : Nat} (xl : List (Int × Int × Bs × Bool × Bool × Bool × Bool × Bool)) (xe : Bs × Int × Int × Int × Bs × Bool × Bool) (hRxd_0 : Rep g (.slice (.pair (.int .i64) (.pair (.str) (.pair (.slice (.pair (.str) (.str))) (.pair (.str) (.pair (.int .i64) (.slice (.int .i64)))))))) [.slice axd_0 xd.1.length cxd_0] xd.1) (hRxl_0 : Rep g (.slice (.pair (.int .i64) (.pair (.int .i64) (.pair (.str) (.pair (.bool) (.pair (.bool) (.pair (.bool) (.pair (.bool) (.bool))))))))) [.slice axl_0 xl.length cxl_0] xl)  (hp : easP xd xl xe) : CallsH Tryd.prog 13 #[.agg #[.slice axd_0 xd.1.length cxd_0, .bool xd.2], .slice axl_0 xl.length cxl_0, .agg #[sv xe.1, .int .i64 xe.2.1, .int .i64 xe.2.2.1, .int .i64 xe.2.2.2.1, sv xe.2.2.2.2.1, .bool xe.2.2.2.2.2.1, .bool xe.2.2.2.2.2.2]] g [] (fun g' H' v => ∃ (ar0_0 : Option Addr) (cr0_0 : Nat), v = .tuple #[.slice ar0_0 ((easS xd xl xe).1).length cr0_0, .int .i64 (easS xd xl xe).2] ∧ Rep g' (.slice (.int .i64)) [.slice ar0_0 ((easS xd xl xe).1).length cr0_0] (easS xd xl xe).1 ∧ H' = []) :=
 (eas_ok xd xl xe hRxd_0 hRxl_0 _ (eas_F xd xl xe hp)).mono (by rintro g' H' v _ ⟨r0, r1, ar0_0, cr0_0, rfl, hRr0_0, rfl, hK⟩; obtain ⟨rfl, rfl⟩ : r0 = (easS xd xl xe).1 ∧ r1 = (easS xd xl xe).2 := ⟨congrArg (fun z => z.1) hK, congrArg (fun z => z.2) hK⟩; exact ⟨ar0_0, cr0_0, rfl, hRr0_0, rfl⟩)
theorem eas_len (d : DC) (l : List LI) (e : EV) : (easS d l e).1.length ≤ 41 := by
 unfold easS
 split
 ·simp
 ·split
  ·simp
  ·split
   ·simp
   ·split
    ·simp
    ·split
     ·simp
     ·exact epa_len _ _
theorem eas_few (d : DC) (l : List LI) (e : EV) (h : ((easS d l e).2 != 0) = false) : l.length ≤ 60 := by
 unfold easS at h
 split at h
 ·rename_i h1; exact absurd h (by rw [h1]; simp)
 ·split at h
  ·cases h
  ·rename_i h2
   have := of_decide_eq_false (by simpa using h2 : decide ((l.length : Int) > 60) = false)
   omega
/-! steps -/
def ephF (xk : Int) (xother : Int) (x2 : Int) (K : Int → Prop) : Prop :=
 (((xk == x2)) = true → K 2) ∧ (((xk == x2)) = false → K xother)
theorem eph_ok {g : Ghost} (xk : Int) (xother : Int) {bx2 ox2 : Nat} (x2 : Int) (hPx2 : PtrTo g (.int .i64) bx2 ox2 x2) (K : Int → Prop)
  (hF : ephF xk xother x2 K) : CallsH Tryd.prog 26 #[.int .i64 xk, .int .i64 xother, pv bx2 ox2] g [] (fun g' H' v => ∃ (r0 : Int), v = .int .i64 r0 ∧ H' = [] ∧ K r0) := by
 refine CallsH.enter 10 [(0, .int .i64 xk), (1, .int .i64 xother), (2, pv bx2 ox2)] Tryd.func26 rfl (by kernel_rfl) (by kernel_rfl) (by kernel_rfl) fun w0 => ?_
 obtain ⟨csx2, _, hatx2, hrx2⟩ := hPx2
 obtain rfl := hrx2
 replace hatx2 : At g bx2 ox2 [.int .i64 x2] := hatx2
 refine Ok.seq (Ok.region (Ok.batch 1 [(0, .int .i64 xk), (1, .int .i64 xother), (2, pv bx2 ox2)] (by kernel_rfl) (Ok.nil (Ok.thenN (Ok.seq (Ok.seq (Ok.region (Ok.bat 1 [1, 2] [(6, .int .i64 xk)] ?_))))))))
 refine Ok.op rfl (OpOk.step (v := .int .i64 x2) (Yields.loadRo 0 hatx2 (by kernel_rfl) Tryd.underlying3 rfl (by kernel_rfl)) rfl rfl (Ok.bat 1 [1] [(8, .bool (xk == x2))] ?_))
 refine Ok.nil (Ok.thenN (Ok.cond (b := (xk == x2)) rfl (fun hc1 => ?_) (fun hc1 => ?_)))
 ·replace hF := hF.1 hc1
  refine Ok.seq (Ok.region (Ok.batch 1 [(5, .int .i64 2)] (by kernel_rfl) (Ok.nil (Ok.thenN (Ok.ret (Ok.thenR ?_))))))
  exact Ok.resH (vs := [.int .i64 2]) (.inl rfl) rfl (.cons (.tmp rfl) .nil) (Gext.refl w0 g) ⟨2, rfl, rfl, hF⟩
 ·replace hF := hF.2 hc1
  refine Ok.skip (Ok.thenN (Ok.seq (Ok.region (Ok.batch 2 [(5, .int .i64 xother)] (by kernel_rfl) (Ok.nil (Ok.thenN (Ok.ret ?_)))))))
  exact Ok.resH (vs := [.int .i64 xother]) (.inl rfl) rfl (.cons (.tmp rfl) .nil) (Gext.refl w0 g) ⟨xother, rfl, rfl, hF⟩
def ephM (xk : Int) (xother : Int) (x2 : Int) : Int := (if (xk == x2) = true then 2 else xother)
theorem ephF_A (xk : Int) (xother : Int) (x2 : Int) (P : Int → Prop) (h : P (ephM xk xother x2)) : ephF xk xother x2 (fun k0 => P k0) := by
 unfold ephM at h
 unfold ephF
 refine ⟨fun hc0 => ?_, fun hc0 => ?_⟩
 ·rw [if_t hc0] at h
  have hd0 := hc0; try simp only [Bool.and_eq_true, Bool.or_eq_true, Bool.and_eq_false_iff, Bool.or_eq_false_iff, Bool.not_eq_true', Bool.not_eq_false', decide_eq_true_eq, decide_eq_false_iff_not, beq_iff_eq, beq_eq_false_iff_ne, ne_eq] at hd0
  exact h
 ·rw [if_f hc0] at h
  have hd0 := hc0; try simp only [Bool.and_eq_true, Bool.or_eq_true, Bool.and_eq_false_iff, Bool.or_eq_false_iff, Bool.not_eq_true', Bool.not_eq_false', decide_eq_true_eq, decide_eq_false_iff_not, beq_iff_eq, beq_eq_false_iff_ne, ne_eq] at hd0
  exact h
theorem eph_F (xk : Int) (xother : Int) (x2 : Int) : ephF xk xother x2 (fun k0 => k0 = ephM xk xother x2) :=
 ephF_A xk xother x2 (fun z => z = ephM xk xother x2) rfl
theorem eph_c {g : Ghost} (xk : Int) (xother : Int) {bx2 ox2 : Nat} (x2 : Int) (hPx2 : PtrTo g (.int .i64) bx2 ox2 x2)  : CallsG Tryd.prog 26 #[.int .i64 xk, .int .i64 xother, pv bx2 ox2] g (.int .i64 (ephM xk xother x2)) :=
 (eph_ok xk xother x2 hPx2 _ (eph_F xk xother x2)).gives (by rintro g' H' v _ ⟨r0, rfl, rfl, hK⟩; subst hK; rfl)
abbrev SP := Int × Int × Bool
def fstp (way : List Int) (i : Nat) : SP := (way.getD i default, ephM (i : Int) 1 ((way.length : Int) - 1), true)
def bstp (way : List Int) (i : Nat) : SP := (way.getD i default, ephM (i : Int) 3 ((way.length : Int) - 1), false)
def back (way : List Int) (b : Bool) : Nat → List SP
 | 0 => []
 | k + 1 => bstp way k :: (if b = true then back way b k else [])
def estS (way : List Int) (b : Bool) : List SP := (List.range way.length).map (fstp way) ++ back way b way.length
def estP (way : List Int) (_ : Bool) : Prop := way.length ≤ 1000
theorem back_len (way : List Int) (b : Bool) : ∀ k, (back way b k).length ≤ k
 | 0 => Nat.le_refl _
 | k + 1 => by
  rw [back, List.length_cons]
  split
  ·have := back_len way b k; omega
  ·simp
theorem est_len (way : List Int) (b : Bool) : (estS way b).length ≤ 2 * way.length := by
 unfold estS
 rw [List.length_append, List.length_map, List.length_range]
 have := back_len way b way.length
 omega
def estV1 (xpath : List (Int)) (xbubbles : Bool) (x10l30 : Int) : Bool :=
 ((decide (x10l30 ≥ 0)) && (xbubbles || (x10l30 == (w6 ((xpath.length : Int) - 1)))))
def estj32 (xpath : List (Int)) (xbubbles : Bool) (K : (List (Int × Int × Bool)) → Prop) (x10l30 : Int) (yown2_0l30 : List (Int × Int × Bool)) (C30 : Int → (List (Int × Int × Bool)) → Prop) : Prop :=
 (((estV1 xpath xbubbles x10l30)) = true → (0 : Int) ≤ x10l30 ∧ Int.toNat x10l30 < xpath.length ∧ (yown2_0l30 ++ ([((xpath.getD (Int.toNat x10l30) default), (ephM x10l30 3 (w6 ((xpath.length : Int) - 1))), false)] : List (Int × Int × Bool))).length ≤ 5864062014805 ∧ C30 (w6 (x10l30 - 1)) (yown2_0l30 ++ ([((xpath.getD (Int.toNat x10l30) default), (ephM x10l30 3 (w6 ((xpath.length : Int) - 1))), false)] : List (Int × Int × Bool)))) ∧ (((estV1 xpath xbubbles x10l30)) = false → K yown2_0l30)
def estl30b (xpath : List (Int)) (xbubbles : Bool) (K : (List (Int × Int × Bool)) → Prop) (x10l30 : Int) (yown2_0l30 : List (Int × Int × Bool)) (C30 : Int → (List (Int × Int × Bool)) → Prop) : Prop :=
 ((decide (x10l30 ≥ 0)) = true → ((xbubbles) = true → estj32 xpath xbubbles K x10l30 yown2_0l30 C30) ∧ ((xbubbles) = false → estj32 xpath xbubbles K x10l30 yown2_0l30 C30)) ∧ ((decide (x10l30 ≥ 0)) = false → estj32 xpath xbubbles K x10l30 yown2_0l30 C30)
def estl30 (xpath : List (Int)) (xbubbles : Bool) (K : (List (Int × Int × Bool)) → Prop) : Nat → Int → (List (Int × Int × Bool)) → Prop
 | 0, _, _ => False
 | k + 1, x10l30, yown2_0l30 => estl30b xpath xbubbles K x10l30 yown2_0l30 (estl30 xpath xbubbles K k)
def estl13b (xpath : List (Int)) (xbubbles : Bool) (K : (List (Int × Int × Bool)) → Prop) (x17l13 : Int) (yown2_0l13 : List (Int × Int × Bool)) (C13 : Int → (List (Int × Int × Bool)) → Prop) : Prop :=
 ((decide (x17l13 < (xpath.length : Int))) = true → (0 : Int) ≤ x17l13 ∧ Int.toNat x17l13 < xpath.length ∧ (yown2_0l13 ++ ([((xpath.getD (Int.toNat x17l13) default), (ephM x17l13 1 (w6 ((xpath.length : Int) - 1))), true)] : List (Int × Int × Bool))).length ≤ 5864062014805 ∧ C13 (w6 (x17l13 + 1)) (yown2_0l13 ++ ([((xpath.getD (Int.toNat x17l13) default), (ephM x17l13 1 (w6 ((xpath.length : Int) - 1))), true)] : List (Int × Int × Bool)))) ∧ ((decide (x17l13 < (xpath.length : Int))) = false → ∃ k, estl30 xpath xbubbles K k (w6 ((xpath.length : Int) - 1)) yown2_0l13)
def estl13 (xpath : List (Int)) (xbubbles : Bool) (K : (List (Int × Int × Bool)) → Prop) : Nat → Int → (List (Int × Int × Bool)) → Prop
 | 0, _, _ => False
 | k + 1, x17l13, yown2_0l13 => estl13b xpath xbubbles K x17l13 yown2_0l13 (estl13 xpath xbubbles K k)
def estF (xpath : List (Int)) (xbubbles : Bool) (K : (List (Int × Int × Bool)) → Prop) : Prop :=
 ∃ k, estl13 xpath xbubbles K k 0 ([] : List (Int × Int × Bool))
theorem est_ok {g : Ghost} {axpath_0 : Option Addr} {cxpath_0 : Nat} (xpath : List (Int)) (xbubbles : Bool) (hRxpath_0 : Rep g (.slice (.int .i64)) [.slice axpath_0 xpath.length cxpath_0] xpath) (K : (List (Int × Int × Bool)) → Prop)
  (hF : estF xpath xbubbles K) : CallsH Tryd.prog 14 #[.slice axpath_0 xpath.length cxpath_0, .bool xbubbles] g [] (fun g' H' v => ∃ (r0 : List (Int × Int × Bool)), ∃ (ar0_0 : Option Addr) (cr0_0 : Nat), v = .slice ar0_0 r0.length cr0_0 ∧ Rep g' (.slice (.pair (.int .i64) (.pair (.int .i64) (.bool)))) [.slice ar0_0 r0.length cr0_0] r0 ∧ H' = [] ∧ K r0) := by
 refine CallsH.enter 56 [(0, .slice axpath_0 xpath.length cxpath_0), (1, .bool xbubbles)] Tryd.func14 rfl (by kernel_rfl) (by kernel_rfl) (by kernel_rfl) fun w0 => ?_
 refine Ok.seq (Ok.region (Ok.batch 1 [(0, .slice axpath_0 xpath.length cxpath_0), (1, .bool xbubbles)] (by kernel_rfl) (Ok.nil (Ok.thenN (Ok.seq (Ok.region (Ok.bat 3 [0, 1] [(13, .int .i64 (w6 ((xpath.length : Int) - 1)))] ?_)))))))
 refine Ok.op rfl (OpOk.alloc (z := .int .i64 0) (cs := #[.int .i64 0]) (by kernel_rfl) (by kernel_rfl) rfl fun b1 => ?_)
 refine Ok.op rfl (OpOk.sto (k := 1) (v := .int .i64 (w6 ((xpath.length : Int) - 1))) 0 #[.int .i64 (w6 ((xpath.length : Int) - 1))] rfl rfl rfl ?_)
 refine Ok.nil (Ok.thenN (Ok.seq (Ok.region (Ok.bat 2 [0, 1] [(5, pv b1 0), (6, .func (.func 26) #[] #[pv b1 0])] ?_))))
 refine Ok.nil (Ok.thenN (Ok.seq (Ok.region (Ok.bat 1 [0, 1, 5, 6] [(7, .slice none 0 0)] ?_))))
 have hL2 : RepL g (.pair (.int .i64) (.pair (.int .i64) (.bool))) [] [] := rfl
 refine Ok.ownNil 56 3 (Ok.nil (Ok.thenN (Ok.seq (Ok.seq (Ok.region (Ok.bat 3 [0, 1, 5, 6] [(7, .slice none ([] : List (Int × Int × Bool)).length 0), (15, .slice axpath_0 xpath.length cxpath_0), (16, .int .i64 (xpath.length : Int)), (17, .int .i64 0)] ?_))))))
 refine Ok.nil (Ok.thenN (Ok.block ?_))
 obtain ⟨k, hF⟩ := hF
 refine Ok.loop (fun k a W => ∃ gl13 : Ghost, Gext w0 g gl13 ∧ ∃ (x17l13 : Int) (ayown2_0l13 : Option Addr) (cyown2_0l13 : Nat) (yown2_0l13 : List (Int × Int × Bool)) (xsyown2_0l13 : List Value), RepL gl13 (.pair (.int .i64) (.pair (.int .i64) (.bool))) xsyown2_0l13 yown2_0l13 ∧ StA 56 [(0, .slice axpath_0 xpath.length cxpath_0), (1, .bool xbubbles), (5, pv b1 0), (6, .func (.func 26) #[] #[pv b1 0]), (7, .slice ayown2_0l13 yown2_0l13.length cyown2_0l13), (15, .slice axpath_0 xpath.length cxpath_0), (16, .int .i64 (xpath.length : Int)), (17, .int .i64 x17l13)] a ∧ StW w0 [.own (.slice ayown2_0l13 yown2_0l13.length cyown2_0l13) 56 3 yown2_0l13.length xsyown2_0l13, .blk b1 (.cells #[.int .i64 (w6 ((xpath.length : Int) - 1))] 3)] gl13 W ∧ estl13 xpath xbubbles K k x17l13 yown2_0l13) k ?_ ?_
 ·
  exact fun a W hA hW => ⟨g, (Gext.refl w0 g), 0, none, 0, ([] : List (Int × Int × Bool)), [], hL2, hA.sub (by kernel_rfl), hW, hF⟩
 ·
  clear hF
  rintro k13 a W ⟨gl13, hxl13, x17l13, ayown2_0l13, cyown2_0l13, yown2_0l13, xsyown2_0l13, hLyown2_0l13, hA, hW, hF⟩
  cases k13 with
  | zero => exact (hF : False).elim
  | succ k13 =>
   refine (?_ : Ok _ _ _ _ _ _) a W hA hW
   clear hA hW
   replace hRxpath_0 := hRxpath_0.mono hxl13.1
   refine Ok.seq (Ok.region (Ok.bat 1 [0, 1, 5, 6, 7, 15, 16, 17] [(18, .bool (decide (x17l13 < (xpath.length : Int))))] ?_))
   refine Ok.nil (Ok.thenN (Ok.seq (Ok.cond (b := decide (x17l13 < (xpath.length : Int))) rfl (fun hc3 => ?_) (fun hc3 => ?_))))
   ·replace hF := hF.1 hc3
    refine Ok.skip (Ok.thenN (Ok.seq (Ok.block (Ok.seq (Ok.region (Ok.bat 1 [0, 1, 5, 6, 7, 15, 16, 17] [(19, .int .i64 x17l13)] ?_))))))
    obtain ⟨h05, h15, hF⟩ := hF
    have he5 := get_of (l := xpath) (default : Int) h15
    generalize hg5 : (xpath.getD (Int.toNat x17l13) default) = e5 at he5 hF ⊢
    refine Ok.op rfl (OpOk.indexRo (e := .int .i64) (i := x17l13) (el := e5) rfl rfl Tryd.underlying28 (by kernel_rfl) hRxpath_0 h05 he5 rfl fun q4 o4 cs4 _ hat4 hr4 => ?_)
    obtain rfl := hr4
    replace hat4 : At gl13 q4 o4 [.int .i64 e5] := hat4
    refine Ok.op rfl (OpOk.step (v := .int .i64 e5) (Yields.loadRo 0 hat4 (by kernel_rfl) Tryd.underlying3 rfl (by kernel_rfl)) rfl rfl (Ok.bat 2 [0, 1, 5, 6, 7, 15, 16, 17] [(8, .int .i64 x17l13), (9, .int .i64 e5)] ?_))
    refine Ok.nil (Ok.thenN (Ok.region (Ok.bat 4 [0, 1, 5, 6, 15, 16, 17] [(22, .slice ayown2_0l13 yown2_0l13.length cyown2_0l13), (23, .int .i64 e5), (24, .func (.func 26) #[] #[pv b1 0]), (25, .int .i64 x17l13)] ?_)))
    refine Ok.op rfl (OpOk.callG (v := .int .i64 (ephM x17l13 1 (w6 ((xpath.length : Int) - 1)))) enr (fun W hW => eph_c x17l13 1 (w6 ((xpath.length : Int) - 1)) ⟨[.int .i64 (w6 ((xpath.length : Int) - 1))], rfl, (hW.seeBlk 1 rfl 0 [.int .i64 (w6 ((xpath.length : Int) - 1))] rfl), rfl⟩) rfl ?_)
    refine Ok.bat 1 [0, 1, 5, 6, 15, 16, 17, 22] [(27, .agg #[.int .i64 e5, .int .i64 (ephM x17l13 1 (w6 ((xpath.length : Int) - 1))), .bool true])] ?_
    have hL6 : RepL gl13 (.pair (.int .i64) (.pair (.int .i64) (.bool))) ([.int .i64 e5, .int .i64 (ephM x17l13 1 (w6 ((xpath.length : Int) - 1))), .bool true] : List Value) ([(e5, (ephM x17l13 1 (w6 ((xpath.length : Int) - 1))), true)] : List (Int × Int × Bool)) := (RepL.consN (c := [.int .i64 e5, .int .i64 (ephM x17l13 1 (w6 ((xpath.length : Int) - 1))), .bool true]) ⟨[.int .i64 e5], [.int .i64 (ephM x17l13 1 (w6 ((xpath.length : Int) - 1))), .bool true], rfl, rfl, ⟨[.int .i64 (ephM x17l13 1 (w6 ((xpath.length : Int) - 1)))], [.bool true], rfl, rfl, rfl⟩⟩ rfl)
    refine Ok.op rfl (OpOk.lit (E := 56) (.pair (.int .i64) (.pair (.int .i64) (.bool))) ([(e5, (ephM x17l13 1 (w6 ((xpath.length : Int) - 1))), true)] : List (Int × Int × Bool)) ([.int .i64 e5, .int .i64 (ephM x17l13 1 (w6 ((xpath.length : Int) - 1))), .bool true] : List Value) (by kernel_rfl) (by kernel_rfl) rfl (by kernel_rfl) hL6 rfl fun b6 => ?_)
    obtain ⟨hb7, hF⟩ := hF
    refine Ok.op rfl (OpOk.append' (e := .pair (.int .i64) (.pair (.int .i64) (.bool))) 24 5864062014805 1 0 rfl rfl rfl rfl hLyown2_0l13 hL6 Tryd.underlying53 (by kernel_rfl) (by kernel_rfl) (by kernel_rfl) hb7 rfl fun a7 c7 xs7 hL7 => ?_)
    refine Ok.bat 1 [0, 1, 5, 6, 15, 16, 17] [(7, .slice a7 (yown2_0l13 ++ ([(e5, (ephM x17l13 1 (w6 ((xpath.length : Int) - 1))), true)] : List (Int × Int × Bool))).length c7)] ?_
    refine Ok.nil (Ok.blockN (Ok.thenN (Ok.region (Ok.bat 2 [0, 1, 5, 6, 7, 15, 16] [(17, .int .i64 (w6 (x17l13 + 1)))] ?_))))
    refine Ok.nil (Ok.thenN ?_)
    subst hg5
    exact fun a W hA hW => ⟨k13, Nat.lt_succ_self _, gl13, hxl13, w6 (x17l13 + 1), a7, c7, (yown2_0l13 ++ ([((xpath.getD (Int.toNat x17l13) default), (ephM x17l13 1 (w6 ((xpath.length : Int) - 1))), true)] : List (Int × Int × Bool))), xs7, hL7, hA.sub (by kernel_rfl), hW.sub (.cons _ (.cons_cons _ (.cons_cons _ .slnil))), hF⟩
   ·replace hF := hF.2 hc3
    refine Ok.exit (Ok.thenE (Ok.thenE (Ok.blockHit (Ok.thenN (Ok.seq (Ok.seq (Ok.region (Ok.op rfl (OpOk.step (v := .int .i64 (w6 ((xpath.length : Int) - 1))) (Yields.load 1 rfl rfl Tryd.underlying3 rfl (by kernel_rfl)) rfl rfl (Ok.bat 1 [0, 1, 5, 6, 7] [(10, .int .i64 (w6 ((xpath.length : Int) - 1)))] ?_))))))))))
    refine Ok.nil (Ok.thenN (Ok.block ?_))
    obtain ⟨k, hF⟩ := hF
    refine Ok.loop (fun k a W => ∃ gl30 : Ghost, Gext w0 gl13 gl30 ∧ ∃ (x10l30 : Int) (ayown2_0l30 : Option Addr) (cyown2_0l30 : Nat) (yown2_0l30 : List (Int × Int × Bool)) (xsyown2_0l30 : List Value), RepL gl30 (.pair (.int .i64) (.pair (.int .i64) (.bool))) xsyown2_0l30 yown2_0l30 ∧ StA 56 [(0, .slice axpath_0 xpath.length cxpath_0), (1, .bool xbubbles), (5, pv b1 0), (6, .func (.func 26) #[] #[pv b1 0]), (7, .slice ayown2_0l30 yown2_0l30.length cyown2_0l30), (10, .int .i64 x10l30)] a ∧ StW w0 [.own (.slice ayown2_0l30 yown2_0l30.length cyown2_0l30) 56 3 yown2_0l30.length xsyown2_0l30, .blk b1 (.cells #[.int .i64 (w6 ((xpath.length : Int) - 1))] 3)] gl30 W ∧ estl30 xpath xbubbles K k x10l30 yown2_0l30) k ?_ ?_
    ·
     exact fun a W hA hW => ⟨gl13, (Gext.refl w0 gl13), w6 ((xpath.length : Int) - 1), ayown2_0l13, cyown2_0l13, yown2_0l13, xsyown2_0l13, hLyown2_0l13, hA.sub (by kernel_rfl), hW, hF⟩
    ·
     clear hF
     rintro k30 a W ⟨gl30, hxl30, x10l30, ayown2_0l30, cyown2_0l30, yown2_0l30, xsyown2_0l30, hLyown2_0l30, hA, hW, hF⟩
     cases k30 with
     | zero => exact (hF : False).elim
     | succ k30 =>
      refine (?_ : Ok _ _ _ _ _ _) a W hA hW
      clear hA hW
      replace hRxpath_0 := hRxpath_0.mono hxl30.1
      refine Ok.seq (Ok.cut (fun a W => ∃ gj32 : Ghost, Gext w0 gl30 gj32 ∧ StA 56 [(0, .slice axpath_0 xpath.length cxpath_0), (1, .bool xbubbles), (5, pv b1 0), (6, .func (.func 26) #[] #[pv b1 0]), (7, .slice ayown2_0l30 yown2_0l30.length cyown2_0l30), (10, .int .i64 x10l30), (41, .bool (estV1 xpath xbubbles x10l30))] a ∧ StW w0 [.own (.slice ayown2_0l30 yown2_0l30.length cyown2_0l30) 56 3 yown2_0l30.length xsyown2_0l30, .blk b1 (.cells #[.int .i64 (w6 ((xpath.length : Int) - 1))] 3)] gj32 W ∧ estj32 xpath xbubbles K x10l30 yown2_0l30 (estl30 xpath xbubbles K k30)) ?_ ?_)
      ·
       refine Ok.region (Ok.bat 3 [0, 1, 5, 6, 7, 10] [(34, .bool (decide (x10l30 ≥ 0)))] ?_)
       refine Ok.boolAt 34 (decide (x10l30 ≥ 0)) rfl (fun hc14 => ?_) (fun hc14 => ?_)
       ·replace hF := hF.1 hc14
        refine Ok.bat 2 [0, 1, 5, 6, 7, 10] [(34, .bool true), (36, .bool xbubbles)] ?_
        refine Ok.boolAt 36 (xbubbles) rfl (fun hc15 => ?_) (fun hc15 => ?_)
        ·replace hF := hF.1 hc15
         refine Ok.bat 5 [0, 1, 5, 6, 7, 10] [(41, .bool true)] ?_
         refine Ok.nil (Ok.thenN (Ok.reval 41 rfl (show (.bool true : Value) = .bool (estV1 xpath xbubbles x10l30) from congrArg (Value.bool) ((Eq.trans (mor_t hc15) (mand_t hc14)))) ?_))
         exact fun a W hA hW => ⟨gl30, (Gext.refl w0 gl30), hA.sub (by kernel_rfl), hW, hF⟩
        ·replace hF := hF.2 hc15
         refine Ok.bat 1 [0, 1, 5, 6, 7, 10, 34] [(36, .bool false), (37, .int .i64 x10l30)] ?_
         refine Ok.opYes (j := 4) (d := 36) (want := false) (b := false) rfl (by kernel_rfl) (by kernel_rfl) rfl (OpOk.step (v := .int .i64 (w6 ((xpath.length : Int) - 1))) (Yields.load 1 rfl rfl Tryd.underlying3 rfl (by kernel_rfl)) rfl rfl (Ok.bat 3 [0, 1, 5, 6, 7, 10] [(41, .bool (x10l30 == (w6 ((xpath.length : Int) - 1))))] ?_))
         refine Ok.nil (Ok.thenN (Ok.reval 41 rfl (show (.bool (x10l30 == (w6 ((xpath.length : Int) - 1))) : Value) = .bool (estV1 xpath xbubbles x10l30) from congrArg (Value.bool) ((Eq.trans (mor_f hc15) (mand_t hc14)))) ?_))
         exact fun a W hA hW => ⟨gl30, (Gext.refl w0 gl30), hA.sub (by kernel_rfl), hW, hF⟩
       ·replace hF := hF.2 hc14
        refine Ok.bat 7 [0, 1, 5, 6, 7, 10] [(41, .bool false)] ?_
        refine Ok.nil (Ok.thenN (Ok.reval 41 rfl (show (.bool false : Value) = .bool (estV1 xpath xbubbles x10l30) from congrArg (Value.bool) (mand_f hc14)) ?_))
        exact fun a W hA hW => ⟨gl30, (Gext.refl w0 gl30), hA.sub (by kernel_rfl), hW, hF⟩
      ·
       clear hF
       rintro a W ⟨gj32, hxj32, hA, hW, hF⟩
       refine (?_ : Ok _ _ _ _ _ _) a W hA hW
       clear hA hW
       replace hRxpath_0 := hRxpath_0.mono hxj32.1
       replace hLyown2_0l30 := hLyown2_0l30.mono hxj32.1
       refine Ok.cond (b := (estV1 xpath xbubbles x10l30)) rfl (fun hc8 => ?_) (fun hc8 => ?_)
       ·replace hF := hF.1 hc8
        refine Ok.skip (Ok.thenN (Ok.seq (Ok.block (Ok.mix [] [] [.blk b1 (.cells #[.int .i64 (w6 ((xpath.length : Int) - 1))] 3)] [(0, true), (1, true), (2, true), (3, true), (4, true), (5, true), (6, true), (7, true), (8, true), (9, false), (10, false), (11, true)] (by kernel_rfl) (by kernel_rfl) (.cons _ (.cons_cons _ .slnil)) (OkM.bat 3 [0, 1, 5, 6, 10] [(44, .slice ayown2_0l30 yown2_0l30.length cyown2_0l30), (45, .slice axpath_0 xpath.length cxpath_0), (46, .int .i64 x10l30)] ?_)))))
        obtain ⟨h010, h110, hF⟩ := hF
        have he10 := get_of (l := xpath) (default : Int) h110
        generalize hg10 : (xpath.getD (Int.toNat x10l30) default) = e10 at he10 hF ⊢
        refine OkM.head rfl rfl (show _ = [.blk b1 (.cells #[.int .i64 (w6 ((xpath.length : Int) - 1))] 3)] from rfl) (OpQ.indexRo (e := .int .i64) (i := x10l30) (el := e10) rfl rfl Tryd.underlying28 (by kernel_rfl) hRxpath_0 h010 he10 rfl fun q9 o9 cs9 _ hat9 hr9 => ?_)
        obtain rfl := hr9
        replace hat9 : At gj32 q9 o9 [.int .i64 e10] := hat9
        refine OkM.head rfl rfl (show _ = [.blk b1 (.cells #[.int .i64 (w6 ((xpath.length : Int) - 1))] 3)] from rfl) (OpQ.step (v := .int .i64 e10) (Yields.loadRo 0 hat9 (by kernel_rfl) Tryd.underlying3 rfl (by kernel_rfl)) rfl rfl (OkM.bat 2 [0, 1, 5, 6, 10, 44] [(48, .int .i64 e10), (49, .func (.func 26) #[] #[pv b1 0]), (50, .int .i64 x10l30)] ?_))
        refine OkM.head rfl rfl (show _ = [.blk b1 (.cells #[.int .i64 (w6 ((xpath.length : Int) - 1))] 3)] from rfl) (OpQ.callG (v := .int .i64 (ephM x10l30 3 (w6 ((xpath.length : Int) - 1)))) enr (fun W hW => eph_c x10l30 3 (w6 ((xpath.length : Int) - 1)) ⟨[.int .i64 (w6 ((xpath.length : Int) - 1))], rfl, (hW.seeBlk 0 rfl 0 [.int .i64 (w6 ((xpath.length : Int) - 1))] rfl), rfl⟩) rfl ?_)
        refine OkM.bat 1 [0, 1, 5, 6, 10, 44] [(52, .agg #[.int .i64 e10, .int .i64 (ephM x10l30 3 (w6 ((xpath.length : Int) - 1))), .bool false])] ?_
        have hL11 : RepL gj32 (.pair (.int .i64) (.pair (.int .i64) (.bool))) ([.int .i64 e10, .int .i64 (ephM x10l30 3 (w6 ((xpath.length : Int) - 1))), .bool false] : List Value) ([(e10, (ephM x10l30 3 (w6 ((xpath.length : Int) - 1))), false)] : List (Int × Int × Bool)) := (RepL.consN (c := [.int .i64 e10, .int .i64 (ephM x10l30 3 (w6 ((xpath.length : Int) - 1))), .bool false]) ⟨[.int .i64 e10], [.int .i64 (ephM x10l30 3 (w6 ((xpath.length : Int) - 1))), .bool false], rfl, rfl, ⟨[.int .i64 (ephM x10l30 3 (w6 ((xpath.length : Int) - 1)))], [.bool false], rfl, rfl, rfl⟩⟩ rfl)
        refine OkM.tail rfl rfl (OpOk.lit (E := 56) (.pair (.int .i64) (.pair (.int .i64) (.bool))) ([(e10, (ephM x10l30 3 (w6 ((xpath.length : Int) - 1))), false)] : List (Int × Int × Bool)) ([.int .i64 e10, .int .i64 (ephM x10l30 3 (w6 ((xpath.length : Int) - 1))), .bool false] : List Value) (by kernel_rfl) (by kernel_rfl) rfl (by kernel_rfl) hL11 rfl fun b11 => ?_)
        refine OkM.leaf (i := 9) (show _ = [.blk b1 (.cells #[.int .i64 (w6 ((xpath.length : Int) - 1))] 3)] from rfl) (Gle.refl _) (.cons _ (.cons _ (.cons_cons _ .slnil))) ?_
        obtain ⟨hb12, hF⟩ := hF
        refine OkM.tail rfl rfl (OpOk.append' (e := .pair (.int .i64) (.pair (.int .i64) (.bool))) 24 5864062014805 1 0 rfl rfl rfl rfl hLyown2_0l30 hL11 Tryd.underlying53 (by kernel_rfl) (by kernel_rfl) (by kernel_rfl) hb12 rfl fun a12 c12 xs12 hL12 => ?_)
        refine OkM.leaf (i := 10) (show _ = [.blk b1 (.cells #[.int .i64 (w6 ((xpath.length : Int) - 1))] 3)] from rfl) (Gle.refl _) (.cons _ (.cons _ (.cons_cons _ .slnil))) (OkM.bat 1 [0, 1, 5, 6, 10] [(7, .slice a12 (yown2_0l30 ++ ([(e10, (ephM x10l30 3 (w6 ((xpath.length : Int) - 1))), false)] : List (Int × Int × Bool))).length c12)] ?_)
        refine OkM.nil (Ok.blockN (Ok.thenN (Ok.region (Ok.bat 3 [0, 1, 5, 6, 7] [(10, .int .i64 (w6 (x10l30 - 1)))] ?_))))
        refine Ok.nil (Ok.thenN ?_)
        subst hg10
        exact fun a W hA hW => ⟨k30, Nat.lt_succ_self _, gj32, (hxl30.trans hxj32), w6 (x10l30 - 1), a12, c12, (yown2_0l30 ++ ([((xpath.getD (Int.toNat x10l30) default), (ephM x10l30 3 (w6 ((xpath.length : Int) - 1))), false)] : List (Int × Int × Bool))), xs12, hL12, hA.sub (by kernel_rfl), hW.sub (.cons _ (.cons_cons _ (.cons_cons _ .slnil))), hF⟩
       ·replace hF := hF.2 hc8
        refine Ok.exit (Ok.thenE (Ok.thenE (Ok.blockHit (Ok.thenN (Ok.seq (Ok.region (Ok.batch 2 [(4, .slice ayown2_0l30 yown2_0l30.length cyown2_0l30)] (by kernel_rfl) (Ok.nil (Ok.thenN (Ok.ret (Ok.frz 0 rfl hLyown2_0l30 fun g13 hx13 hRf13 => ?_)))))))))))
        exact Ok.resP (vs := [.slice ayown2_0l30 yown2_0l30.length cyown2_0l30]) [] [] (by decide) rfl (.inl rfl) rfl (.cons (.tmp rfl) .nil) (((hxl13.trans hxl30).trans hxj32).trans hx13) ⟨yown2_0l30, ayown2_0l30, cyown2_0l30, rfl, hRf13, rfl, hF⟩
theorem est_F (way : List Int) (b : Bool) (hp : estP way b) : estF way b (fun r => r = estS way b) := by
 have hn : way.length ≤ 1000 := hp
 have hw : w6 ((way.length : Int) - 1) = (way.length : Int) - 1 := w64 (by omega)
 have stop : ∀ (k : Nat) (x : Int) (acc : List SP), b = false → x < (way.length : Int) - 1 → acc = estS way b → estl30 way b (fun r => r = estS way b) (k + 1) x acc := by
  intro k x acc hb hx he
  have j : estj32 way b (fun r => r = estS way b) x acc (estl30 way b (fun r => r = estS way b) k) := by
   refine ⟨fun h => ?_, fun _ => he⟩
   unfold estV1 at h
   rw [hw, hb, Bool.false_or, Bool.and_eq_true, beq_iff_eq] at h
   omega
  exact ⟨fun _ => ⟨fun _ => j, fun _ => j⟩, fun _ => j⟩
 have bk : ∀ (i : Nat) (acc : List SP), i ≤ way.length → (b = true ∨ i = way.length) → acc.length + i ≤ 3000 → estS way b = acc ++ back way b i → estl30 way b (fun r => r = estS way b) (i + 2) ((i : Int) - 1) acc := by
  intro i
  induction i with
  | zero =>
   intro acc h1 h2 h3 he
   rw [back, List.append_nil] at he
   have j : estj32 way b (fun r => r = estS way b) ((0 : Nat) - 1) acc (estl30 way b (fun r => r = estS way b) 1) := by
    refine ⟨fun h => ?_, fun _ => he.symm⟩
    unfold estV1 at h
    rw [Bool.and_eq_true, decide_eq_true_eq] at h
    omega
   exact ⟨fun _ => ⟨fun _ => j, fun _ => j⟩, fun _ => j⟩
  | succ i ih =>
   intro acc h1 h2 h3 he
   rw [back] at he
   have e1 : (((i + 1 : Nat) : Int) - 1) = (i : Int) := by omega
   rw [e1]
   have j : estj32 way b (fun r => r = estS way b) (i : Int) acc (estl30 way b (fun r => r = estS way b) (i + 2)) := by
    refine ⟨fun _ => ?_, fun h => ?_⟩
    ·rw [Int.toNat_natCast, hw, w64 (by omega)]
     refine ⟨by omega, by omega, by rw [List.length_append, List.length_singleton]; omega, ?_⟩
     cases hb : b with
     | true =>
      rw [hb] at ih he
      exact ih _ (by omega) (.inl rfl) (by rw [List.length_append, List.length_singleton]; omega) (by rw [if_pos rfl] at he; rw [he, List.append_assoc]; rfl)
     | false =>
      rw [hb] at he stop h2
      refine stop (i + 1) _ _ rfl ?_ ?_
      ·rcases h2 with h | h
       ·cases h
       ·omega
      ·rw [if_neg (by simp)] at he; rw [he]; rfl
    ·unfold estV1 at h
     rw [hw] at h
     rw [Bool.and_eq_false_iff] at h
     rcases h with h | h
     ·have := of_decide_eq_false h; omega
     ·rw [Bool.or_eq_false_iff] at h
      rcases h2 with h2 | h2
      ·rw [h2] at h; exact absurd h.1 (by simp)
      ·have := h.2; rw [beq_eq_false_iff_ne] at this; omega
   exact ⟨fun _ => ⟨fun _ => j, fun _ => j⟩, fun _ => j⟩
 have fw : ∀ (q i : Nat), i + q = way.length → estl13 way b (fun r => r = estS way b) (q + 1) (i : Int) ((List.range i).map (fstp way)) := by
  intro q
  induction q with
  | zero =>
   intro i hi
   obtain rfl : i = way.length := by omega
   refine ⟨fun h => by have := of_decide_eq_true h; omega, fun _ => ⟨way.length + 2, ?_⟩⟩
   rw [hw]
   exact bk way.length _ (Nat.le_refl _) (.inr rfl) (by rw [List.length_map, List.length_range]; omega) rfl
  | succ q ih =>
   intro i hi
   refine ⟨fun _ => ?_, fun h => by have := of_decide_eq_false h; omega⟩
   rw [Int.toNat_natCast, hw, w64 (by omega)]
   refine ⟨by omega, by omega, by rw [List.length_append, List.length_map, List.length_range, List.length_singleton]; omega, ?_⟩
   have := ih (i + 1) (by omega)
   rw [List.range_succ, List.map_append] at this
   exact this
 exact ⟨way.length + 1, fw way.length 0 (by omega)⟩
theorem est_c {g : Ghost} {axpath_0 : Option Addr} {cxpath_0 : Nat} (xpath : List (Int)) (xbubbles : Bool) (hRxpath_0 : Rep g (.slice (.int .i64)) [.slice axpath_0 xpath.length cxpath_0] xpath)  (hp : estP xpath xbubbles) : CallsH Tryd.prog 14 #[.slice axpath_0 xpath.length cxpath_0, .bool xbubbles] g [] (fun g' H' v => ∃ (ar0_0 : Option Addr) (cr0_0 : Nat), v = .slice ar0_0 (estS xpath xbubbles).length cr0_0 ∧ Rep g' (.slice (.pair (.int .i64) (.pair (.int .i64) (.bool)))) [.slice ar0_0 (estS xpath xbubbles).length cr0_0] (estS xpath xbubbles) ∧ H' = []) :=
 (est_ok xpath xbubbles hRxpath_0 _ (est_F xpath xbubbles hp)).mono (by rintro g' H' v _ ⟨r0, ar0_0, cr0_0, rfl, hRr0_0, rfl, hK⟩; subst hK; exact ⟨ar0_0, cr0_0, rfl, hRr0_0, rfl⟩)
def eclj4 (K : (List (LI)) → Prop) (x0j4 : List (LI)) (x4j4 : Bool) : Prop :=
 ((x4j4) = true → K ([] : List (LI))) ∧ ((x4j4) = false → (([] : List (LI)) ++ x0j4).length ≤ 3518437208883 ∧ K (([] : List (LI)) ++ x0j4))
def eclF (xs : List (LI)) (K : (List (LI)) → Prop) : Prop :=
 (xs = [] → eclj4 K xs true) ∧ (eclj4 K xs false)
theorem ecl_ok {g : Ghost} {axs_0 : Option Addr} {cxs_0 : Nat} (xs : List (LI)) (hRxs_0 : Rep g (.slice (.pair (.int .i64) (.pair (.int .i64) (.pair (.str) (.pair (.bool) (.pair (.bool) (.pair (.bool) (.pair (.bool) (.bool))))))))) [.slice axs_0 xs.length cxs_0] xs) (K : (List (LI)) → Prop)
  (hF : eclF xs K) : CallsH Tryd.prog 17 #[.slice axs_0 xs.length cxs_0] g [] (fun g' H' v => ∃ (r0 : List (LI)), ∃ (ar0 : Option Addr) (cr0 : Nat) (xsr0 : List Value), v = .slice ar0 r0.length cr0 ∧ RepL g' (.pair (.int .i64) (.pair (.int .i64) (.pair (.str) (.pair (.bool) (.pair (.bool) (.pair (.bool) (.pair (.bool) (.bool)))))))) xsr0 r0 ∧ H' = [.own (.slice ar0 r0.length cr0) 41 8 r0.length xsr0] ∧ K r0) := by
 refine CallsH.enter 8 [(0, .slice axs_0 xs.length cxs_0)] Tryd.func17 rfl (by kernel_rfl) (by kernel_rfl) (by kernel_rfl) fun w0 => ?_
 refine Ok.seq (Ok.region (Ok.batch 1 [(0, .slice axs_0 xs.length cxs_0)] (by kernel_rfl) (Ok.nil (Ok.thenN (Ok.seq (Ok.cut (fun a W => ∃ gj4 : Ghost, Gext w0 g gj4 ∧ ∃ (ax0j4 : Option Addr) (cx0j4 : Nat) (x0j4 : List (LI)) (x4j4 : Bool), Rep gj4 (.slice (.pair (.int .i64) (.pair (.int .i64) (.pair (.str) (.pair (.bool) (.pair (.bool) (.pair (.bool) (.pair (.bool) (.bool))))))))) [.slice ax0j4 x0j4.length cx0j4] x0j4 ∧ StA 8 [(0, .slice ax0j4 x0j4.length cx0j4), (4, .bool x4j4)] a ∧ StW w0 [] gj4 W ∧ eclj4 K x0j4 x4j4) ?_ ?_))))))
 ·
  refine Ok.region (Ok.bat 1 [0] [(3, .slice axs_0 xs.length cxs_0)] ?_)
  rcases optCases axs_0 with rfl | ⟨ad5, rfl⟩
  ·have hz5 := Rep.none_nil hRxs_0
   replace hF := hF.1 hz5
   refine Ok.op rfl (OpOk.step (v := .bool true) (Yields.eqNilAt rfl rfl Tryd.underlying25 (by kernel_rfl) rfl) rfl rfl (Ok.nil (Ok.thenN ?_)))
   exact fun a W hA hW => ⟨g, (Gext.refl w0 g), none, cxs_0, xs, true, hRxs_0, hA.sub (by kernel_rfl), hW, hF⟩
  ·replace hF := hF.2
   refine Ok.op rfl (OpOk.step (v := .bool false) (Yields.eqNilAt rfl rfl Tryd.underlying25 (by kernel_rfl) rfl) rfl rfl (Ok.nil (Ok.thenN ?_)))
   exact fun a W hA hW => ⟨g, (Gext.refl w0 g), (some ad5), cxs_0, xs, false, hRxs_0, hA.sub (by kernel_rfl), hW, hF⟩
 ·
  clear hF
  rintro a W ⟨gj4, hxj4, ax0j4, cx0j4, x0j4, x4j4, hRx0j4, hA, hW, hF⟩
  refine (?_ : Ok _ _ _ _ _ _) a W hA hW
  clear hA hW
  refine Ok.cond (b := x4j4) rfl (fun hc1 => ?_) (fun hc1 => ?_)
  ·replace hF := hF.1 hc1
   refine Ok.seq (Ok.region (Ok.batch 1 [(2, .slice none 0 0)] (by kernel_rfl) ?_))
   have hL2 : RepL gj4 (.pair (.int .i64) (.pair (.int .i64) (.pair (.str) (.pair (.bool) (.pair (.bool) (.pair (.bool) (.pair (.bool) (.bool)))))))) [] [] := rfl
   refine Ok.ownNil 41 8 (Ok.nil (Ok.thenN (Ok.ret (Ok.thenR ?_))))
   exact Ok.resH (vs := [.slice none ([] : List (LI)).length 0]) (.inl rfl) rfl (.cons (.tmp rfl) .nil) hxj4 ⟨([] : List (LI)), none, 0, [], rfl, hL2, rfl, hF⟩
  ·replace hF := hF.2 hc1
   refine Ok.skip (Ok.thenN (Ok.seq (Ok.region ?_)))
   have hL3 : RepL gj4 (.pair (.int .i64) (.pair (.int .i64) (.pair (.str) (.pair (.bool) (.pair (.bool) (.pair (.bool) (.pair (.bool) (.bool)))))))) ([] : List Value) ([] : List (LI)) := rfl
   refine Ok.op rfl (OpOk.lit (E := 41) (.pair (.int .i64) (.pair (.int .i64) (.pair (.str) (.pair (.bool) (.pair (.bool) (.pair (.bool) (.pair (.bool) (.bool)))))))) ([] : List (LI)) ([] : List Value) (by kernel_rfl) (by kernel_rfl) rfl (by kernel_rfl) hL3 rfl fun b3 => ?_)
   refine Ok.batch 1 [(5, .slice (some ⟨b3, 0, none⟩) ([] : List (LI)).length 0), (6, .slice ax0j4 x0j4.length cx0j4)] (by kernel_rfl) ?_
   obtain ⟨hb4, hF⟩ := hF
   refine Ok.op rfl (OpOk.appendRo (e := .pair (.int .i64) (.pair (.int .i64) (.pair (.str) (.pair (.bool) (.pair (.bool) (.pair (.bool) (.pair (.bool) (.bool)))))))) 40 3518437208883 0 rfl rfl rfl hL3 hRx0j4 Tryd.underlying25 (by kernel_rfl) (by kernel_rfl) (by kernel_rfl) hb4 rfl fun a4 c4 xs4 hL4 => ?_)
   refine Ok.batch 1 [(2, .slice a4 (([] : List (LI)) ++ x0j4).length c4)] (by kernel_rfl) (Ok.nil (Ok.thenN (Ok.ret ?_)))
   exact Ok.resH (vs := [.slice a4 (([] : List (LI)) ++ x0j4).length c4]) (.inl rfl) rfl (.cons (.tmp rfl) .nil) hxj4 ⟨(([] : List (LI)) ++ x0j4), a4, c4, xs4, rfl, hL4, rfl, hF⟩
def eclS (l : List (LI)) : List (LI) := l
def eclP (l : List (LI)) : Prop := l.length ≤ 1000000
theorem ecl_F (l : List (LI)) (hp : eclP l) : eclF l (fun r => r = eclS l) := by
 unfold eclP at hp
 refine ⟨fun h => ⟨fun _ => by rw [h]; rfl, (fun h => by cases h)⟩, ⟨(fun h => by cases h), fun _ => ⟨by rw [List.nil_append]; omega, by rw [List.nil_append]; rfl⟩⟩⟩
theorem ecl_c {g : Ghost} {axs_0 : Option Addr} {cxs_0 : Nat} (xs : List (Int × Int × Bs × Bool × Bool × Bool × Bool × Bool)) (hRxs_0 : Rep g (.slice (.pair (.int .i64) (.pair (.int .i64) (.pair (.str) (.pair (.bool) (.pair (.bool) (.pair (.bool) (.pair (.bool) (.bool))))))))) [.slice axs_0 xs.length cxs_0] xs)  (hp : eclP xs) : CallsH Tryd.prog 17 #[.slice axs_0 xs.length cxs_0] g [] (fun g' H' v => ∃ (ar0 : Option Addr) (cr0 : Nat) (xsr0 : List Value), v = .slice ar0 (eclS xs).length cr0 ∧ RepL g' (.pair (.int .i64) (.pair (.int .i64) (.pair (.str) (.pair (.bool) (.pair (.bool) (.pair (.bool) (.pair (.bool) (.bool)))))))) xsr0 (eclS xs) ∧ H' = [.own (.slice ar0 (eclS xs).length cr0) 41 8 (eclS xs).length xsr0]) :=
 (ecl_ok xs hRxs_0 _ (ecl_F xs hp)).mono (by rintro g' H' v _ ⟨r0, ar0, cr0, xsr0, rfl, hLr0, rfl, hK⟩; subst hK; exact ⟨ar0, cr0, xsr0, rfl, hLr0, rfl⟩)

end
end Go.Proofs.YtbifbljdmndjbaaDoor.Ev
