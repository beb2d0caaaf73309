/- CountMarks: marks of numbers. -/
import Derived.Test.YtdiedaeabbcceaaGreatDoorBlc
import Derived.Test.YtdiedaeabbcceaaGreatDoorLaid
import Derived.Test.YtdiedaeabbcceaaGreatDoorByt
import Derived.Test.YtdiedaeabbcceaaGreatDoorMor
namespace Go.Proofs.YtdiedaeabbcceaaGreatDoor.Cn
open Go Go.Eng Go.RowKit Bld
set_option maxHeartbeats 4000000
set_option maxRecDepth 100000
set_option linter.unusedSimpArgs false
set_option linter.unusedVariables false
def DPow : List (Int) := [1, 10, 100, 1000, 10000, 100000, 1000000, 10000000, 100000000, 1000000000, 10000000000, 100000000000, 1000000000000, 10000000000000, 100000000000000, 1000000000000000, 10000000000000000, 100000000000000000, 1000000000000000000, 10000000000000000000]
def i64P (x : Int) : Prop := -9223372036854775808 ≤ x ∧ x ≤ 9223372036854775807
theorem itoa_c {g : Ghost} (x : Int) (hG : GlobL g 7 (.int .u64) DPow) (hp : i64P x) : CallsG Tryz.prog 66 #[.int .i64 x] g (sv (Lib.itoa x)) := fun W hW => by
 obtain ⟨xs, h1, h2⟩ := hG.var (P := Tryz.prog) hW (name := "internal/strconv.uint64pow10") (by kernel_rfl)
 have htab : Lib.TabIs Tryz.prog W "internal/strconv.uint64pow10" .u64 Lib.pow10Tab := by
  unfold Lib.TabIs
  rw [h1, repL_ints h2, show DPow = Lib.pow10Tab by decide]
 exact (Tryz.strconv_Itoa x hp.1 hp.2 W htab).mono fun e W' ⟨he, k, os, hw⟩ => ⟨he, by subst hw; exact ⟨rfl, rfl, rfl, by simp [Sort.grow], fun i hi => by
  show ((W.drewN k).heap ++ os)[i]? = _
  rw [Array.getElem?_append_left (show i < (W.drewN k).heap.size from hi)]; rfl⟩⟩
def upprS (s : Bs) : Bs := Lib.toUpperA s
def upprP (s : Bs) : Prop := s.length ≤ 1000000 ∧ (s.all fun x => decide (x.toNat < 128)) = true
theorem uppr_c {g : Ghost} (s : Bs) (hp : upprP s) : CallsG Tryz.prog 64 #[sv s] g (sv (upprS s)) := fun W hW =>
 (Tryz.strings_ToUpper_ascii ⟨⟨s⟩⟩ W (Nat.le_trans hp.1 (by decide)) (fun j b h => by
  have := List.all_eq_true.1 hp.2 b (List.mem_of_getElem? h)
  simpa using this)).mono fun e W' ⟨he, hw⟩ => ⟨he, hw⟩
def cinF (xn : Int) (xlow : Int) (xhigh : Int) (K : Bool → Prop) : Prop :=
 K ((decide (xn ≥ xlow)) && (decide (xn ≤ xhigh)))
theorem cin_ok {g : Ghost} (xn : Int) (xlow : Int) (xhigh : Int) (K : Bool → Prop)
  (hF : cinF xn xlow xhigh K) : CallsH Tryz.prog 60 #[.int .i64 xn, .int .i64 xlow, .int .i64 xhigh] g [] (fun g' H' v => ∃ (r0 : Bool), v = .bool r0 ∧ H' = [] ∧ K r0) := by
 refine CallsH.enter 15 [(0, .int .i64 xn), (1, .int .i64 xlow), (2, .int .i64 xhigh)] Tryz.func60 rfl (by kernel_rfl) (by kernel_rfl) (by kernel_rfl) fun w0 => ?_
 refine Ok.seq (Ok.region (Ok.batch 1 [(0, .int .i64 xn), (1, .int .i64 xlow), (2, .int .i64 xhigh)] (by kernel_rfl) (Ok.nil (Ok.thenN (Ok.seq (Ok.region (Ok.bat 4 [0, 2] [(10, .bool (decide (xn ≥ xlow)))] ?_)))))))
 refine Ok.midway 4 [(14, .bool ((decide (xn ≥ xlow)) && (decide (xn ≤ xhigh))))] (fun hR1 => ?_) ?_
 ·refine Ok.boolAt 10 (decide (xn ≥ xlow)) rfl (fun hc2 => ?_) (fun hc2 => ?_)
  ·skip
   refine Ok.batch 4 [(14, .bool (decide (xn ≤ xhigh)))] (by kernel_rfl) (Ok.reval 14 rfl (show (.bool (decide (xn ≤ xhigh)) : Value) = .bool ((decide (xn ≥ xlow)) && (decide (xn ≤ xhigh))) from congrArg Value.bool (mand_t hc2)) (Ok.batch 0 [(14, .bool ((decide (xn ≥ xlow)) && (decide (xn ≤ xhigh))))] (by kernel_rfl) ?_))
   exact hR1
  ·skip
   refine Ok.batch 4 [(14, .bool false)] (by kernel_rfl) (Ok.reval 14 rfl (show (.bool false : Value) = .bool ((decide (xn ≥ xlow)) && (decide (xn ≤ xhigh))) from congrArg Value.bool (mand_f hc2)) (Ok.batch 0 [(14, .bool ((decide (xn ≥ xlow)) && (decide (xn ≤ xhigh))))] (by kernel_rfl) ?_))
   exact hR1
 refine Ok.batch 1 [(6, .bool ((decide (xn ≥ xlow)) && (decide (xn ≤ xhigh))))] (by kernel_rfl) (Ok.nil (Ok.thenN (Ok.ret ?_)))
 exact Ok.resH (vs := [.bool ((decide (xn ≥ xlow)) && (decide (xn ≤ xhigh)))]) (.inl rfl) rfl (.cons (.tmp rfl) .nil) (Gext.refl w0 g) ⟨((decide (xn ≥ xlow)) && (decide (xn ≤ xhigh))), rfl, rfl, hF⟩
def cinM (xn : Int) (xlow : Int) (xhigh : Int) : Bool := ((decide (xn ≥ xlow)) && (decide (xn ≤ xhigh)))
theorem cinF_A (xn : Int) (xlow : Int) (xhigh : Int) (P : Bool → Prop) (h : P (cinM xn xlow xhigh)) : cinF xn xlow xhigh (fun k0 => P k0) := by
 unfold cinM at h
 unfold cinF
 exact h
theorem cin_F (xn : Int) (xlow : Int) (xhigh : Int) : cinF xn xlow xhigh (fun k0 => k0 = cinM xn xlow xhigh) :=
 cinF_A xn xlow xhigh (fun z => z = cinM xn xlow xhigh) rfl
theorem cin_c {g : Ghost} (xn : Int) (xlow : Int) (xhigh : Int)  : CallsG Tryz.prog 60 #[.int .i64 xn, .int .i64 xlow, .int .i64 xhigh] g (.bool (cinM xn xlow xhigh)) :=
 (cin_ok xn xlow xhigh _ (cin_F xn xlow xhigh)).gives (by rintro g' H' v _ ⟨r0, rfl, rfl, hK⟩; subst hK; rfl)
/-! turning around -/
def srevS (l : List Int) : List Int := l.reverse
def srevP (l : List Int) : Prop := l.length ≤ 1000001
def srevl4b (K : (List (Int)) → Prop) (x2l4 : Int) (x3l4 : Int) (yown_xs_0l4 : List (Int)) (C4 : Int → Int → (List (Int)) → Prop) : Prop :=
 ((decide (x2l4 < x3l4)) = true → (0 : Int) ≤ x3l4 ∧ Int.toNat x3l4 < yown_xs_0l4.length ∧ (0 : Int) ≤ x2l4 ∧ Int.toNat x2l4 < yown_xs_0l4.length ∧ (0 : Int) ≤ x3l4 ∧ Int.toNat x3l4 < (yown_xs_0l4.set (Int.toNat x2l4) (yown_xs_0l4.getD (Int.toNat x3l4) default)).length ∧ C4 (w6 (x2l4 + 1)) (w6 (x3l4 - 1)) ((yown_xs_0l4.set (Int.toNat x2l4) (yown_xs_0l4.getD (Int.toNat x3l4) default)).set (Int.toNat x3l4) (yown_xs_0l4.getD (Int.toNat x2l4) default))) ∧ ((decide (x2l4 < x3l4)) = false → K yown_xs_0l4)
def srevl4 (K : (List (Int)) → Prop) : Nat → Int → Int → (List (Int)) → Prop
 | 0, _, _, _ => False
 | k + 1, x2l4, x3l4, yown_xs_0l4 => srevl4b K x2l4 x3l4 yown_xs_0l4 (srevl4 K k)
def srevF (xs : List (Int)) (K : (List (Int)) → Prop) : Prop :=
 ∃ k, srevl4 K k 0 (w6 ((xs.length : Int) - 1)) xs
theorem srev_ok {g : Ghost} {axs : Option Addr} {cxs : Nat} {xsxs : List Value} (xs : List (Int)) (hLxs : RepL g (.int .u8) xsxs xs) (K : (List (Int)) → Prop)
  (hF : srevF xs K) : CallsH Tryz.prog 101 #[.slice axs xs.length cxs] g [.own (.slice axs xs.length cxs) 5 1 xs.length xsxs] (fun g' H' v => ∃ (fxs : List (Int)), ∃ (xsfxs : List Value), v = .tuple #[] ∧ RepL g' (.int .u8) xsfxs fxs ∧ H' = [.own (.slice axs fxs.length cxs) 5 1 fxs.length xsfxs] ∧ fxs.length = xs.length ∧ K fxs) := by
 refine CallsH.enter 28 [(0, .slice axs xs.length cxs)] Tryz.func101 rfl (by kernel_rfl) (by kernel_rfl) (by kernel_rfl) fun w0 => ?_
 refine Ok.seq (Ok.region (Ok.batch 5 [(0, .slice axs xs.length cxs), (2, .int .i64 0), (3, .int .i64 (w6 ((xs.length : Int) - 1)))] (by kernel_rfl) (Ok.nil (Ok.thenN (Ok.block ?_)))))
 obtain ⟨k, hF⟩ := hF
 refine Ok.loop (fun k a W => ∃ gl4 : Ghost, Gext w0 g gl4 ∧ ∃ (x2l4 : Int) (x3l4 : Int) (yown_xs_0l4 : List (Int)) (xsyown_xs_0l4 : List Value), RepL gl4 (.int .u8) xsyown_xs_0l4 yown_xs_0l4 ∧ yown_xs_0l4.length = xs.length ∧ StA 28 [(0, .slice axs yown_xs_0l4.length cxs), (2, .int .i64 x2l4), (3, .int .i64 x3l4)] a ∧ StW w0 [.own (.slice axs yown_xs_0l4.length cxs) 5 1 yown_xs_0l4.length xsyown_xs_0l4] gl4 W ∧ srevl4 K k x2l4 x3l4 yown_xs_0l4) k ?_ ?_
 ·
  exact fun a W hA hW => ⟨g, (Gext.refl w0 g), 0, w6 ((xs.length : Int) - 1), xs, xsxs, hLxs, rfl, hA.sub (by kernel_rfl), hW, hF⟩
 ·
  clear hF
  rintro k4 a W ⟨gl4, hxl4, x2l4, x3l4, yown_xs_0l4, xsyown_xs_0l4, hLyown_xs_0l4, hnyown_xs_0l4, hA, hW, hF⟩
  cases k4 with
  | zero => exact (hF : False).elim
  | succ k4 =>
   refine (?_ : Ok _ _ _ _ _ _) a W hA hW
   clear hA hW
   refine Ok.seq (Ok.seq (Ok.region (Ok.bat 3 [0, 2, 3] [(9, .bool (decide (x2l4 < x3l4)))] ?_)))
   refine Ok.nil (Ok.thenN (Ok.cond (b := decide (x2l4 < x3l4)) rfl (fun hc1 => ?_) (fun hc1 => ?_)))
   ·replace hF := hF.1 hc1
    refine Ok.skip (Ok.thenN (Ok.seq (Ok.block (Ok.mix [0, 1, 4, 5, 6, 7, 8, 9, 10, 11, 12] [] [] [(0, true), (1, true), (2, true), (3, true), (4, true), (5, true), (6, true), (7, true), (8, true), (9, true), (10, true), (11, true), (12, true), (13, false), (14, false), (15, false)] (by kernel_rfl) (by kernel_rfl) (.cons _ .slnil) (OkM.bat 6 [0, 2, 3] [(14, .slice axs yown_xs_0l4.length cxs), (15, .int .i64 x2l4), (16, .slice axs yown_xs_0l4.length cxs), (17, .int .i64 x3l4), (18, .slice axs yown_xs_0l4.length cxs), (19, .int .i64 x3l4)] ?_)))))
    obtain ⟨h03, h13, hF⟩ := hF
    have he3 := get_of (l := yown_xs_0l4) (default : Int) h13
    generalize hg3 : (yown_xs_0l4.getD (Int.toNat x3l4) default) = e3 at he3 hF ⊢
    refine OkM.head rfl rfl (show _ = [.own (.slice axs yown_xs_0l4.length cxs) 5 1 yown_xs_0l4.length xsyown_xs_0l4] from rfl) (OpQ.indexOwn (e := .int .u8) (q := x3l4) (el := e3) 0 rfl hLyown_xs_0l4 rfl rfl Tryz.underlying82 (by kernel_rfl) (by kernel_rfl) h03 he3 rfl fun cs2 _ hr2 hc2 => ?_)
    obtain rfl := hr2
    replace hc2 : ∀ j v, ([.int .u8 e3] : List Value)[j]? = some v → xsyown_xs_0l4[Int.toNat x3l4 * 1 + j]? = some v := hc2
    refine OkM.head rfl rfl (show _ = [.own (.slice axs yown_xs_0l4.length cxs) 5 1 yown_xs_0l4.length xsyown_xs_0l4] from rfl) (OpQ.step (v := .int .u8 e3) (Yields.loadOwn 0 0 rfl hc2 rfl Tryz.underlying5 rfl (by kernel_rfl)) rfl rfl (OkM.bat 2 [0, 2, 3, 14, 15, 16, 17] [(21, .int .u8 e3), (22, .slice axs yown_xs_0l4.length cxs), (23, .int .i64 x2l4)] ?_))
    obtain ⟨h05, h15, hF⟩ := hF
    have he5 := get_of (l := yown_xs_0l4) (default : Int) h15
    generalize hg5 : (yown_xs_0l4.getD (Int.toNat x2l4) default) = e5 at he5 hF ⊢
    refine OkM.head rfl rfl (show _ = [.own (.slice axs yown_xs_0l4.length cxs) 5 1 yown_xs_0l4.length xsyown_xs_0l4] from rfl) (OpQ.indexOwn (e := .int .u8) (q := x2l4) (el := e5) 0 rfl hLyown_xs_0l4 rfl rfl Tryz.underlying82 (by kernel_rfl) (by kernel_rfl) h05 he5 rfl fun cs4 _ hr4 hc4 => ?_)
    obtain rfl := hr4
    replace hc4 : ∀ j v, ([.int .u8 e5] : List Value)[j]? = some v → xsyown_xs_0l4[Int.toNat x2l4 * 1 + j]? = some v := hc4
    refine OkM.head rfl rfl (show _ = [.own (.slice axs yown_xs_0l4.length cxs) 5 1 yown_xs_0l4.length xsyown_xs_0l4] from rfl) (OpQ.step (v := .int .u8 e5) (Yields.loadOwn 0 0 rfl hc4 rfl Tryz.underlying5 rfl (by kernel_rfl)) rfl rfl (OkM.head rfl rfl (show _ = [.own (.slice axs yown_xs_0l4.length cxs) 5 1 yown_xs_0l4.length xsyown_xs_0l4] from rfl) (OpQ.indexOwn (e := .int .u8) (q := x2l4) (el := e5) 0 rfl hLyown_xs_0l4 rfl rfl Tryz.underlying82 (by kernel_rfl) (by kernel_rfl) h05 he5 rfl fun cs6 _ hr6 hc6 => ?_)))
    obtain rfl := hr6
    replace hc6 : ∀ j v, ([.int .u8 e5] : List Value)[j]? = some v → xsyown_xs_0l4[Int.toNat x2l4 * 1 + j]? = some v := hc6
    refine OkM.tail rfl rfl (OpOk.storeOwn (e := .int .u8) (q := Int.toNat x2l4) (cells := [.int .u8 e5]) (vs := [.int .u8 e3]) (el' := e3) 0 0 1 rfl hLyown_xs_0l4 hc6 (by kernel_rfl) rfl rfl rfl (by kernel_rfl) (by kernel_rfl) (by kernel_rfl) (by kernel_rfl) (by kernel_rfl) (show Rep _ _ [.int .u8 e3] _ from rfl) fun xs7 hL7 => ?_)
    rw [show yown_xs_0l4.length = (yown_xs_0l4.set (Int.toNat x2l4) e3).length from (List.length_set ..).symm]
    refine OkM.leaf (i := 13) (show _ = [] from rfl) (Gle.refl _) (.cons _ .slnil) ?_
    obtain ⟨h09, h19, hF⟩ := hF
    have he9 := get_of (l := (yown_xs_0l4.set (Int.toNat x2l4) e3)) (default : Int) h19
    generalize hg9 : ((yown_xs_0l4.set (Int.toNat x2l4) e3).getD (Int.toNat x3l4) default) = e9 at he9 hF ⊢
    refine OkM.tail rfl rfl (OpOk.indexOwn (e := .int .u8) (q := x3l4) (el := e9) 0 rfl hL7 rfl rfl Tryz.underlying82 (by kernel_rfl) (by kernel_rfl) h09 he9 rfl fun cs8 _ hr8 hc8 => ?_)
    obtain rfl := hr8
    replace hc8 : ∀ j v, ([.int .u8 e9] : List Value)[j]? = some v → xs7[Int.toNat x3l4 * 1 + j]? = some v := hc8
    refine OkM.leaf (i := 14) (show _ = [] from rfl) (Gle.refl _) (.cons _ .slnil) (OkM.tail rfl rfl (OpOk.storeOwn (e := .int .u8) (q := Int.toNat x3l4) (cells := [.int .u8 e9]) (vs := [.int .u8 e5]) (el' := e5) 0 0 1 rfl hL7 hc8 (by kernel_rfl) rfl rfl rfl (by kernel_rfl) (by kernel_rfl) (by kernel_rfl) (by kernel_rfl) (by kernel_rfl) (show Rep _ _ [.int .u8 e5] _ from rfl) fun xs10 hL10 => ?_))
    rw [show (yown_xs_0l4.set (Int.toNat x2l4) e3).length = ((yown_xs_0l4.set (Int.toNat x2l4) e3).set (Int.toNat x3l4) e5).length from (List.length_set ..).symm]
    refine OkM.leaf (i := 15) (show _ = [] from rfl) (Gle.refl _) (.cons _ .slnil) (OkM.nil (Ok.blockN (Ok.thenN (Ok.region (Ok.batch 6 [(0, .slice axs ((yown_xs_0l4.set (Int.toNat x2l4) e3).set (Int.toNat x3l4) e5).length cxs), (2, .int .i64 (w6 (x2l4 + 1))), (3, .int .i64 (w6 (x3l4 - 1)))] (by kernel_rfl) (Ok.nil (Ok.thenN ?_)))))))
    subst hg9
    subst hg5
    subst hg3
    exact fun a W hA hW => ⟨k4, Nat.lt_succ_self _, gl4, hxl4, w6 (x2l4 + 1), w6 (x3l4 - 1), ((yown_xs_0l4.set (Int.toNat x2l4) (yown_xs_0l4.getD (Int.toNat x3l4) default)).set (Int.toNat x3l4) (yown_xs_0l4.getD (Int.toNat x2l4) default)), xs10, hL10, (by simp only [List.length_set, hnyown_xs_0l4]), hA.sub (by kernel_rfl), hW, hF⟩
   ·replace hF := hF.2 hc1
    refine Ok.exit (Ok.thenE (Ok.thenE (Ok.blockHit ?_)))
    exact Ok.resH (vs := []) (.inr rfl) rfl .nil hxl4 ⟨yown_xs_0l4, xsyown_xs_0l4, rfl, hLyown_xs_0l4, rfl, hnyown_xs_0l4, hF⟩
theorem getD_set_eq (l : List Int) (i : Nat) (x : Int) (h : i < l.length) : (l.set i x).getD i default = x := by
 rw [List.getD_eq_getElem?_getD, List.getElem?_set_self h]; rfl
theorem getD_set_ne (l : List Int) (i p : Nat) (x : Int) (h : i ≠ p) : (l.set i x).getD p default = l.getD p default := by
 rw [List.getD_eq_getElem?_getD, List.getElem?_set_ne h, List.getD_eq_getElem?_getD]
theorem srev_loop (l0 : List Int) (hP : srevP l0) (K : List Int → Prop) (hK : K (srevS l0)) : ∀ (k i : Nat) (l : List Int), l.length = l0.length → l0.length ≤ 2 * i + k → 
  (∀ p, p < l0.length → l.getD p default = if p < i ∨ l0.length ≤ p + i then l0.getD (l0.length - 1 - p) default else l0.getD p default) → srevl4 K (k + 1) (i : Int) ((l0.length : Int) - 1 - (i : Int)) l := by
 unfold srevP at hP
 have fin : ∀ (i : Nat) (l : List Int), l.length = l0.length → l0.length ≤ 2 * i + 1 → (∀ p, p < l0.length → l.getD p default = if p < i ∨ l0.length ≤ p + i then l0.getD (l0.length - 1 - p) default else l0.getD p default) → K l := by
  intro i l h1 h2 h3
  have e : l = l0.reverse := by
   apply List.ext_getElem (by simpa using h1)
   intro p hp1 hp2
   have h4 := h3 p (by omega)
   rw [List.getD_eq_getElem?_getD, List.getElem?_eq_getElem hp1, Option.getD_some] at h4
   rw [h4, List.getElem_reverse]
   split
   ·rw [List.getD_eq_getElem?_getD, List.getElem?_eq_getElem (by omega), Option.getD_some]
   ·rw [List.getD_eq_getElem?_getD, List.getElem?_eq_getElem (by omega), Option.getD_some]
    congr 1
    omega
  rw [e]; exact hK
 intro k
 induction k with
 | zero =>
  intro i l h1 h2 h3
  exact ⟨fun h => by have := of_decide_eq_true h; omega, fun _ => fin i l h1 (by omega) h3⟩
 | succ k ih =>
  intro i l h1 h2 h3
  refine ⟨fun h => ?_, fun h => fin i l h1 (by have := of_decide_eq_false h; omega) h3⟩
  have h := of_decide_eq_true h
  obtain ⟨j, hj⟩ : ∃ j : Nat, (l0.length : Int) - 1 - (i : Int) = (j : Int) := ⟨l0.length - 1 - i, by omega⟩
  have ej : j = l0.length - 1 - i := by omega
  rw [hj, Int.toNat_natCast, Int.toNat_natCast]
  refine ⟨by omega, by omega, by omega, by omega, by omega, by rw [List.length_set]; omega, ?_⟩
  rw [w64 (by omega), w64 (by omega), show (j : Int) - 1 = (l0.length : Int) - 1 - ((i + 1 : Nat) : Int) by omega]
  refine ih (i + 1) _ (by rw [List.length_set, List.length_set]; exact h1) (by omega) fun p hp => ?_
  have hi3 := h3 i (by omega)
  rw [if_neg (by omega)] at hi3
  have hj3 := h3 j (by omega)
  rw [if_neg (by omega)] at hj3
  by_cases p1 : j = p
  ·subst p1
   rw [getD_set_eq _ _ _ (by rw [List.length_set]; omega), if_pos (by omega), hi3]
   congr 1; omega
  ·rw [getD_set_ne _ _ _ _ p1]
   by_cases p2 : i = p
   ·subst p2
    rw [getD_set_eq _ _ _ (by omega), if_pos (by omega), hj3]
    congr 1
   ·rw [getD_set_ne _ _ _ _ p2, h3 p hp]
    by_cases c : p < i ∨ l0.length ≤ p + i
    ·rw [if_pos c, if_pos (by omega)]
    ·rw [if_neg c, if_neg (by omega)]
theorem srev_F (l : List Int) (hp : srevP l) : srevF l (fun r => r = srevS l) := by
 have hp' := hp
 unfold srevP at hp'
 have h := srev_loop l hp (fun r => r = srevS l) rfl l.length 0 l rfl (by omega) fun p h => by rw [if_neg (by omega)]
 rw [show (l.length : Int) - 1 - ((0 : Nat) : Int) = (l.length : Int) - 1 by omega] at h
 refine ⟨l.length + 1, ?_⟩
 rw [w64 (by omega)]
 exact h
theorem srev_c {g : Ghost} {axs : Option Addr} {cxs : Nat} {xsxs : List Value} (xs : List (Int)) (hLxs : RepL g (.int .u8) xsxs xs)  (hp : srevP xs) : CallsH Tryz.prog 101 #[.slice axs xs.length cxs] g [.own (.slice axs xs.length cxs) 5 1 xs.length xsxs] (fun g' H' v => ∃ (xsfxs : List Value), v = .tuple #[] ∧ RepL g' (.int .u8) xsfxs (srevS xs) ∧ H' = [.own (.slice axs (srevS xs).length cxs) 5 1 (srevS xs).length xsfxs] ∧ (srevS xs).length = xs.length) :=
 (srev_ok xs hLxs _ (srev_F xs hp)).mono (by rintro g' H' v _ ⟨fxs, xsfxs, rfl, hLfxs, rfl, hlen0, hK⟩; subst hK; exact ⟨xsfxs, rfl, hLfxs, rfl, hlen0⟩)
/-! letters -/
def letN : Nat → Int → List Int
 | 0, _ => []
 | k + 1, n => if 0 < n then (97 + (n - 1) % 26) :: letN k ((n - 1) / 26) else []
theorem letN_fuel : ∀ (k k' : Nat) (n : Int), n ≤ k → n ≤ k' → letN k n = letN k' n
 | 0, k', n, h, _ => by
  cases k' with
  | zero => rfl
  | succ k' => unfold letN; rw [if_neg (by omega)]
 | k + 1, 0, n, _, h => by unfold letN; rw [if_neg (by omega)]
 | k + 1, k' + 1, n, h, h' => by
  unfold letN
  split
  ·rw [letN_fuel k k' _ (by omega) (by omega)]
  ·rfl
theorem letN_len : ∀ (k : Nat) (n : Int), (letN k n).length ≤ k
 | 0, _ => Nat.le_refl _
 | k + 1, n => by
  unfold letN
  split
  ·have := letN_len k ((n - 1) / 26)
   simp only [List.length_cons]; omega
  ·exact Nat.zero_le _
def cletS (n : Int) : Bs := bytesOf (srevS (letN n.toNat n))
def cletP (n : Int) : Prop := 0 ≤ n ∧ n ≤ 1000000
def cletl7b (K : Bs → Prop) (x0l7 : Int) (yown1_0l7 : List (Int)) (C7 : Int → (List (Int)) → Prop) : Prop :=
 ((decide (x0l7 > 0)) = true → (yown1_0l7 ++ ([IntKind.wrap .u8 (w6 (97 + (Int.tmod (w6 (x0l7 - 1)) 26)))] : List (Int))).length ≤ 140737488355328 ∧ C7 (w6 (Int.tdiv (w6 (x0l7 - 1)) 26)) (yown1_0l7 ++ ([IntKind.wrap .u8 (w6 (97 + (Int.tmod (w6 (x0l7 - 1)) 26)))] : List (Int)))) ∧ ((decide (x0l7 > 0)) = false → srevP yown1_0l7 ∧ K (bytesOf (srevS yown1_0l7)))
def cletl7 (K : Bs → Prop) : Nat → Int → (List (Int)) → Prop
 | 0, _, _ => False
 | k + 1, x0l7, yown1_0l7 => cletl7b K x0l7 yown1_0l7 (cletl7 K k)
def cletF (xn : Int) (K : Bs → Prop) : Prop :=
 ∃ k, cletl7 K k xn ([] : List (Int))
theorem clet_ok {g : Ghost} (xn : Int) (K : Bs → Prop)
  (hF : cletF xn K) : CallsH Tryz.prog 63 #[.int .i64 xn] g [] (fun g' H' v => ∃ (r0 : Bs), v = sv r0 ∧ H' = [] ∧ K r0) := by
 refine CallsH.enter 21 [(0, .int .i64 xn)] Tryz.func63 rfl (by kernel_rfl) (by kernel_rfl) (by kernel_rfl) fun w0 => ?_
 refine Ok.seq (Ok.region (Ok.batch 1 [(0, .int .i64 xn)] (by kernel_rfl) (Ok.nil (Ok.thenN (Ok.seq (Ok.region (Ok.bat 1 [0] [(3, .slice none 0 0)] ?_)))))))
 have hL1 : RepL g (.int .u8) [] [] := rfl
 refine Ok.ownNil 5 1 (Ok.nil (Ok.thenN (Ok.seq (Ok.block ?_))))
 obtain ⟨k, hF⟩ := hF
 refine Ok.loop (fun k a W => ∃ gl7 : Ghost, Gext w0 g gl7 ∧ ∃ (x0l7 : Int) (ayown1_0l7 : Option Addr) (cyown1_0l7 : Nat) (yown1_0l7 : List (Int)) (xsyown1_0l7 : List Value), RepL gl7 (.int .u8) xsyown1_0l7 yown1_0l7 ∧ StA 21 [(0, .int .i64 x0l7), (3, .slice ayown1_0l7 yown1_0l7.length cyown1_0l7)] a ∧ StW w0 [.own (.slice ayown1_0l7 yown1_0l7.length cyown1_0l7) 5 1 yown1_0l7.length xsyown1_0l7] gl7 W ∧ cletl7 K k x0l7 yown1_0l7) k ?_ ?_
 ·
  exact fun a W hA hW => ⟨g, (Gext.refl w0 g), xn, none, 0, ([] : List (Int)), [], hL1, hA.sub (by kernel_rfl), hW, hF⟩
 ·
  clear hF
  rintro k7 a W ⟨gl7, hxl7, x0l7, ayown1_0l7, cyown1_0l7, yown1_0l7, xsyown1_0l7, hLyown1_0l7, hA, hW, hF⟩
  cases k7 with
  | zero => exact (hF : False).elim
  | succ k7 =>
   refine (?_ : Ok _ _ _ _ _ _) a W hA hW
   clear hA hW
   refine Ok.seq (Ok.seq (Ok.region (Ok.bat 2 [0, 3] [(5, .bool (decide (x0l7 > 0)))] ?_)))
   refine Ok.nil (Ok.thenN (Ok.cond (b := decide (x0l7 > 0)) rfl (fun hc2 => ?_) (fun hc2 => ?_)))
   ·replace hF := hF.1 hc2
    refine Ok.skip (Ok.thenN (Ok.seq (Ok.block (Ok.region (Ok.bat 6 [0] [(9, .slice ayown1_0l7 yown1_0l7.length cyown1_0l7), (14, .int .u8 (IntKind.wrap .u8 (w6 (97 + (Int.tmod (w6 (x0l7 - 1)) 26)))))] ?_)))))
    have hL3 : RepL gl7 (.int .u8) ([.int .u8 (IntKind.wrap .u8 (w6 (97 + (Int.tmod (w6 (x0l7 - 1)) 26))))] : List Value) ([IntKind.wrap .u8 (w6 (97 + (Int.tmod (w6 (x0l7 - 1)) 26)))] : List (Int)) := (RepL.consN (c := [.int .u8 (IntKind.wrap .u8 (w6 (97 + (Int.tmod (w6 (x0l7 - 1)) 26))))]) rfl rfl)
    refine Ok.op rfl (OpOk.lit (E := 5) (.int .u8) ([IntKind.wrap .u8 (w6 (97 + (Int.tmod (w6 (x0l7 - 1)) 26)))] : List (Int)) ([.int .u8 (IntKind.wrap .u8 (w6 (97 + (Int.tmod (w6 (x0l7 - 1)) 26))))] : List Value) (by kernel_rfl) (by kernel_rfl) rfl (by kernel_rfl) hL3 rfl fun b3 => ?_)
    obtain ⟨hb4, hF⟩ := hF
    refine Ok.op rfl (OpOk.append' (e := .int .u8) 1 140737488355328 1 0 rfl rfl rfl rfl hLyown1_0l7 hL3 Tryz.underlying82 (by kernel_rfl) (by kernel_rfl) (by kernel_rfl) hb4 rfl fun a4 c4 xs4 hL4 => ?_)
    refine Ok.bat 1 [0] [(3, .slice a4 (yown1_0l7 ++ ([IntKind.wrap .u8 (w6 (97 + (Int.tmod (w6 (x0l7 - 1)) 26)))] : List (Int))).length c4)] ?_
    refine Ok.nil (Ok.blockN (Ok.thenN (Ok.region (Ok.bat 4 [3] [(0, .int .i64 (w6 (Int.tdiv (w6 (x0l7 - 1)) 26)))] ?_))))
    refine Ok.nil (Ok.thenN ?_)
    exact fun a W hA hW => ⟨k7, Nat.lt_succ_self _, gl7, hxl7, w6 (Int.tdiv (w6 (x0l7 - 1)) 26), a4, c4, (yown1_0l7 ++ ([IntKind.wrap .u8 (w6 (97 + (Int.tmod (w6 (x0l7 - 1)) 26)))] : List (Int))), xs4, hL4, hA.sub (by kernel_rfl), hW.sub (.cons _ (.cons_cons _ .slnil)), hF⟩
   ·replace hF := hF.2 hc2
    refine Ok.exit (Ok.thenE (Ok.thenE (Ok.blockHit (Ok.thenN (Ok.seq (Ok.region (Ok.bat 1 [3] [(17, .slice ayown1_0l7 yown1_0l7.length cyown1_0l7)] ?_)))))))
    obtain ⟨hp5, hF⟩ := hF
    refine Ok.op rfl (OpOk.callH [_] _ enr rfl (srev_c yown1_0l7 hLyown1_0l7 hp5) rfl fun g6 _ _ hx6 hV6 => ?_)
    obtain ⟨xs6_0, rfl, hL6_0, rfl, hlen6_0⟩ := hV6
    replace hLyown1_0l7 := hLyown1_0l7.mono hx6.1
    refine Ok.reval 3 rfl (show (.slice ayown1_0l7 yown1_0l7.length cyown1_0l7 : Value) = .slice ayown1_0l7 (srevS yown1_0l7).length cyown1_0l7 from by rw [hlen6_0]) (Ok.reval 17 rfl (show (.slice ayown1_0l7 yown1_0l7.length cyown1_0l7 : Value) = .slice ayown1_0l7 (srevS yown1_0l7).length cyown1_0l7 from by rw [hlen6_0]) (Ok.nil (Ok.thenN (Ok.seq (Ok.region (Ok.batch 1 [(19, .slice ayown1_0l7 (srevS yown1_0l7).length cyown1_0l7)] (by kernel_rfl) (Ok.op rfl (OpOk.step (v := sv (bytesOf (srevS yown1_0l7))) (Yields.strOfOwn 0 (by kernel_rfl) rfl rfl hL6_0 Tryz.underlying82 Tryz.underlying9 Tryz.underlying5) rfl rfl (Ok.batch 1 [(2, sv (bytesOf (srevS yown1_0l7)))] (by kernel_rfl) (Ok.nil (Ok.thenN (Ok.ret ?_))))))))))))
    exact Ok.resP (vs := [sv (bytesOf (srevS yown1_0l7))]) [] [] (by decide) rfl (.inl rfl) rfl (.cons (.tmp rfl) .nil) (hxl7.trans hx6) ⟨(bytesOf (srevS yown1_0l7)), rfl, rfl, hF⟩
theorem clet_loop (K : Bs → Prop) : ∀ (k : Nat) (n : Int) (acc : List Int), 0 ≤ n → n ≤ k → acc.length + n ≤ 1000000 → K (bytesOf (srevS (acc ++ letN k n))) → cletl7 K (k + 1) n acc := by
 intro k
 induction k with
 | zero =>
  intro n acc h0 h1 h2 hK
  refine ⟨fun h => by have := of_decide_eq_true h; omega, fun _ => ⟨by unfold srevP; omega, ?_⟩⟩
  simpa [letN] using hK
 | succ k ih =>
  intro n acc h0 h1 h2 hK
  unfold letN at hK
  refine ⟨fun h => ?_, fun h => ⟨by unfold srevP; omega, ?_⟩⟩
  ·have h := of_decide_eq_true h
   rw [if_pos h] at hK
   have e1 : Int.tmod (n - 1) 26 = (n - 1) % 26 := Int.tmod_eq_emod_of_nonneg (by omega)
   have e2 : Int.tdiv (n - 1) 26 = (n - 1) / 26 := Int.tdiv_eq_ediv_of_nonneg (by omega)
   rw [w64 (x := n - 1) (by omega), e1, e2, w64 (by omega), w64 (x := (n - 1) / 26) (by omega), IntWalk.u8_in _ (by omega)]
   refine ⟨by simp; omega, ih _ _ (by omega) (by omega) (by simp; omega) ?_⟩
   rw [List.append_assoc]
   exact hK
  ·have h := of_decide_eq_false h
   rw [if_neg (by omega), List.append_nil] at hK
   exact hK
theorem clet_F (n : Int) (hp : cletP n) : cletF n (fun r => r = cletS n) :=
 ⟨_, clet_loop _ n.toNat n [] hp.1 (by have := hp.1; omega) (by have := hp.2; simpa using this) rfl⟩
theorem clet_c {g : Ghost} (xn : Int)  (hp : cletP xn) : CallsG Tryz.prog 63 #[.int .i64 xn] g (sv (cletS xn)) :=
 (clet_ok xn _ (clet_F xn hp)).gives (by rintro g' H' v _ ⟨r0, rfl, rfl, hK⟩; subst hK; rfl)
theorem letN_in : ∀ (k : Nat) (n : Int) (x : Int), x ∈ letN k n → 97 ≤ x ∧ x ≤ 122
 | 0, _, _, h => by cases h
 | k + 1, n, x, h => by
  unfold letN at h
  split at h
  ·rcases List.mem_cons.1 h with rfl | h
   ·omega
   ·exact letN_in k _ x h
  ·cases h
theorem upper_clet {n : Int} (h : cletP n) : upprP (cletS n) := by
 unfold cletP at h
 refine ⟨?_, List.all_eq_true.2 fun x hx => ?_⟩
 ·have := letN_len n.toNat n
  simp [cletS, srevS, bytesOf]; omega
 ·unfold cletS bytesOf at hx
  obtain ⟨y, hy, rfl⟩ := List.mem_map.1 hx
  have := letN_in _ _ _ (List.mem_reverse.1 hy)
  rw [decide_eq_true_eq, UInt8.toNat_ofNat']
  omega
/-! Roman digits -/
def subN : Nat → Int → Int → Bs → Bs → Int × Bs
 | 0, n, _, _, acc => (n, acc)
 | k + 1, n, d, s, acc => if d ≤ n then subN k (n - d) d s (acc ++ s) else (n, acc)
def romG : List (Int × Bs) → Int → Bs → Bs
 | [], _, acc => acc
 | e :: l, n, acc => romG l (subN n.toNat n e.1 e.2 acc).1 (subN n.toNat n e.1 e.2 acc).2
def cromT0 : List (Int × Bs) := ([(1000, ([109] : Bs)), (900, ([99, 109] : Bs)), (500, ([100] : Bs)), (400, ([99, 100] : Bs)), (100, ([99] : Bs)), (90, ([120, 99] : Bs)), (50, ([108] : Bs)), (40, ([120, 108] : Bs)), (10, ([120] : Bs)), (9, ([105, 120] : Bs)), (5, ([118] : Bs)), (4, ([105, 118] : Bs)), (1, ([105] : Bs))] : List (Int × Bs))
def croml21b (x20l9 : Int) (e5 : Int × Bs) (C9 : Int → Int → (List (Int)) → Prop) (x0l21 : Int) (yown1_0l21 : List (Int)) (C21 : Int → (List (Int)) → Prop) : Prop :=
 ((decide (x0l21 ≥ e5.1)) = true → Bld.wsP yown1_0l21 e5.2 ∧ C21 (w6 (x0l21 - e5.1)) (Bld.wsS yown1_0l21 e5.2).2.2) ∧ ((decide (x0l21 ≥ e5.1)) = false → C9 x0l21 (w6 (x20l9 + 1)) yown1_0l21)
def croml21 (x20l9 : Int) (e5 : Int × Bs) (C9 : Int → Int → (List (Int)) → Prop) : Nat → Int → (List (Int)) → Prop
 | 0, _, _ => False
 | k + 1, x0l21, yown1_0l21 => croml21b x20l9 e5 C9 x0l21 yown1_0l21 (croml21 x20l9 e5 C9 k)
def croml9b (K : Bs → Prop) (x0l9 : Int) (x20l9 : Int) (yown1_0l9 : List (Int)) (C9 : Int → Int → (List (Int)) → Prop) : Prop :=
 ((decide (x20l9 < 13)) = true → (0 : Int) ≤ x20l9 ∧ Int.toNat x20l9 < cromT0.length ∧ ∃ k, croml21 x20l9 (cromT0.getD (Int.toNat x20l9) default) C9 k x0l9 yown1_0l9) ∧ ((decide (x20l9 < 13)) = false → Bld.stP yown1_0l9 ∧ K (bytesOf yown1_0l9))
def croml9 (K : Bs → Prop) : Nat → Int → Int → (List (Int)) → Prop
 | 0, _, _, _ => False
 | k + 1, x0l9, x20l9, yown1_0l9 => croml9b K x0l9 x20l9 yown1_0l9 (croml9 K k)
def cromF (xn : Int) (K : Bs → Prop) : Prop :=
 ∃ k, croml9 K k xn 0 ([] : List (Int))
theorem crom_ok {g : Ghost} (xn : Int) (K : Bs → Prop)
  (hF : cromF xn K) : CallsH Tryz.prog 65 #[.int .i64 xn] g [] (fun g' H' v => ∃ (r0 : Bs), v = sv r0 ∧ H' = [] ∧ K r0) := by
 refine CallsH.enter 36 [(0, .int .i64 xn)] Tryz.func65 rfl (by kernel_rfl) (by kernel_rfl) (by kernel_rfl) fun w0 => ?_
 refine Ok.seq (Ok.region (Ok.batch 1 [(0, .int .i64 xn)] (by kernel_rfl) (Ok.nil (Ok.thenN (Ok.seq (Ok.region ?_))))))
 have hL1 : RepL g (.int .u8) [] [] := rfl
 refine Ok.ownNil 5 1 (Ok.op rfl (OpOk.alloc (z := .agg #[.pointer none, .slice none 0 0]) (cs := #[.pointer none, .slice none 0 0]) (by kernel_rfl) (by kernel_rfl) rfl fun b2 => ?_))
 refine Ok.bhd (Ok.nil (Ok.thenN (Ok.seq (Ok.seq (Ok.region (Ok.batch 15 [(0, .int .i64 xn), (3, pv b2 0), (19, .agg #[.int .i64 1000, sv ([109] : Bs), .int .i64 900, sv ([99, 109] : Bs), .int .i64 500, sv ([100] : Bs), .int .i64 400, sv ([99, 100] : Bs), .int .i64 100, sv ([99] : Bs), .int .i64 90, sv ([120, 99] : Bs), .int .i64 50, sv ([108] : Bs), .int .i64 40, sv ([120, 108] : Bs), .int .i64 10, sv ([120] : Bs), .int .i64 9, sv ([105, 120] : Bs), .int .i64 5, sv ([118] : Bs), .int .i64 4, sv ([105, 118] : Bs), .int .i64 1, sv ([105] : Bs)]), (20, .int .i64 0)] (by kernel_rfl) (Ok.nil (Ok.thenN (Ok.block ?_)))))))))
 obtain ⟨k, hF⟩ := hF
 refine Ok.loop (fun k a W => ∃ gl9 : Ghost, Gext w0 g gl9 ∧ ∃ (x0l9 : Int) (x20l9 : Int) (ayown1_0l9 : Option Addr) (cyown1_0l9 : Nat) (yown1_0l9 : List (Int)) (xsyown1_0l9 : List Value), RepL gl9 (.int .u8) xsyown1_0l9 yown1_0l9 ∧ StA 36 [(0, .int .i64 x0l9), (3, pv b2 0), (19, .agg #[.int .i64 1000, sv ([109] : Bs), .int .i64 900, sv ([99, 109] : Bs), .int .i64 500, sv ([100] : Bs), .int .i64 400, sv ([99, 100] : Bs), .int .i64 100, sv ([99] : Bs), .int .i64 90, sv ([120, 99] : Bs), .int .i64 50, sv ([108] : Bs), .int .i64 40, sv ([120, 108] : Bs), .int .i64 10, sv ([120] : Bs), .int .i64 9, sv ([105, 120] : Bs), .int .i64 5, sv ([118] : Bs), .int .i64 4, sv ([105, 118] : Bs), .int .i64 1, sv ([105] : Bs)]), (20, .int .i64 x20l9)] a ∧ StW w0 [.bhd b2 98 (.slice ayown1_0l9 yown1_0l9.length cyown1_0l9), .own (.slice ayown1_0l9 yown1_0l9.length cyown1_0l9) 5 1 yown1_0l9.length xsyown1_0l9] gl9 W ∧ croml9 K k x0l9 x20l9 yown1_0l9) k ?_ ?_
 ·
  exact fun a W hA hW => ⟨g, (Gext.refl w0 g), xn, 0, none, 0, ([] : List (Int)), [], hL1, hA.sub (by kernel_rfl), hW, hF⟩
 ·
  clear hF
  rintro k9 a W ⟨gl9, hxl9, x0l9, x20l9, ayown1_0l9, cyown1_0l9, yown1_0l9, xsyown1_0l9, hLyown1_0l9, hA, hW, hF⟩
  cases k9 with
  | zero => exact (hF : False).elim
  | succ k9 =>
   refine (?_ : Ok _ _ _ _ _ _) a W hA hW
   clear hA hW
   refine Ok.seq (Ok.region (Ok.bat 1 [0, 3, 19, 20] [(21, .bool (decide (x20l9 < 13)))] ?_))
   refine Ok.nil (Ok.thenN (Ok.seq (Ok.cond (b := decide (x20l9 < 13)) rfl (fun hc3 => ?_) (fun hc3 => ?_))))
   ·replace hF := hF.1 hc3
    refine Ok.skip (Ok.thenN (Ok.seq (Ok.block (Ok.seq (Ok.region ?_)))))
    obtain ⟨h05, h15, hF⟩ := hF
    have he5 := get_of (l := cromT0) (default : Int × Bs) h15
    generalize hg5 : (cromT0.getD (Int.toNat x20l9) default) = e5 at he5 hF ⊢
    refine Ok.op rfl (OpOk.indexAggRow (e := .pair (.int .i64) (.str)) (cs := #[.int .i64 1000, sv ([109] : Bs), .int .i64 900, sv ([99, 109] : Bs), .int .i64 500, sv ([100] : Bs), .int .i64 400, sv ([99, 100] : Bs), .int .i64 100, sv ([99] : Bs), .int .i64 90, sv ([120, 99] : Bs), .int .i64 50, sv ([108] : Bs), .int .i64 40, sv ([120, 108] : Bs), .int .i64 10, sv ([120] : Bs), .int .i64 9, sv ([105, 120] : Bs), .int .i64 5, sv ([118] : Bs), .int .i64 4, sv ([105, 118] : Bs), .int .i64 1, sv ([105] : Bs)]) (L := cromT0) (q := x20l9) (el := e5) rfl rfl Tryz.underlying175 Tryz.underlying174 rfl (by kernel_rfl) (RepL.flat (by kernel_rfl) (by kernel_rfl)) (by kernel_rfl) h05 he5 rfl fun cs4 _ hr4 => ?_)
    obtain ⟨_, _, rfl, rfl, rfl⟩ := hr4
    refine Ok.op rfl (OpOk.alloc (z := .agg #[.int .i64 0, sv ([] : Bs)]) (cs := #[.int .i64 0, sv ([] : Bs)]) (by kernel_rfl) (by kernel_rfl) rfl fun b6 => ?_)
    refine Ok.op rfl (OpOk.sto (k := 2) (v := .agg #[.int .i64 e5.1, sv e5.2]) 0 #[.int .i64 e5.1, sv e5.2] rfl rfl rfl ?_)
    refine Ok.nil (Ok.thenN (Ok.block ?_))
    obtain ⟨k, hF⟩ := hF
    refine Ok.loop (fun k a W => ∃ gl21 : Ghost, Gext w0 gl9 gl21 ∧ ∃ (x0l21 : Int) (ayown1_0l21 : Option Addr) (cyown1_0l21 : Nat) (yown1_0l21 : List (Int)) (xsyown1_0l21 : List Value), RepL gl21 (.int .u8) xsyown1_0l21 yown1_0l21 ∧ StA 36 [(0, .int .i64 x0l21), (3, pv b2 0), (5, pv b6 0), (19, .agg #[.int .i64 1000, sv ([109] : Bs), .int .i64 900, sv ([99, 109] : Bs), .int .i64 500, sv ([100] : Bs), .int .i64 400, sv ([99, 100] : Bs), .int .i64 100, sv ([99] : Bs), .int .i64 90, sv ([120, 99] : Bs), .int .i64 50, sv ([108] : Bs), .int .i64 40, sv ([120, 108] : Bs), .int .i64 10, sv ([120] : Bs), .int .i64 9, sv ([105, 120] : Bs), .int .i64 5, sv ([118] : Bs), .int .i64 4, sv ([105, 118] : Bs), .int .i64 1, sv ([105] : Bs)]), (20, .int .i64 x20l9)] a ∧ StW w0 [.blk b6 (.cells #[.int .i64 e5.1, sv e5.2] 174), .bhd b2 98 (.slice ayown1_0l21 yown1_0l21.length cyown1_0l21), .own (.slice ayown1_0l21 yown1_0l21.length cyown1_0l21) 5 1 yown1_0l21.length xsyown1_0l21] gl21 W ∧ croml21 x20l9 e5 (croml9 K k9) k x0l21 yown1_0l21) k ?_ ?_
    ·
     exact fun a W hA hW => ⟨gl9, (Gext.refl w0 gl9), x0l9, ayown1_0l9, cyown1_0l9, yown1_0l9, xsyown1_0l9, hLyown1_0l9, hA.sub (by kernel_rfl), hW, hF⟩
    ·
     clear hF
     rintro k21 a W ⟨gl21, hxl21, x0l21, ayown1_0l21, cyown1_0l21, yown1_0l21, xsyown1_0l21, hLyown1_0l21, hA, hW, hF⟩
     cases k21 with
     | zero => exact (hF : False).elim
     | succ k21 =>
      refine (?_ : Ok _ _ _ _ _ _) a W hA hW
      clear hA hW
      refine Ok.seq (Ok.seq (Ok.region (Ok.bat 2 [0, 3, 5, 19, 20] [(23, .int .i64 x0l21), (24, pv b6 0)] ?_)))
      refine Ok.op rfl (OpOk.step (v := .int .i64 e5.1) (Yields.load 0 rfl rfl Tryz.underlying3 rfl (by kernel_rfl)) rfl rfl (Ok.bat 1 [0, 3, 5, 19, 20] [(26, .bool (decide (x0l21 ≥ e5.1)))] ?_))
      refine Ok.nil (Ok.thenN (Ok.cond (b := decide (x0l21 ≥ e5.1)) rfl (fun hc7 => ?_) (fun hc7 => ?_)))
      ·replace hF := hF.1 hc7
       refine Ok.skip (Ok.thenN (Ok.seq (Ok.block (Ok.region (Ok.bat 1 [0, 3, 5, 19, 20] [(31, pv b6 1)] ?_)))))
       refine Ok.op rfl (OpOk.step (v := sv e5.2) (Yields.load 0 rfl rfl Tryz.underlying9 rfl (by kernel_rfl)) rfl rfl ?_)
       obtain ⟨hp8, hF⟩ := hF
       refine Ok.entries [1, 2, 0] [.bhd b2 98 (.slice ayown1_0l21 yown1_0l21.length cyown1_0l21), .own (.slice ayown1_0l21 yown1_0l21.length cyown1_0l21) 5 1 yown1_0l21.length xsyown1_0l21, .blk b6 (.cells #[.int .i64 e5.1, sv e5.2] 174)] (by decide) rfl (Ok.op rfl (OpOk.callH [_, _] _ enr rfl (Bld.ws_c yown1_0l21 e5.2 hLyown1_0l21 hp8) rfl fun g9 _ _ hx9 hV9 => ?_))
       obtain ⟨a9_0, c9_0, xs9_0, rfl, hL9_0, rfl⟩ := hV9
       refine Ok.nil (Ok.blockN (Ok.thenN (Ok.region (Ok.batch 2 [(3, pv b2 0), (5, pv b6 0), (19, .agg #[.int .i64 1000, sv ([109] : Bs), .int .i64 900, sv ([99, 109] : Bs), .int .i64 500, sv ([100] : Bs), .int .i64 400, sv ([99, 100] : Bs), .int .i64 100, sv ([99] : Bs), .int .i64 90, sv ([120, 99] : Bs), .int .i64 50, sv ([108] : Bs), .int .i64 40, sv ([120, 108] : Bs), .int .i64 10, sv ([120] : Bs), .int .i64 9, sv ([105, 120] : Bs), .int .i64 5, sv ([118] : Bs), .int .i64 4, sv ([105, 118] : Bs), .int .i64 1, sv ([105] : Bs)]), (20, .int .i64 x20l9), (27, .int .i64 x0l21), (28, pv b6 0)] (by kernel_rfl) (Ok.op rfl (OpOk.step (v := .int .i64 e5.1) (Yields.load 2 rfl rfl Tryz.underlying3 rfl (by kernel_rfl)) rfl rfl (Ok.bat 2 [3, 5, 19, 20] [(0, .int .i64 (w6 (x0l21 - e5.1)))] ?_)))))))
       refine Ok.nil (Ok.thenN ?_)
       exact fun a W hA hW => ⟨k21, Nat.lt_succ_self _, g9, (hxl21.trans hx9), w6 (x0l21 - e5.1), a9_0, c9_0, (Bld.wsS yown1_0l21 e5.2).2.2, xs9_0, hL9_0, hA.sub (by kernel_rfl), hW.pick [2, 0, 1] _ (by decide) rfl, hF⟩
      ·replace hF := hF.2 hc7
       refine Ok.exit (Ok.thenE (Ok.thenE (Ok.blockHit (Ok.blockN (Ok.thenN (Ok.region (Ok.bat 2 [0, 3, 19] [(20, .int .i64 (w6 (x20l9 + 1)))] ?_)))))))
       refine Ok.nil (Ok.thenN ?_)
       subst hg5
       exact fun a W hA hW => ⟨k9, Nat.lt_succ_self _, gl21, (hxl9.trans hxl21), x0l21, w6 (x20l9 + 1), ayown1_0l21, cyown1_0l21, yown1_0l21, xsyown1_0l21, hLyown1_0l21, hA.sub (by kernel_rfl), hW.sub (.cons _ (.cons_cons _ (.cons_cons _ .slnil))), hF⟩
   ·replace hF := hF.2 hc3
    refine Ok.exit (Ok.thenE (Ok.thenE (Ok.blockHit (Ok.thenN (Ok.seq (Ok.region ?_))))))
    obtain ⟨hp10, hF⟩ := hF
    refine Ok.op rfl (OpOk.callH [_, _] _ enr rfl (Bld.st_c yown1_0l9 hLyown1_0l9 hp10) rfl fun g11 _ _ hx11 hV11 => ?_)
    obtain ⟨rfl, rfl⟩ := hV11
    refine Ok.batch 1 [(2, sv (bytesOf yown1_0l9))] (by kernel_rfl) (Ok.nil (Ok.thenN (Ok.ret ?_)))
    exact Ok.resH (vs := [sv (bytesOf yown1_0l9)]) (.inl rfl) rfl (.cons (.tmp rfl) .nil) (hxl9.trans hx11) ⟨(bytesOf yown1_0l9), rfl, rfl, hF⟩
def cromS (n : Int) : Bs := romG cromT0 n []
def cromP (n : Int) : Prop := 1 ≤ n ∧ n ≤ 3999
theorem ints_app (a b : Bs) : intsOf a ++ intsOf b = intsOf (a ++ b) := by simp [intsOf]
theorem subN_ok : ∀ (k : Nat) (n d : Int) (s acc : Bs), 0 ≤ n → 1 ≤ d → s.length ≤ 2 → 0 ≤ (subN k n d s acc).1 ∧ (subN k n d s acc).2.length + 2 * (subN k n d s acc).1 ≤ acc.length + 2 * n
 | 0, n, d, s, acc, h0, h1, h2 => ⟨h0, Int.le_refl _⟩
 | k + 1, n, d, s, acc, h0, h1, h2 => by
  unfold subN
  split
  ·have := subN_ok k (n - d) d s (acc ++ s) (by omega) h1 h2
   rw [List.length_append] at this
   omega
  ·exact ⟨h0, Int.le_refl _⟩
theorem crom_in (x : Int) (e : Int × Bs) (he : 1 ≤ e.1 ∧ e.2.length ≤ 2) (C9 : Int → Int → List Int → Prop) : ∀ (k : Nat) (n : Int) (acc : Bs), 0 ≤ n → n ≤ k → acc.length + 2 * n ≤ 10000 →
  C9 (subN k n e.1 e.2 acc).1 (w6 (x + 1)) (intsOf (subN k n e.1 e.2 acc).2) → croml21 x e C9 (k + 1) n (intsOf acc) := by
 intro k
 induction k with
 | zero =>
  intro n acc h0 h1 h2 hK
  exact ⟨fun h => by have := of_decide_eq_true h; omega, fun _ => hK⟩
 | succ k ih =>
  intro n acc h0 h1 h2 hK
  unfold subN at hK
  refine ⟨fun h => ?_, fun h => ?_⟩
  ·have h := of_decide_eq_true h
   rw [if_pos (by omega)] at hK
   refine ⟨by unfold wsP; rw [intsOf_length]; omega, ?_⟩
   unfold wsS
   simp only
   rw [ints_app, w64 (by omega)]
   exact ih _ _ (by omega) (by omega) (by rw [List.length_append]; omega) hK
  ·have h := of_decide_eq_false h
   rw [if_neg (by omega)] at hK
   exact hK
theorem crom_tab : ∀ e ∈ cromT0, 1 ≤ e.1 ∧ e.2.length ≤ 2 := by decide
theorem crom_loop (K : Bs → Prop) : ∀ (k i : Nat) (n : Int) (acc : Bs), i + k = 13 → 0 ≤ n → acc.length + 2 * n ≤ 10000 → K (romG (cromT0.drop i) n acc) → croml9 K (k + 1) n (i : Int) (intsOf acc) := by
 intro k
 induction k with
 | zero =>
  intro i n acc h1 h2 h3 hK
  have : cromT0.length = 13 := rfl
  rw [List.drop_of_length_le (by omega)] at hK
  refine ⟨fun h => by have := of_decide_eq_true h; omega, fun _ => ⟨by unfold stP; rw [bytesOf_intsOf], ?_⟩⟩
  rw [bytesOf_intsOf]; exact hK
 | succ k ih =>
  intro i n acc h1 h2 h3 hK
  have hl : cromT0.length = 13 := rfl
  rw [drop_get (l := cromT0) default (by omega)] at hK
  have he := crom_tab (cromT0.getD i default) (by
   rw [List.getD_eq_getElem?_getD, List.getElem?_eq_getElem (by omega), Option.getD_some]
   exact List.getElem_mem _)
  have hs := subN_ok n.toNat n (cromT0.getD i default).1 (cromT0.getD i default).2 acc h2 he.1 he.2
  refine ⟨fun _ => ⟨by omega, by omega, n.toNat + 1, ?_⟩, fun h => by have := of_decide_eq_false h; omega⟩
  rw [Int.toNat_natCast]
  refine crom_in _ _ he _ n.toNat n acc h2 (by omega) h3 ?_
  rw [w64 (by omega)]
  exact ih (i + 1) _ _ (by omega) hs.1 (by omega) hK
theorem crom_F (n : Int) (hp : cromP n) : cromF n (fun r => r = cromS n) := by
 unfold cromP at hp
 exact ⟨_, crom_loop _ 13 0 n [] rfl (by omega) (by simp; omega) rfl⟩
theorem crom_c {g : Ghost} (xn : Int)  (hp : cromP xn) : CallsG Tryz.prog 65 #[.int .i64 xn] g (sv (cromS xn)) :=
 (crom_ok xn _ (crom_F xn hp)).gives (by rintro g' H' v _ ⟨r0, rfl, rfl, hK⟩; subst hK; rfl)
theorem rom_all {p : Int → Bool} (h : (List.range 4000).all (fun n => Nat.beq n 0 || p (n : Int)) = true) {n : Int} (hn : cromP n) : p n = true := by
 unfold cromP at hn
 have h1 := List.all_eq_true.1 h n.toNat (by simp; omega)
 rw [Bool.or_eq_true] at h1
 rcases h1 with h1 | h1
 ·have := Nat.eq_of_beq_eq_true h1; omega
 ·rwa [show ((n.toNat : Nat) : Int) = n by omega] at h1
instance (s : Bs) : Decidable (upprP s) := by unfold upprP; infer_instance
theorem upper_crom {n : Int} (h : cromP n) : upprP (cromS n) := by
 have := rom_all (p := fun n => decide (upprP (cromS n))) (by decide +kernel) h
 exact of_decide_eq_true this
def cmarkP (_ : Int) (n : Int) : Prop := -1000000 ≤ n ∧ n ≤ 1000000
theorem clet_of {k a n : Int} (hp : cmarkP k n) (h : ((k == a) && decide (n > 0)) = true) : cletP n := by
 rw [Bool.and_eq_true] at h
 have := of_decide_eq_true h.2
 unfold cmarkP at hp
 exact ⟨by omega, by omega⟩
theorem crom_of {k a n : Int} (h : ((k == a) && cinM n 1 3999) = true) : cromP n := by
 rw [Bool.and_eq_true] at h
 have h := h.2
 unfold cinM at h
 simp at h
 exact ⟨by omega, by omega⟩
theorem i64_of {k n : Int} (hp : cmarkP k n) : i64P n := by unfold cmarkP at hp; exact ⟨by omega, by omega⟩
def cmarkj35 (xkind : Int) (xn : Int) (K : Bs → Prop) : Prop :=
 ((((xkind == 6) && (cinM xn 1 3999))) = true → cromP xn ∧ upprP (cromS xn) ∧ K (upprS (cromS xn))) ∧ ((((xkind == 6) && (cinM xn 1 3999))) = false → i64P xn ∧ K (Lib.itoa xn))
def cmarkj29 (xkind : Int) (xn : Int) (K : Bs → Prop) : Prop :=
 ((((xkind == 5) && (cinM xn 1 3999))) = true → cromP xn ∧ K (cromS xn)) ∧ ((((xkind == 5) && (cinM xn 1 3999))) = false → (((xkind == 6)) = true → cmarkj35 xkind xn K) ∧ (((xkind == 6)) = false → cmarkj35 xkind xn K))
def cmarkF (xkind : Int) (xn : Int) (K : Bs → Prop) : Prop :=
 (((xkind == 0)) = true → K ([] : Bs)) ∧ (((xkind == 0)) = false → (((xkind == 1)) = true → K ([226, 128, 162] : Bs)) ∧ (((xkind == 1)) = false → ((((xkind == 3) && (decide (xn > 0)))) = true → cletP xn ∧ K (cletS xn)) ∧ ((((xkind == 3) && (decide (xn > 0)))) = false → ((((xkind == 4) && (decide (xn > 0)))) = true → cletP xn ∧ upprP (cletS xn) ∧ K (upprS (cletS xn))) ∧ ((((xkind == 4) && (decide (xn > 0)))) = false → (((xkind == 5)) = true → cmarkj29 xkind xn K) ∧ (((xkind == 5)) = false → cmarkj29 xkind xn K)))))
theorem cmark_ok {g : Ghost} (xkind : Int) (xn : Int) (hG7 : GlobL g 7 (.int .u64) DPow) (K : Bs → Prop)
  (hF : cmarkF xkind xn K) : CallsH Tryz.prog 35 #[.int .i64 xkind, .int .i64 xn] g [] (fun g' H' v => ∃ (r0 : Bs), v = sv r0 ∧ H' = [] ∧ K r0) := by
 refine CallsH.enter 51 [(0, .int .i64 xkind), (1, .int .i64 xn)] Tryz.func35 rfl (by kernel_rfl) (by kernel_rfl) (by kernel_rfl) fun w0 => ?_
 refine Ok.seq (Ok.region (Ok.batch 1 [(0, .int .i64 xkind), (1, .int .i64 xn)] (by kernel_rfl) (Ok.nil (Ok.thenN (Ok.seq (Ok.block (Ok.seq (Ok.region (Ok.bat 3 [0, 1] [(5, .bool (xkind == 0))] ?_)))))))))
 refine Ok.nil (Ok.thenN (Ok.cond (b := (xkind == 0)) rfl (fun hc1 => ?_) (fun hc1 => ?_)))
 ·replace hF := hF.1 hc1
  refine Ok.seq (Ok.region (Ok.batch 1 [(4, sv ([] : Bs))] (by kernel_rfl) (Ok.nil (Ok.thenN (Ok.ret (Ok.blockR (Ok.thenR ?_)))))))
  exact Ok.resH (vs := [sv ([] : Bs)]) (.inl rfl) rfl (.cons (.tmp rfl) .nil) (Gext.refl w0 g) ⟨([] : Bs), rfl, rfl, hF⟩
 ·replace hF := hF.2 hc1
  refine Ok.seq (Ok.region (Ok.bat 3 [0, 1] [(8, .bool (xkind == 1))] ?_))
  refine Ok.nil (Ok.thenN (Ok.cond (b := (xkind == 1)) rfl (fun hc2 => ?_) (fun hc2 => ?_)))
  ·replace hF := hF.1 hc2
   refine Ok.seq (Ok.region (Ok.batch 1 [(4, sv ([226, 128, 162] : Bs))] (by kernel_rfl) (Ok.nil (Ok.thenN (Ok.ret (Ok.blockR (Ok.thenR ?_)))))))
   exact Ok.resH (vs := [sv ([226, 128, 162] : Bs)]) (.inl rfl) rfl (.cons (.tmp rfl) .nil) (Gext.refl w0 g) ⟨([226, 128, 162] : Bs), rfl, rfl, hF⟩
  ·replace hF := hF.2 hc2
   refine Ok.seq (Ok.region (Ok.bat 3 [0, 1] [(14, .bool (xkind == 3))] ?_))
   refine Ok.midway 3 [(0, .int .i64 xkind), (1, .int .i64 xn), (17, .bool ((xkind == 3) && (decide (xn > 0))))] (fun hR3 => ?_) ?_
   ·refine Ok.boolAt 14 ((xkind == 3)) rfl (fun hc4 => ?_) (fun hc4 => ?_)
    ·skip
     refine Ok.bat 3 [0, 1] [(17, .bool (decide (xn > 0)))] ?_
     refine Ok.reval 17 rfl (show (.bool (decide (xn > 0)) : Value) = .bool ((xkind == 3) && (decide (xn > 0))) from congrArg Value.bool (mand_t hc4)) (Ok.bat 0 [0, 1] [(17, .bool ((xkind == 3) && (decide (xn > 0))))] ?_)
     exact hR3
    ·skip
     refine Ok.bat 3 [0, 1] [(17, .bool false)] ?_
     refine Ok.reval 17 rfl (show (.bool false : Value) = .bool ((xkind == 3) && (decide (xn > 0))) from congrArg Value.bool (mand_f hc4)) (Ok.bat 0 [0, 1] [(17, .bool ((xkind == 3) && (decide (xn > 0))))] ?_)
     exact hR3
   refine Ok.bat 1 [0, 1] [(11, .bool ((xkind == 3) && (decide (xn > 0))))] ?_
   refine Ok.nil (Ok.thenN (Ok.cond (b := ((xkind == 3) && (decide (xn > 0)))) rfl (fun hc5 => ?_) (fun hc5 => ?_)))
   ·replace hF := hF.1 hc5
    refine Ok.seq (Ok.region (Ok.batch 1 [(18, .int .i64 xn)] (by kernel_rfl) ?_))
    obtain ⟨hp6, hF⟩ := hF
    refine Ok.op rfl (OpOk.callG (v := sv (cletS xn)) enr (fun W hW => clet_c xn hp6) rfl ?_)
    refine Ok.batch 1 [(4, sv (cletS xn))] (by kernel_rfl) (Ok.nil (Ok.thenN (Ok.ret (Ok.blockR (Ok.thenR ?_)))))
    exact Ok.resH (vs := [sv (cletS xn)]) (.inl rfl) rfl (.cons (.tmp rfl) .nil) (Gext.refl w0 g) ⟨(cletS xn), rfl, rfl, hF⟩
   ·replace hF := hF.2 hc5
    refine Ok.seq (Ok.region (Ok.bat 3 [0, 1] [(23, .bool (xkind == 4))] ?_))
    refine Ok.midway 3 [(0, .int .i64 xkind), (1, .int .i64 xn), (26, .bool ((xkind == 4) && (decide (xn > 0))))] (fun hR7 => ?_) ?_
    ·refine Ok.boolAt 23 ((xkind == 4)) rfl (fun hc8 => ?_) (fun hc8 => ?_)
     ·skip
      refine Ok.bat 3 [0, 1] [(26, .bool (decide (xn > 0)))] ?_
      refine Ok.reval 26 rfl (show (.bool (decide (xn > 0)) : Value) = .bool ((xkind == 4) && (decide (xn > 0))) from congrArg Value.bool (mand_t hc8)) (Ok.bat 0 [0, 1] [(26, .bool ((xkind == 4) && (decide (xn > 0))))] ?_)
      exact hR7
     ·skip
      refine Ok.bat 3 [0, 1] [(26, .bool false)] ?_
      refine Ok.reval 26 rfl (show (.bool false : Value) = .bool ((xkind == 4) && (decide (xn > 0))) from congrArg Value.bool (mand_f hc8)) (Ok.bat 0 [0, 1] [(26, .bool ((xkind == 4) && (decide (xn > 0))))] ?_)
      exact hR7
    refine Ok.bat 1 [0, 1] [(20, .bool ((xkind == 4) && (decide (xn > 0))))] ?_
    refine Ok.nil (Ok.thenN (Ok.cond (b := ((xkind == 4) && (decide (xn > 0)))) rfl (fun hc9 => ?_) (fun hc9 => ?_)))
    ·replace hF := hF.1 hc9
     refine Ok.seq (Ok.region (Ok.batch 1 [(27, .int .i64 xn)] (by kernel_rfl) ?_))
     obtain ⟨hp10, hF⟩ := hF
     refine Ok.op rfl (OpOk.callG (v := sv (cletS xn)) enr (fun W hW => clet_c xn hp10) rfl ?_)
     obtain ⟨hp11, hF⟩ := hF
     refine Ok.op rfl (OpOk.callG (v := sv (upprS (cletS xn))) enr (fun W hW => uppr_c (cletS xn) hp11) rfl ?_)
     refine Ok.batch 1 [(4, sv (upprS (cletS xn)))] (by kernel_rfl) (Ok.nil (Ok.thenN (Ok.ret (Ok.blockR (Ok.thenR ?_)))))
     exact Ok.resH (vs := [sv (upprS (cletS xn))]) (.inl rfl) rfl (.cons (.tmp rfl) .nil) (Gext.refl w0 g) ⟨(upprS (cletS xn)), rfl, rfl, hF⟩
    ·replace hF := hF.2 hc9
     refine Ok.cut (fun a W => StA 51 [(0, .int .i64 xkind), (1, .int .i64 xn), (30, .bool ((xkind == 5) && (cinM xn 1 3999)))] a ∧ StW w0 [] g W ∧ cmarkj29 xkind xn K) ?_ ?_
     ·
      refine Ok.region (Ok.bat 3 [0, 1] [(33, .bool (xkind == 5))] ?_)
      refine Ok.boolAt 33 ((xkind == 5)) rfl (fun hc19 => ?_) (fun hc19 => ?_)
      ·replace hF := hF.1 hc19
       refine Ok.bat 1 [0, 1] [(33, .bool true), (34, .int .i64 xn)] ?_
       refine Ok.opYes (j := 2) (d := 33) (want := true) (b := true) rfl (by kernel_rfl) (by kernel_rfl) rfl (OpOk.callG (v := .bool (cinM xn 1 3999)) enr (fun W hW => cin_c xn 1 3999) rfl ?_)
       refine Ok.bat 2 [0, 1] [(30, .bool (cinM xn 1 3999))] ?_
       refine Ok.nil (Ok.thenN (Ok.reval 30 rfl (show (.bool (cinM xn 1 3999) : Value) = .bool ((xkind == 5) && (cinM xn 1 3999)) from congrArg (Value.bool) (mand_t hc19)) ?_))
       exact fun a W hA hW => ⟨hA.sub (by kernel_rfl), hW, hF⟩
      ·replace hF := hF.2 hc19
       refine Ok.bat 4 [0, 1] [(30, .bool false)] ?_
       refine Ok.nil (Ok.thenN (Ok.reval 30 rfl (show (.bool false : Value) = .bool ((xkind == 5) && (cinM xn 1 3999)) from congrArg (Value.bool) (mand_f hc19)) ?_))
       exact fun a W hA hW => ⟨hA.sub (by kernel_rfl), hW, hF⟩
     ·
      clear hF
      rintro a W ⟨hA, hW, hF⟩
      refine (?_ : Ok _ _ _ _ _ _) a W hA hW
      clear hA hW
      refine Ok.cond (b := ((xkind == 5) && (cinM xn 1 3999))) rfl (fun hc12 => ?_) (fun hc12 => ?_)
      ·replace hF := hF.1 hc12
       refine Ok.seq (Ok.region (Ok.batch 1 [(37, .int .i64 xn)] (by kernel_rfl) ?_))
       obtain ⟨hp13, hF⟩ := hF
       refine Ok.op rfl (OpOk.callG (v := sv (cromS xn)) enr (fun W hW => crom_c xn hp13) rfl ?_)
       refine Ok.batch 1 [(4, sv (cromS xn))] (by kernel_rfl) (Ok.nil (Ok.thenN (Ok.ret (Ok.blockR (Ok.thenR ?_)))))
       exact Ok.resH (vs := [sv (cromS xn)]) (.inl rfl) rfl (.cons (.tmp rfl) .nil) (Gext.refl w0 g) ⟨(cromS xn), rfl, rfl, hF⟩
      ·replace hF := hF.2 hc12
       refine Ok.cut (fun a W => StA 51 [(1, .int .i64 xn), (39, .bool ((xkind == 6) && (cinM xn 1 3999)))] a ∧ StW w0 [] g W ∧ cmarkj35 xkind xn K) ?_ ?_
       ·
        refine Ok.region (Ok.bat 3 [1] [(42, .bool (xkind == 6))] ?_)
        refine Ok.boolAt 42 ((xkind == 6)) rfl (fun hc18 => ?_) (fun hc18 => ?_)
        ·replace hF := hF.1 hc18
         refine Ok.bat 1 [1] [(42, .bool true), (43, .int .i64 xn)] ?_
         refine Ok.opYes (j := 2) (d := 42) (want := true) (b := true) rfl (by kernel_rfl) (by kernel_rfl) rfl (OpOk.callG (v := .bool (cinM xn 1 3999)) enr (fun W hW => cin_c xn 1 3999) rfl ?_)
         refine Ok.bat 2 [1] [(39, .bool (cinM xn 1 3999))] ?_
         refine Ok.nil (Ok.thenN (Ok.reval 39 rfl (show (.bool (cinM xn 1 3999) : Value) = .bool ((xkind == 6) && (cinM xn 1 3999)) from congrArg (Value.bool) (mand_t hc18)) ?_))
         exact fun a W hA hW => ⟨hA.sub (by kernel_rfl), hW, hF⟩
        ·replace hF := hF.2 hc18
         refine Ok.bat 4 [1] [(39, .bool false)] ?_
         refine Ok.nil (Ok.thenN (Ok.reval 39 rfl (show (.bool false : Value) = .bool ((xkind == 6) && (cinM xn 1 3999)) from congrArg (Value.bool) (mand_f hc18)) ?_))
         exact fun a W hA hW => ⟨hA.sub (by kernel_rfl), hW, hF⟩
       ·
        clear hF
        rintro a W ⟨hA, hW, hF⟩
        refine (?_ : Ok _ _ _ _ _ _) a W hA hW
        clear hA hW
        refine Ok.cond (b := ((xkind == 6) && (cinM xn 1 3999))) rfl (fun hc14 => ?_) (fun hc14 => ?_)
        ·replace hF := hF.1 hc14
         refine Ok.seq (Ok.region (Ok.batch 1 [(46, .int .i64 xn)] (by kernel_rfl) ?_))
         obtain ⟨hp15, hF⟩ := hF
         refine Ok.op rfl (OpOk.callG (v := sv (cromS xn)) enr (fun W hW => crom_c xn hp15) rfl ?_)
         obtain ⟨hp16, hF⟩ := hF
         refine Ok.op rfl (OpOk.callG (v := sv (upprS (cromS xn))) enr (fun W hW => uppr_c (cromS xn) hp16) rfl ?_)
         refine Ok.batch 1 [(4, sv (upprS (cromS xn)))] (by kernel_rfl) (Ok.nil (Ok.thenN (Ok.ret (Ok.blockR (Ok.thenR ?_)))))
         exact Ok.resH (vs := [sv (upprS (cromS xn))]) (.inl rfl) rfl (.cons (.tmp rfl) .nil) (Gext.refl w0 g) ⟨(upprS (cromS xn)), rfl, rfl, hF⟩
        ·replace hF := hF.2 hc14
         refine Ok.skip (Ok.blockN (Ok.thenN (Ok.seq (Ok.region (Ok.batch 1 [(49, .int .i64 xn)] (by kernel_rfl) ?_)))))
         obtain ⟨hp17, hF⟩ := hF
         refine Ok.op rfl (OpOk.callG (v := sv (Lib.itoa xn)) enr (fun W hW => itoa_c xn (hG7.mono hW.sees) hp17) rfl ?_)
         refine Ok.batch 1 [(4, sv (Lib.itoa xn))] (by kernel_rfl) (Ok.nil (Ok.thenN (Ok.ret ?_)))
         exact Ok.resH (vs := [sv (Lib.itoa xn)]) (.inl rfl) rfl (.cons (.tmp rfl) .nil) (Gext.refl w0 g) ⟨(Lib.itoa xn), rfl, rfl, hF⟩
set_option maxHeartbeats 4000000
def cmarkj35M (xkind : Int) (xn : Int) : Bs := (if ((xkind == 6) && (cinM xn 1 3999)) = true then (upprS (cromS xn)) else (Lib.itoa xn))
theorem cmarkj35_A (xkind : Int) (xn : Int) (hp : cmarkP xkind xn) (P : Bs → Prop) (h : P (cmarkj35M xkind xn)) : cmarkj35 xkind xn (fun k0 => P k0) := by
 unfold cmarkj35M at h
 unfold cmarkj35
 refine ⟨fun hc0 => ?_, fun hc0 => ?_⟩
 ·rw [if_t hc0] at h
  have hd0 := hc0; try simp only [Bool.and_eq_true, Bool.or_eq_true, Bool.and_eq_false_iff, Bool.or_eq_false_iff, Bool.not_eq_true', Bool.not_eq_false', decide_eq_true_eq, decide_eq_false_iff_not, beq_iff_eq, beq_eq_false_iff_ne, ne_eq] at hd0
  refine ⟨?_, ?_⟩
  ·first | exact i64_of hp | exact upper_crom (crom_of (by assumption)) | exact crom_of (by assumption) | exact upper_clet (clet_of hp (by assumption)) | exact clet_of hp (by assumption) | omega | assumption | exact trivial | (have h0 := List.length_pos_iff.mpr (by assumption); omega) | (simp; omega) | (simp at *; omega)
  refine ⟨?_, ?_⟩
  ·first | exact i64_of hp | exact upper_crom (crom_of (by assumption)) | exact crom_of (by assumption) | exact upper_clet (clet_of hp (by assumption)) | exact clet_of hp (by assumption) | omega | assumption | exact trivial | (have h0 := List.length_pos_iff.mpr (by assumption); omega) | (simp; omega) | (simp at *; omega)
  exact h
 ·rw [if_f hc0] at h
  have hd0 := hc0; try simp only [Bool.and_eq_true, Bool.or_eq_true, Bool.and_eq_false_iff, Bool.or_eq_false_iff, Bool.not_eq_true', Bool.not_eq_false', decide_eq_true_eq, decide_eq_false_iff_not, beq_iff_eq, beq_eq_false_iff_ne, ne_eq] at hd0
  refine ⟨?_, ?_⟩
  ·first | exact i64_of hp | exact upper_crom (crom_of (by assumption)) | exact crom_of (by assumption) | exact upper_clet (clet_of hp (by assumption)) | exact clet_of hp (by assumption) | omega | assumption | exact trivial | (have h0 := List.length_pos_iff.mpr (by assumption); omega) | (simp; omega) | (simp at *; omega)
  exact h
def cmarkj29M (xkind : Int) (xn : Int) : Bs := (if ((xkind == 5) && (cinM xn 1 3999)) = true then (cromS xn) else (cmarkj35M xkind xn))
theorem cmarkj29_A (xkind : Int) (xn : Int) (hp : cmarkP xkind xn) (P : Bs → Prop) (h : P (cmarkj29M xkind xn)) : cmarkj29 xkind xn (fun k0 => P k0) := by
 unfold cmarkj29M at h
 unfold cmarkj29
 refine ⟨fun hc0 => ?_, fun hc0 => ?_⟩
 ·rw [if_t hc0] at h
  have hd0 := hc0; try simp only [Bool.and_eq_true, Bool.or_eq_true, Bool.and_eq_false_iff, Bool.or_eq_false_iff, Bool.not_eq_true', Bool.not_eq_false', decide_eq_true_eq, decide_eq_false_iff_not, beq_iff_eq, beq_eq_false_iff_ne, ne_eq] at hd0
  refine ⟨?_, ?_⟩
  ·first | exact i64_of hp | exact upper_crom (crom_of (by assumption)) | exact crom_of (by assumption) | exact upper_clet (clet_of hp (by assumption)) | exact clet_of hp (by assumption) | omega | assumption | exact trivial | (have h0 := List.length_pos_iff.mpr (by assumption); omega) | (simp; omega) | (simp at *; omega)
  exact h
 ·rw [if_f hc0] at h
  have hd0 := hc0; try simp only [Bool.and_eq_true, Bool.or_eq_true, Bool.and_eq_false_iff, Bool.or_eq_false_iff, Bool.not_eq_true', Bool.not_eq_false', decide_eq_true_eq, decide_eq_false_iff_not, beq_iff_eq, beq_eq_false_iff_ne, ne_eq] at hd0
  refine ⟨fun hc1 => ?_, fun hc1 => ?_⟩
  ·skip
   have hd1 := hc1; try simp only [Bool.and_eq_true, Bool.or_eq_true, Bool.and_eq_false_iff, Bool.or_eq_false_iff, Bool.not_eq_true', Bool.not_eq_false', decide_eq_true_eq, decide_eq_false_iff_not, beq_iff_eq, beq_eq_false_iff_ne, ne_eq] at hd1
   exact cmarkj35_A xkind xn (by first | exact i64_of hp | exact upper_crom (crom_of (by assumption)) | exact crom_of (by assumption) | exact upper_clet (clet_of hp (by assumption)) | exact clet_of hp (by assumption) | omega | assumption | exact trivial | (have h0 := List.length_pos_iff.mpr (by assumption); omega) | (simp; omega) | (simp at *; omega)) _ h
  ·skip
   have hd1 := hc1; try simp only [Bool.and_eq_true, Bool.or_eq_true, Bool.and_eq_false_iff, Bool.or_eq_false_iff, Bool.not_eq_true', Bool.not_eq_false', decide_eq_true_eq, decide_eq_false_iff_not, beq_iff_eq, beq_eq_false_iff_ne, ne_eq] at hd1
   exact cmarkj35_A xkind xn (by first | exact i64_of hp | exact upper_crom (crom_of (by assumption)) | exact crom_of (by assumption) | exact upper_clet (clet_of hp (by assumption)) | exact clet_of hp (by assumption) | omega | assumption | exact trivial | (have h0 := List.length_pos_iff.mpr (by assumption); omega) | (simp; omega) | (simp at *; omega)) _ h
def cmarkM (xkind : Int) (xn : Int) : Bs := (if (xkind == 0) = true then ([] : Bs) else (if (xkind == 1) = true then ([226, 128, 162] : Bs) else (if ((xkind == 3) && (decide (xn > 0))) = true then (cletS xn) else (if ((xkind == 4) && (decide (xn > 0))) = true then (upprS (cletS xn)) else (cmarkj29M xkind xn)))))
theorem cmarkF_A (xkind : Int) (xn : Int) (hp : cmarkP xkind xn) (P : Bs → Prop) (h : P (cmarkM xkind xn)) : cmarkF xkind xn (fun k0 => P k0) := by
 unfold cmarkM at h
 unfold cmarkF
 refine ⟨fun hc0 => ?_, fun hc0 => ?_⟩
 ·rw [if_t hc0] at h
  have hd0 := hc0; try simp only [Bool.and_eq_true, Bool.or_eq_true, Bool.and_eq_false_iff, Bool.or_eq_false_iff, Bool.not_eq_true', Bool.not_eq_false', decide_eq_true_eq, decide_eq_false_iff_not, beq_iff_eq, beq_eq_false_iff_ne, ne_eq] at hd0
  exact h
 ·rw [if_f hc0] at h
  have hd0 := hc0; try simp only [Bool.and_eq_true, Bool.or_eq_true, Bool.and_eq_false_iff, Bool.or_eq_false_iff, Bool.not_eq_true', Bool.not_eq_false', decide_eq_true_eq, decide_eq_false_iff_not, beq_iff_eq, beq_eq_false_iff_ne, ne_eq] at hd0
  refine ⟨fun hc1 => ?_, fun hc1 => ?_⟩
  ·rw [if_t hc1] at h
   have hd1 := hc1; try simp only [Bool.and_eq_true, Bool.or_eq_true, Bool.and_eq_false_iff, Bool.or_eq_false_iff, Bool.not_eq_true', Bool.not_eq_false', decide_eq_true_eq, decide_eq_false_iff_not, beq_iff_eq, beq_eq_false_iff_ne, ne_eq] at hd1
   exact h
  ·rw [if_f hc1] at h
   have hd1 := hc1; try simp only [Bool.and_eq_true, Bool.or_eq_true, Bool.and_eq_false_iff, Bool.or_eq_false_iff, Bool.not_eq_true', Bool.not_eq_false', decide_eq_true_eq, decide_eq_false_iff_not, beq_iff_eq, beq_eq_false_iff_ne, ne_eq] at hd1
   refine ⟨fun hc2 => ?_, fun hc2 => ?_⟩
   ·rw [if_t hc2] at h
    have hd2 := hc2; try simp only [Bool.and_eq_true, Bool.or_eq_true, Bool.and_eq_false_iff, Bool.or_eq_false_iff, Bool.not_eq_true', Bool.not_eq_false', decide_eq_true_eq, decide_eq_false_iff_not, beq_iff_eq, beq_eq_false_iff_ne, ne_eq] at hd2
    refine ⟨?_, ?_⟩
    ·first | exact i64_of hp | exact upper_crom (crom_of (by assumption)) | exact crom_of (by assumption) | exact upper_clet (clet_of hp (by assumption)) | exact clet_of hp (by assumption) | omega | assumption | exact trivial | (have h0 := List.length_pos_iff.mpr (by assumption); omega) | (simp; omega) | (simp at *; omega)
    exact h
   ·rw [if_f hc2] at h
    have hd2 := hc2; try simp only [Bool.and_eq_true, Bool.or_eq_true, Bool.and_eq_false_iff, Bool.or_eq_false_iff, Bool.not_eq_true', Bool.not_eq_false', decide_eq_true_eq, decide_eq_false_iff_not, beq_iff_eq, beq_eq_false_iff_ne, ne_eq] at hd2
    refine ⟨fun hc3 => ?_, fun hc3 => ?_⟩
    ·rw [if_t hc3] at h
     have hd3 := hc3; try simp only [Bool.and_eq_true, Bool.or_eq_true, Bool.and_eq_false_iff, Bool.or_eq_false_iff, Bool.not_eq_true', Bool.not_eq_false', decide_eq_true_eq, decide_eq_false_iff_not, beq_iff_eq, beq_eq_false_iff_ne, ne_eq] at hd3
     refine ⟨?_, ?_⟩
     ·first | exact i64_of hp | exact upper_crom (crom_of (by assumption)) | exact crom_of (by assumption) | exact upper_clet (clet_of hp (by assumption)) | exact clet_of hp (by assumption) | omega | assumption | exact trivial | (have h0 := List.length_pos_iff.mpr (by assumption); omega) | (simp; omega) | (simp at *; omega)
     refine ⟨?_, ?_⟩
     ·first | exact i64_of hp | exact upper_crom (crom_of (by assumption)) | exact crom_of (by assumption) | exact upper_clet (clet_of hp (by assumption)) | exact clet_of hp (by assumption) | omega | assumption | exact trivial | (have h0 := List.length_pos_iff.mpr (by assumption); omega) | (simp; omega) | (simp at *; omega)
     exact h
    ·rw [if_f hc3] at h
     have hd3 := hc3; try simp only [Bool.and_eq_true, Bool.or_eq_true, Bool.and_eq_false_iff, Bool.or_eq_false_iff, Bool.not_eq_true', Bool.not_eq_false', decide_eq_true_eq, decide_eq_false_iff_not, beq_iff_eq, beq_eq_false_iff_ne, ne_eq] at hd3
     refine ⟨fun hc4 => ?_, fun hc4 => ?_⟩
     ·skip
      have hd4 := hc4; try simp only [Bool.and_eq_true, Bool.or_eq_true, Bool.and_eq_false_iff, Bool.or_eq_false_iff, Bool.not_eq_true', Bool.not_eq_false', decide_eq_true_eq, decide_eq_false_iff_not, beq_iff_eq, beq_eq_false_iff_ne, ne_eq] at hd4
      exact cmarkj29_A xkind xn (by first | exact i64_of hp | exact upper_crom (crom_of (by assumption)) | exact crom_of (by assumption) | exact upper_clet (clet_of hp (by assumption)) | exact clet_of hp (by assumption) | omega | assumption | exact trivial | (have h0 := List.length_pos_iff.mpr (by assumption); omega) | (simp; omega) | (simp at *; omega)) _ h
     ·skip
      have hd4 := hc4; try simp only [Bool.and_eq_true, Bool.or_eq_true, Bool.and_eq_false_iff, Bool.or_eq_false_iff, Bool.not_eq_true', Bool.not_eq_false', decide_eq_true_eq, decide_eq_false_iff_not, beq_iff_eq, beq_eq_false_iff_ne, ne_eq] at hd4
      exact cmarkj29_A xkind xn (by first | exact i64_of hp | exact upper_crom (crom_of (by assumption)) | exact crom_of (by assumption) | exact upper_clet (clet_of hp (by assumption)) | exact clet_of hp (by assumption) | omega | assumption | exact trivial | (have h0 := List.length_pos_iff.mpr (by assumption); omega) | (simp; omega) | (simp at *; omega)) _ h
theorem cmark_F (xkind : Int) (xn : Int) (hp : cmarkP xkind xn) : cmarkF xkind xn (fun k0 => k0 = cmarkM xkind xn) :=
 cmarkF_A xkind xn hp (fun z => z = cmarkM xkind xn) rfl
theorem cmark_c {g : Ghost} (xkind : Int) (xn : Int) (hG7 : GlobL g 7 (.int .u64) DPow)  (hp : cmarkP xkind xn) : CallsG Tryz.prog 35 #[.int .i64 xkind, .int .i64 xn] g (sv (cmarkM xkind xn)) :=
 (cmark_ok xkind xn hG7 _ (cmark_F xkind xn hp)).gives (by rintro g' H' v _ ⟨r0, rfl, rfl, hK⟩; subst hK; rfl)
theorem mark_in {k n : Int} (h : (!(cinM n (-1000000) 1000000)) = false) : cmarkP k n := by
 unfold cinM at h
 simp at h
 exact ⟨by omega, by omega⟩
def cMarkF (xkind : Int) (xn : Int) (K : Bs → Int → Prop) : Prop :=
 ((!(cinM xkind 0 6)) = true → K ([] : Bs) 7) ∧ ((!(cinM xkind 0 6)) = false → ((!(cinM xn (-1000000) 1000000)) = true → K ([] : Bs) 1) ∧ ((!(cinM xn (-1000000) 1000000)) = false → cmarkP xkind xn ∧ K (cmarkM xkind xn) 0))
theorem cMark_ok {g : Ghost} (xkind : Int) (xn : Int) (hG7 : GlobL g 7 (.int .u64) DPow) (K : Bs → Int → Prop)
  (hF : cMarkF xkind xn K) : CallsH Tryz.prog 32 #[.int .i64 xkind, .int .i64 xn] g [] (fun g' H' v => ∃ (r0 : Bs), ∃ (r1 : Int), v = .tuple #[sv r0, .int .i64 r1] ∧ H' = [] ∧ K r0 r1) := by
 refine CallsH.enter 15 [(0, .int .i64 xkind), (1, .int .i64 xn)] Tryz.func32 rfl (by kernel_rfl) (by kernel_rfl) (by kernel_rfl) fun w0 => ?_
 refine Ok.seq (Ok.region (Ok.batch 2 [(0, .int .i64 xkind), (1, .int .i64 xn)] (by kernel_rfl) (Ok.nil (Ok.thenN (Ok.seq (Ok.seq (Ok.region (Ok.bat 1 [0, 1] [(6, .int .i64 xkind)] ?_))))))))
 refine Ok.op rfl (OpOk.callG (v := .bool (cinM xkind 0 6)) enr (fun W hW => cin_c xkind 0 6) rfl ?_)
 refine Ok.bat 1 [0, 1] [(8, .bool (!(cinM xkind 0 6)))] ?_
 refine Ok.nil (Ok.thenN (Ok.cond (b := !(cinM xkind 0 6)) rfl (fun hc1 => ?_) (fun hc1 => ?_)))
 ·replace hF := hF.1 hc1
  refine Ok.seq (Ok.region (Ok.batch 2 [(4, sv ([] : Bs)), (5, .int .i64 7)] (by kernel_rfl) (Ok.nil (Ok.thenN (Ok.ret (Ok.thenR ?_))))))
  exact Ok.resH (vs := [sv ([] : Bs), .int .i64 7]) (.inl rfl) rfl (.cons (.tmp rfl) (.cons (.tmp rfl) .nil)) (Gext.refl w0 g) ⟨([] : Bs), 7, rfl, rfl, hF⟩
 ·replace hF := hF.2 hc1
  refine Ok.skip (Ok.thenN (Ok.seq (Ok.seq (Ok.region (Ok.bat 1 [0, 1] [(9, .int .i64 xn)] ?_)))))
  refine Ok.op rfl (OpOk.callG (v := .bool (cinM xn (-1000000) 1000000)) enr (fun W hW => cin_c xn (-1000000) 1000000) rfl ?_)
  refine Ok.bat 1 [0, 1] [(11, .bool (!(cinM xn (-1000000) 1000000)))] ?_
  refine Ok.nil (Ok.thenN (Ok.cond (b := !(cinM xn (-1000000) 1000000)) rfl (fun hc2 => ?_) (fun hc2 => ?_)))
  ·replace hF := hF.1 hc2
   refine Ok.seq (Ok.region (Ok.batch 2 [(4, sv ([] : Bs)), (5, .int .i64 1)] (by kernel_rfl) (Ok.nil (Ok.thenN (Ok.ret (Ok.thenR ?_))))))
   exact Ok.resH (vs := [sv ([] : Bs), .int .i64 1]) (.inl rfl) rfl (.cons (.tmp rfl) (.cons (.tmp rfl) .nil)) (Gext.refl w0 g) ⟨([] : Bs), 1, rfl, rfl, hF⟩
  ·replace hF := hF.2 hc2
   refine Ok.skip (Ok.thenN (Ok.seq (Ok.region (Ok.batch 2 [(12, .int .i64 xkind), (13, .int .i64 xn)] (by kernel_rfl) ?_))))
   obtain ⟨hp3, hF⟩ := hF
   refine Ok.op rfl (OpOk.callG (v := sv (cmarkM xkind xn)) enr (fun W hW => cmark_c xkind xn (hG7.mono hW.sees) hp3) rfl ?_)
   refine Ok.batch 2 [(4, sv (cmarkM xkind xn)), (5, .int .i64 0)] (by kernel_rfl) (Ok.nil (Ok.thenN (Ok.ret ?_)))
   exact Ok.resH (vs := [sv (cmarkM xkind xn), .int .i64 0]) (.inl rfl) rfl (.cons (.tmp rfl) (.cons (.tmp rfl) .nil)) (Gext.refl w0 g) ⟨(cmarkM xkind xn), 0, rfl, rfl, hF⟩
def cMarkM (xkind : Int) (xn : Int) : Bs × Int := (if (!(cinM xkind 0 6)) = true then (([] : Bs), 7) else (if (!(cinM xn (-1000000) 1000000)) = true then (([] : Bs), 1) else ((cmarkM xkind xn), 0)))
theorem cMarkF_A (xkind : Int) (xn : Int) (P : Bs × Int → Prop) (h : P (cMarkM xkind xn)) : cMarkF xkind xn (fun k0 k1 => P (k0, k1)) := by
 unfold cMarkM at h
 unfold cMarkF
 refine ⟨fun hc0 => ?_, fun hc0 => ?_⟩
 ·rw [if_t hc0] at h
  exact h
 ·rw [if_f hc0] at h
  refine ⟨fun hc1 => ?_, fun hc1 => ?_⟩
  ·rw [if_t hc1] at h
   exact h
  ·rw [if_f hc1] at h
   refine ⟨?_, ?_⟩
   ·first | exact mark_in (by assumption) | omega | assumption | exact trivial | (have h0 := List.length_pos_iff.mpr (by assumption); omega) | (simp; omega) | (simp at *; omega)
   exact h
theorem cMark_F (xkind : Int) (xn : Int) : cMarkF xkind xn (fun k0 k1 => (k0, k1) = cMarkM xkind xn) :=
 cMarkF_A xkind xn (fun z => z = cMarkM xkind xn) rfl
theorem cMark_c {g : Ghost} (xkind : Int) (xn : Int) (hG7 : GlobL g 7 (.int .u64) DPow)  : CallsG Tryz.prog 32 #[.int .i64 xkind, .int .i64 xn] g (.tuple #[sv ((cMarkM xkind xn).1), .int .i64 (cMarkM xkind xn).2]) :=
 (cMark_ok xkind xn hG7 _ (cMark_F xkind xn)).gives (by rintro g' H' v _ ⟨r0, r1, rfl, rfl, hK⟩; obtain ⟨rfl, rfl⟩ : r0 = (cMarkM xkind xn).1 ∧ r1 = (cMarkM xkind xn).2 := ⟨congrArg (fun z => z.1) hK, congrArg (fun z => z.2) hK⟩; rfl)
/-! the reference -/
def rltP (N : Nat) (n : Int) : Prop := 0 ≤ n ∧ n ≤ 1000000 ∧ n < N
def rlt_C (N : Nat) : Prop := ∀ (g : Ghost) (xn : Int)  (hp : rltP N xn), CallsG Tryz.prog 38 #[.int .i64 xn] g (sv (cletS xn))
def rltF (N : Nat) (xn : Int) (K : Bs → Prop) : Prop :=
 (((xn == 0)) = true → K ([] : Bs)) ∧ (((xn == 0)) = false → rltP N (w6 (Int.tdiv (w6 (xn - 1)) 26)) ∧ (0 : Int) ≤ (Int.tmod (w6 (xn - 1)) 26) ∧ ((Int.tmod (w6 (xn - 1)) 26) : Int) ≤ (w6 ((Int.tmod (w6 (xn - 1)) 26) + 1)) ∧ (w6 ((Int.tmod (w6 (xn - 1)) 26) + 1)) ≤ (([97, 98, 99, 100, 101, 102, 103, 104, 105, 106, 107, 108, 109, 110, 111, 112, 113, 114, 115, 116, 117, 118, 119, 120, 121, 122] : Bs).length : Int) ∧ (cletS (w6 (Int.tdiv (w6 (xn - 1)) 26))).length + ((([97, 98, 99, 100, 101, 102, 103, 104, 105, 106, 107, 108, 109, 110, 111, 112, 113, 114, 115, 116, 117, 118, 119, 120, 121, 122] : Bs).take (Int.toNat (w6 ((Int.tmod (w6 (xn - 1)) 26) + 1)))).drop (Int.toNat (Int.tmod (w6 (xn - 1)) 26))).length ≤ maxLen ∧ K ((cletS (w6 (Int.tdiv (w6 (xn - 1)) 26))) ++ ((([97, 98, 99, 100, 101, 102, 103, 104, 105, 106, 107, 108, 109, 110, 111, 112, 113, 114, 115, 116, 117, 118, 119, 120, 121, 122] : Bs).take (Int.toNat (w6 ((Int.tmod (w6 (xn - 1)) 26) + 1)))).drop (Int.toNat (Int.tmod (w6 (xn - 1)) 26)))))
theorem rlt_ok {g : Ghost} (N : Nat) (ih_rlt : rlt_C N) (xn : Int) (K : Bs → Prop)
  (hF : rltF N xn K) : CallsH Tryz.prog 38 #[.int .i64 xn] g [] (fun g' H' v => ∃ (r0 : Bs), v = sv r0 ∧ H' = [] ∧ K r0) := by
 refine CallsH.enter 18 [(0, .int .i64 xn)] Tryz.func38 rfl (by kernel_rfl) (by kernel_rfl) (by kernel_rfl) fun w0 => ?_
 refine Ok.seq (Ok.region (Ok.batch 1 [(0, .int .i64 xn)] (by kernel_rfl) (Ok.nil (Ok.thenN (Ok.seq (Ok.seq (Ok.region (Ok.bat 2 [0] [(4, .bool (xn == 0))] ?_))))))))
 refine Ok.nil (Ok.thenN (Ok.cond (b := (xn == 0)) rfl (fun hc1 => ?_) (fun hc1 => ?_)))
 ·replace hF := hF.1 hc1
  refine Ok.seq (Ok.region (Ok.batch 1 [(2, sv ([] : Bs))] (by kernel_rfl) (Ok.nil (Ok.thenN (Ok.ret (Ok.thenR ?_))))))
  exact Ok.resH (vs := [sv ([] : Bs)]) (.inl rfl) rfl (.cons (.tmp rfl) .nil) (Gext.refl w0 g) ⟨([] : Bs), rfl, rfl, hF⟩
 ·replace hF := hF.2 hc1
  refine Ok.skip (Ok.thenN (Ok.seq (Ok.quiet' (by kernel_rfl) (by kernel_rfl) (OkQ.bat 3 [0] [(7, .int .i64 (w6 (Int.tdiv (w6 (xn - 1)) 26)))] ?_))))
  obtain ⟨hp2, hF⟩ := hF
  refine OkQ.op rfl (OpQ.callG (v := sv (cletS (w6 (Int.tdiv (w6 (xn - 1)) 26)))) enr (fun W hW => ih_rlt _ (w6 (Int.tdiv (w6 (xn - 1)) 26)) hp2) rfl ?_)
  refine OkQ.batch 7 [(8, sv (cletS (w6 (Int.tdiv (w6 (xn - 1)) 26)))), (11, .int .i64 (Int.tmod (w6 (xn - 1)) 26)), (15, .int .i64 (w6 ((Int.tmod (w6 (xn - 1)) 26) + 1)))] (by kernel_rfl) ?_
  obtain ⟨h03, h13, h23, hF⟩ := hF
  refine OkQ.op rfl (OpQ.step (v := sv ((([97, 98, 99, 100, 101, 102, 103, 104, 105, 106, 107, 108, 109, 110, 111, 112, 113, 114, 115, 116, 117, 118, 119, 120, 121, 122] : Bs).take (Int.toNat (w6 ((Int.tmod (w6 (xn - 1)) 26) + 1)))).drop (Int.toNat (Int.tmod (w6 (xn - 1)) 26)))) (Yields.sliceStr (s := ([97, 98, 99, 100, 101, 102, 103, 104, 105, 106, 107, 108, 109, 110, 111, 112, 113, 114, 115, 116, 117, 118, 119, 120, 121, 122] : Bs)) (l := (Int.tmod (w6 (xn - 1)) 26)) (h := (w6 ((Int.tmod (w6 (xn - 1)) 26) + 1))) (by kernel_rfl) Tryz.underlying9 (.inl ⟨_, _, rfl, rfl⟩) (.inl ⟨_, _, rfl, rfl⟩) h03 h13 h23 ((([97, 98, 99, 100, 101, 102, 103, 104, 105, 106, 107, 108, 109, 110, 111, 112, 113, 114, 115, 116, 117, 118, 119, 120, 121, 122] : Bs).take (Int.toNat (w6 ((Int.tmod (w6 (xn - 1)) 26) + 1)))).drop (Int.toNat (Int.tmod (w6 (xn - 1)) 26))) rfl) rfl rfl ?_)
  obtain ⟨hv, hF⟩ := hF
  refine OkQ.op rfl (OpQ.step (v := sv ((cletS (w6 (Int.tdiv (w6 (xn - 1)) 26))) ++ ((([97, 98, 99, 100, 101, 102, 103, 104, 105, 106, 107, 108, 109, 110, 111, 112, 113, 114, 115, 116, 117, 118, 119, 120, 121, 122] : Bs).take (Int.toNat (w6 ((Int.tmod (w6 (xn - 1)) 26) + 1)))).drop (Int.toNat (Int.tmod (w6 (xn - 1)) 26))))) (Yields.strAdd rfl rfl hv) rfl rfl (OkQ.batch 1 [(2, sv ((cletS (w6 (Int.tdiv (w6 (xn - 1)) 26))) ++ ((([97, 98, 99, 100, 101, 102, 103, 104, 105, 106, 107, 108, 109, 110, 111, 112, 113, 114, 115, 116, 117, 118, 119, 120, 121, 122] : Bs).take (Int.toNat (w6 ((Int.tmod (w6 (xn - 1)) 26) + 1)))).drop (Int.toNat (Int.tmod (w6 (xn - 1)) 26)))))] (by kernel_rfl) (OkQ.nil (Ok.thenN (Ok.ret ?_)))))
  exact Ok.resH (vs := [sv ((cletS (w6 (Int.tdiv (w6 (xn - 1)) 26))) ++ ((([97, 98, 99, 100, 101, 102, 103, 104, 105, 106, 107, 108, 109, 110, 111, 112, 113, 114, 115, 116, 117, 118, 119, 120, 121, 122] : Bs).take (Int.toNat (w6 ((Int.tmod (w6 (xn - 1)) 26) + 1)))).drop (Int.toNat (Int.tmod (w6 (xn - 1)) 26))))]) (.inl rfl) rfl (.cons (.tmp rfl) .nil) (Gext.refl w0 g) ⟨((cletS (w6 (Int.tdiv (w6 (xn - 1)) 26))) ++ ((([97, 98, 99, 100, 101, 102, 103, 104, 105, 106, 107, 108, 109, 110, 111, 112, 113, 114, 115, 116, 117, 118, 119, 120, 121, 122] : Bs).take (Int.toNat (w6 ((Int.tmod (w6 (xn - 1)) 26) + 1)))).drop (Int.toNat (Int.tmod (w6 (xn - 1)) 26)))), rfl, rfl, hF⟩
theorem rlt_0 (n : Int) : ¬ rltP 0 n := fun h => by have h1 := h.1; have h2 := h.2.2; omega
theorem clet_len {n : Int} (h : 0 ≤ n) : (cletS n).length ≤ n.toNat := by
 have := letN_len n.toNat n
 simp [cletS, srevS, bytesOf]; omega
theorem clet_step {n : Int} (h : 0 < n) : cletS n = cletS ((n - 1) / 26) ++ [UInt8.ofNat (97 + (n - 1) % 26).toNat] := by
 obtain ⟨k, hk⟩ : ∃ k, n.toNat = k + 1 := ⟨n.toNat - 1, by omega⟩
 unfold cletS
 rw [hk, letN, if_pos h, letN_fuel k ((n - 1) / 26).toNat _ (by omega) (by omega)]
 simp [srevS, bytesOf]
theorem rlt_F (N : Nat) (n : Int) (h : rltP (N + 1) n) : rltF N n (fun r => r = cletS n) := by
 obtain ⟨h0, h1, h2⟩ := h
 refine ⟨fun hc => ?_, fun hc => ?_⟩
 ·have : n = 0 := by simpa using hc
  subst this; rfl
 ·have hn : ¬ n = 0 := by simpa using hc
  have e1 : Int.tmod (n - 1) 26 = (n - 1) % 26 := Int.tmod_eq_emod_of_nonneg (by omega)
  have e2 : Int.tdiv (n - 1) 26 = (n - 1) / 26 := Int.tdiv_eq_ediv_of_nonneg (by omega)
  rw [w64 (x := n - 1) (by omega), e1, e2, w64 (x := (n - 1) / 26) (by omega), w64 (by omega)]
  have hl := clet_len (n := (n - 1) / 26) (by omega)
  have key : ∀ q : Fin 26, (([97, 98, 99, 100, 101, 102, 103, 104, 105, 106, 107, 108, 109, 110, 111, 112, 113, 114, 115, 116, 117, 118, 119, 120, 121, 122] : Bs).take ((q : Nat) + 1)).drop q = [UInt8.ofNat (97 + q)] := by decide
  have hq := key ⟨((n - 1) % 26).toNat, by omega⟩
  simp only at hq
  rw [show ((n - 1) % 26 + 1).toNat = ((n - 1) % 26).toNat + 1 by omega, hq]
  refine ⟨⟨by omega, by omega, by omega⟩, by omega, by omega, by simp only [List.length_cons, List.length_nil]; omega, by rw [maxLen_eq]; simp; omega, ?_⟩
  rw [clet_step (by omega), show (97 + (n - 1) % 26).toNat = 97 + ((n - 1) % 26).toNat by omega]
theorem rlt_rec : ∀ N, rlt_C N
 | 0 => (by intro g xn hp; exact (rlt_0 xn hp).elim)
 | N + 1 =>
  have ih := rlt_rec N
  (by intro g xn hp; exact (rlt_ok N ih xn _ (rlt_F N xn hp)).gives (by rintro g' H' v _ ⟨r0, rfl, rfl, hK⟩; subst hK; rfl))
def rltPE (xn : Int) : Prop := ∃ N, rltP N xn
theorem rlt_c {g : Ghost} (xn : Int)  (hp : rltPE xn) : CallsG Tryz.prog 38 #[.int .i64 xn] g (sv (cletS xn)) := by
 obtain ⟨N, hp⟩ := hp
 exact (rlt_rec N) _ xn hp
theorem rlt_ok' {n : Int} (h : cletP n) : rltPE n := ⟨n.toNat + 1, h.1, h.2, by have := h.1; omega⟩
def rromF (xn : Int) (K : Bs → Prop) : Prop :=
 (0 : Int) ≤ (w6 (Int.tdiv xn 1000)) ∧ Int.toNat (w6 (Int.tdiv xn 1000)) < ([([] : Bs), ([109] : Bs), ([109, 109] : Bs), ([109, 109, 109] : Bs)] : List Bs).length ∧ (0 : Int) ≤ (Int.tmod (w6 (Int.tdiv xn 100)) 10) ∧ Int.toNat (Int.tmod (w6 (Int.tdiv xn 100)) 10) < ([([] : Bs), ([99] : Bs), ([99, 99] : Bs), ([99, 99, 99] : Bs), ([99, 100] : Bs), ([100] : Bs), ([100, 99] : Bs), ([100, 99, 99] : Bs), ([100, 99, 99, 99] : Bs), ([99, 109] : Bs)] : List Bs).length ∧ (([([] : Bs), ([109] : Bs), ([109, 109] : Bs), ([109, 109, 109] : Bs)] : List Bs).getD (Int.toNat (w6 (Int.tdiv xn 1000))) default).length + (([([] : Bs), ([99] : Bs), ([99, 99] : Bs), ([99, 99, 99] : Bs), ([99, 100] : Bs), ([100] : Bs), ([100, 99] : Bs), ([100, 99, 99] : Bs), ([100, 99, 99, 99] : Bs), ([99, 109] : Bs)] : List Bs).getD (Int.toNat (Int.tmod (w6 (Int.tdiv xn 100)) 10)) default).length ≤ maxLen ∧ (0 : Int) ≤ (Int.tmod (w6 (Int.tdiv xn 10)) 10) ∧ Int.toNat (Int.tmod (w6 (Int.tdiv xn 10)) 10) < ([([] : Bs), ([120] : Bs), ([120, 120] : Bs), ([120, 120, 120] : Bs), ([120, 108] : Bs), ([108] : Bs), ([108, 120] : Bs), ([108, 120, 120] : Bs), ([108, 120, 120, 120] : Bs), ([120, 99] : Bs)] : List Bs).length ∧ ((([([] : Bs), ([109] : Bs), ([109, 109] : Bs), ([109, 109, 109] : Bs)] : List Bs).getD (Int.toNat (w6 (Int.tdiv xn 1000))) default) ++ (([([] : Bs), ([99] : Bs), ([99, 99] : Bs), ([99, 99, 99] : Bs), ([99, 100] : Bs), ([100] : Bs), ([100, 99] : Bs), ([100, 99, 99] : Bs), ([100, 99, 99, 99] : Bs), ([99, 109] : Bs)] : List Bs).getD (Int.toNat (Int.tmod (w6 (Int.tdiv xn 100)) 10)) default)).length + (([([] : Bs), ([120] : Bs), ([120, 120] : Bs), ([120, 120, 120] : Bs), ([120, 108] : Bs), ([108] : Bs), ([108, 120] : Bs), ([108, 120, 120] : Bs), ([108, 120, 120, 120] : Bs), ([120, 99] : Bs)] : List Bs).getD (Int.toNat (Int.tmod (w6 (Int.tdiv xn 10)) 10)) default).length ≤ maxLen ∧ (0 : Int) ≤ (Int.tmod xn 10) ∧ Int.toNat (Int.tmod xn 10) < ([([] : Bs), ([105] : Bs), ([105, 105] : Bs), ([105, 105, 105] : Bs), ([105, 118] : Bs), ([118] : Bs), ([118, 105] : Bs), ([118, 105, 105] : Bs), ([118, 105, 105, 105] : Bs), ([105, 120] : Bs)] : List Bs).length ∧ (((([([] : Bs), ([109] : Bs), ([109, 109] : Bs), ([109, 109, 109] : Bs)] : List Bs).getD (Int.toNat (w6 (Int.tdiv xn 1000))) default) ++ (([([] : Bs), ([99] : Bs), ([99, 99] : Bs), ([99, 99, 99] : Bs), ([99, 100] : Bs), ([100] : Bs), ([100, 99] : Bs), ([100, 99, 99] : Bs), ([100, 99, 99, 99] : Bs), ([99, 109] : Bs)] : List Bs).getD (Int.toNat (Int.tmod (w6 (Int.tdiv xn 100)) 10)) default)) ++ (([([] : Bs), ([120] : Bs), ([120, 120] : Bs), ([120, 120, 120] : Bs), ([120, 108] : Bs), ([108] : Bs), ([108, 120] : Bs), ([108, 120, 120] : Bs), ([108, 120, 120, 120] : Bs), ([120, 99] : Bs)] : List Bs).getD (Int.toNat (Int.tmod (w6 (Int.tdiv xn 10)) 10)) default)).length + (([([] : Bs), ([105] : Bs), ([105, 105] : Bs), ([105, 105, 105] : Bs), ([105, 118] : Bs), ([118] : Bs), ([118, 105] : Bs), ([118, 105, 105] : Bs), ([118, 105, 105, 105] : Bs), ([105, 120] : Bs)] : List Bs).getD (Int.toNat (Int.tmod xn 10)) default).length ≤ maxLen ∧ K ((((([([] : Bs), ([109] : Bs), ([109, 109] : Bs), ([109, 109, 109] : Bs)] : List Bs).getD (Int.toNat (w6 (Int.tdiv xn 1000))) default) ++ (([([] : Bs), ([99] : Bs), ([99, 99] : Bs), ([99, 99, 99] : Bs), ([99, 100] : Bs), ([100] : Bs), ([100, 99] : Bs), ([100, 99, 99] : Bs), ([100, 99, 99, 99] : Bs), ([99, 109] : Bs)] : List Bs).getD (Int.toNat (Int.tmod (w6 (Int.tdiv xn 100)) 10)) default)) ++ (([([] : Bs), ([120] : Bs), ([120, 120] : Bs), ([120, 120, 120] : Bs), ([120, 108] : Bs), ([108] : Bs), ([108, 120] : Bs), ([108, 120, 120] : Bs), ([108, 120, 120, 120] : Bs), ([120, 99] : Bs)] : List Bs).getD (Int.toNat (Int.tmod (w6 (Int.tdiv xn 10)) 10)) default)) ++ (([([] : Bs), ([105] : Bs), ([105, 105] : Bs), ([105, 105, 105] : Bs), ([105, 118] : Bs), ([118] : Bs), ([118, 105] : Bs), ([118, 105, 105] : Bs), ([118, 105, 105, 105] : Bs), ([105, 120] : Bs)] : List Bs).getD (Int.toNat (Int.tmod xn 10)) default))
theorem rrom_ok {g : Ghost} (xn : Int) (K : Bs → Prop)
  (hF : rromF xn K) : CallsH Tryz.prog 40 #[.int .i64 xn] g [] (fun g' H' v => ∃ (r0 : Bs), v = sv r0 ∧ H' = [] ∧ K r0) := by
 refine CallsH.enter 36 [(0, .int .i64 xn)] Tryz.func40 rfl (by kernel_rfl) (by kernel_rfl) (by kernel_rfl) fun w0 => ?_
 refine Ok.seq (Ok.region (Ok.batch 1 [(0, .int .i64 xn)] (by kernel_rfl) (Ok.nil (Ok.thenN (Ok.seq (Ok.region ?_))))))
 have hL1 : RepL g (.str) ([sv ([] : Bs), sv ([105] : Bs), sv ([105, 105] : Bs), sv ([105, 105, 105] : Bs), sv ([105, 118] : Bs), sv ([118] : Bs), sv ([118, 105] : Bs), sv ([118, 105, 105] : Bs), sv ([118, 105, 105, 105] : Bs), sv ([105, 120] : Bs)] : List Value) ([([] : Bs), ([105] : Bs), ([105, 105] : Bs), ([105, 105, 105] : Bs), ([105, 118] : Bs), ([118] : Bs), ([118, 105] : Bs), ([118, 105, 105] : Bs), ([118, 105, 105, 105] : Bs), ([105, 120] : Bs)] : List Bs) := (RepL.flat (by kernel_rfl) (by kernel_rfl))
 refine Ok.op rfl (OpOk.lit (E := 9) (.str) ([([] : Bs), ([105] : Bs), ([105, 105] : Bs), ([105, 105, 105] : Bs), ([105, 118] : Bs), ([118] : Bs), ([118, 105] : Bs), ([118, 105, 105] : Bs), ([118, 105, 105, 105] : Bs), ([105, 120] : Bs)] : List Bs) ([sv ([] : Bs), sv ([105] : Bs), sv ([105, 105] : Bs), sv ([105, 105, 105] : Bs), sv ([105, 118] : Bs), sv ([118] : Bs), sv ([118, 105] : Bs), sv ([118, 105, 105] : Bs), sv ([118, 105, 105, 105] : Bs), sv ([105, 120] : Bs)] : List Value) (by kernel_rfl) (by kernel_rfl) rfl (by kernel_rfl) hL1 rfl fun b1 => ?_)
 refine Ok.bat 1 [0] [(3, .slice (some ⟨b1, 0, none⟩) ([([] : Bs), ([105] : Bs), ([105, 105] : Bs), ([105, 105, 105] : Bs), ([105, 118] : Bs), ([118] : Bs), ([118, 105] : Bs), ([118, 105, 105] : Bs), ([118, 105, 105, 105] : Bs), ([105, 120] : Bs)] : List Bs).length 10)] ?_
 refine Ok.nil (Ok.thenN (Ok.seq (Ok.region ?_)))
 have hL2 : RepL g (.str) ([sv ([] : Bs), sv ([120] : Bs), sv ([120, 120] : Bs), sv ([120, 120, 120] : Bs), sv ([120, 108] : Bs), sv ([108] : Bs), sv ([108, 120] : Bs), sv ([108, 120, 120] : Bs), sv ([108, 120, 120, 120] : Bs), sv ([120, 99] : Bs)] : List Value) ([([] : Bs), ([120] : Bs), ([120, 120] : Bs), ([120, 120, 120] : Bs), ([120, 108] : Bs), ([108] : Bs), ([108, 120] : Bs), ([108, 120, 120] : Bs), ([108, 120, 120, 120] : Bs), ([120, 99] : Bs)] : List Bs) := (RepL.flat (by kernel_rfl) (by kernel_rfl))
 refine Ok.op rfl (OpOk.lit (E := 9) (.str) ([([] : Bs), ([120] : Bs), ([120, 120] : Bs), ([120, 120, 120] : Bs), ([120, 108] : Bs), ([108] : Bs), ([108, 120] : Bs), ([108, 120, 120] : Bs), ([108, 120, 120, 120] : Bs), ([120, 99] : Bs)] : List Bs) ([sv ([] : Bs), sv ([120] : Bs), sv ([120, 120] : Bs), sv ([120, 120, 120] : Bs), sv ([120, 108] : Bs), sv ([108] : Bs), sv ([108, 120] : Bs), sv ([108, 120, 120] : Bs), sv ([108, 120, 120, 120] : Bs), sv ([120, 99] : Bs)] : List Value) (by kernel_rfl) (by kernel_rfl) rfl (by kernel_rfl) hL2 rfl fun b2 => ?_)
 refine Ok.bat 1 [0, 3] [(4, .slice (some ⟨b2, 0, none⟩) ([([] : Bs), ([120] : Bs), ([120, 120] : Bs), ([120, 120, 120] : Bs), ([120, 108] : Bs), ([108] : Bs), ([108, 120] : Bs), ([108, 120, 120] : Bs), ([108, 120, 120, 120] : Bs), ([120, 99] : Bs)] : List Bs).length 10)] ?_
 refine Ok.nil (Ok.thenN (Ok.seq (Ok.region ?_)))
 have hL3 : RepL g (.str) ([sv ([] : Bs), sv ([99] : Bs), sv ([99, 99] : Bs), sv ([99, 99, 99] : Bs), sv ([99, 100] : Bs), sv ([100] : Bs), sv ([100, 99] : Bs), sv ([100, 99, 99] : Bs), sv ([100, 99, 99, 99] : Bs), sv ([99, 109] : Bs)] : List Value) ([([] : Bs), ([99] : Bs), ([99, 99] : Bs), ([99, 99, 99] : Bs), ([99, 100] : Bs), ([100] : Bs), ([100, 99] : Bs), ([100, 99, 99] : Bs), ([100, 99, 99, 99] : Bs), ([99, 109] : Bs)] : List Bs) := (RepL.flat (by kernel_rfl) (by kernel_rfl))
 refine Ok.op rfl (OpOk.lit (E := 9) (.str) ([([] : Bs), ([99] : Bs), ([99, 99] : Bs), ([99, 99, 99] : Bs), ([99, 100] : Bs), ([100] : Bs), ([100, 99] : Bs), ([100, 99, 99] : Bs), ([100, 99, 99, 99] : Bs), ([99, 109] : Bs)] : List Bs) ([sv ([] : Bs), sv ([99] : Bs), sv ([99, 99] : Bs), sv ([99, 99, 99] : Bs), sv ([99, 100] : Bs), sv ([100] : Bs), sv ([100, 99] : Bs), sv ([100, 99, 99] : Bs), sv ([100, 99, 99, 99] : Bs), sv ([99, 109] : Bs)] : List Value) (by kernel_rfl) (by kernel_rfl) rfl (by kernel_rfl) hL3 rfl fun b3 => ?_)
 refine Ok.bat 1 [0, 3, 4] [(5, .slice (some ⟨b3, 0, none⟩) ([([] : Bs), ([99] : Bs), ([99, 99] : Bs), ([99, 99, 99] : Bs), ([99, 100] : Bs), ([100] : Bs), ([100, 99] : Bs), ([100, 99, 99] : Bs), ([100, 99, 99, 99] : Bs), ([99, 109] : Bs)] : List Bs).length 10)] ?_
 refine Ok.nil (Ok.thenN (Ok.seq (Ok.region ?_)))
 have hL4 : RepL g (.str) ([sv ([] : Bs), sv ([109] : Bs), sv ([109, 109] : Bs), sv ([109, 109, 109] : Bs)] : List Value) ([([] : Bs), ([109] : Bs), ([109, 109] : Bs), ([109, 109, 109] : Bs)] : List Bs) := (RepL.flat (by kernel_rfl) (by kernel_rfl))
 refine Ok.op rfl (OpOk.lit (E := 9) (.str) ([([] : Bs), ([109] : Bs), ([109, 109] : Bs), ([109, 109, 109] : Bs)] : List Bs) ([sv ([] : Bs), sv ([109] : Bs), sv ([109, 109] : Bs), sv ([109, 109, 109] : Bs)] : List Value) (by kernel_rfl) (by kernel_rfl) rfl (by kernel_rfl) hL4 rfl fun b4 => ?_)
 refine Ok.bat 1 [0, 3, 4, 5] [(6, .slice (some ⟨b4, 0, none⟩) ([([] : Bs), ([109] : Bs), ([109, 109] : Bs), ([109, 109, 109] : Bs)] : List Bs).length 4)] ?_
 refine Ok.nil (Ok.thenN (Ok.seq (Ok.quiet' (by kernel_rfl) (by kernel_rfl) (OkQ.bat 3 [0, 3, 4, 5] [(11, .slice (some ⟨b4, 0, none⟩) ([([] : Bs), ([109] : Bs), ([109, 109] : Bs), ([109, 109, 109] : Bs)] : List Bs).length 4), (13, .int .i64 (w6 (Int.tdiv xn 1000)))] ?_))))
 obtain ⟨h06, h16, hF⟩ := hF
 have he6 := get_of (l := ([([] : Bs), ([109] : Bs), ([109, 109] : Bs), ([109, 109, 109] : Bs)] : List Bs)) (default : Bs) h16
 generalize hg6 : (([([] : Bs), ([109] : Bs), ([109, 109] : Bs), ([109, 109, 109] : Bs)] : List Bs).getD (Int.toNat (w6 (Int.tdiv xn 1000))) default) = e6 at he6 hF ⊢
 refine OkQ.op rfl (OpQ.indexOwn (e := .str) (q := w6 (Int.tdiv xn 1000)) (el := e6) 0 rfl hL4 rfl rfl Tryz.underlying28 (by kernel_rfl) (by kernel_rfl) h06 he6 rfl fun cs5 _ hr5 hc5 => ?_)
 obtain rfl := hr5
 replace hc5 : ∀ j v, ([sv e6] : List Value)[j]? = some v → ([sv ([] : Bs), sv ([109] : Bs), sv ([109, 109] : Bs), sv ([109, 109, 109] : Bs)] : List Value)[Int.toNat (w6 (Int.tdiv xn 1000)) * 1 + j]? = some v := hc5
 refine OkQ.op rfl (OpQ.step (v := sv e6) (Yields.loadOwn 0 0 rfl hc5 rfl Tryz.underlying9 rfl (by kernel_rfl)) rfl rfl (OkQ.bat 4 [0, 3, 4] [(15, sv e6), (16, .slice (some ⟨b3, 0, none⟩) ([([] : Bs), ([99] : Bs), ([99, 99] : Bs), ([99, 99, 99] : Bs), ([99, 100] : Bs), ([100] : Bs), ([100, 99] : Bs), ([100, 99, 99] : Bs), ([100, 99, 99, 99] : Bs), ([99, 109] : Bs)] : List Bs).length 10), (19, .int .i64 (Int.tmod (w6 (Int.tdiv xn 100)) 10))] ?_))
 obtain ⟨h08, h18, hF⟩ := hF
 have he8 := get_of (l := ([([] : Bs), ([99] : Bs), ([99, 99] : Bs), ([99, 99, 99] : Bs), ([99, 100] : Bs), ([100] : Bs), ([100, 99] : Bs), ([100, 99, 99] : Bs), ([100, 99, 99, 99] : Bs), ([99, 109] : Bs)] : List Bs)) (default : Bs) h18
 generalize hg8 : (([([] : Bs), ([99] : Bs), ([99, 99] : Bs), ([99, 99, 99] : Bs), ([99, 100] : Bs), ([100] : Bs), ([100, 99] : Bs), ([100, 99, 99] : Bs), ([100, 99, 99, 99] : Bs), ([99, 109] : Bs)] : List Bs).getD (Int.toNat (Int.tmod (w6 (Int.tdiv xn 100)) 10)) default) = e8 at he8 hF ⊢
 refine OkQ.op rfl (OpQ.indexOwn (e := .str) (q := Int.tmod (w6 (Int.tdiv xn 100)) 10) (el := e8) 1 rfl hL3 rfl rfl Tryz.underlying28 (by kernel_rfl) (by kernel_rfl) h08 he8 rfl fun cs7 _ hr7 hc7 => ?_)
 obtain rfl := hr7
 replace hc7 : ∀ j v, ([sv e8] : List Value)[j]? = some v → ([sv ([] : Bs), sv ([99] : Bs), sv ([99, 99] : Bs), sv ([99, 99, 99] : Bs), sv ([99, 100] : Bs), sv ([100] : Bs), sv ([100, 99] : Bs), sv ([100, 99, 99] : Bs), sv ([100, 99, 99, 99] : Bs), sv ([99, 109] : Bs)] : List Value)[Int.toNat (Int.tmod (w6 (Int.tdiv xn 100)) 10) * 1 + j]? = some v := hc7
 refine OkQ.op rfl (OpQ.step (v := sv e8) (Yields.loadOwn 1 0 rfl hc7 rfl Tryz.underlying9 rfl (by kernel_rfl)) rfl rfl ?_)
 obtain ⟨hv, hF⟩ := hF
 refine OkQ.op rfl (OpQ.step (v := sv (e6 ++ e8)) (Yields.strAdd rfl rfl hv) rfl rfl (OkQ.bat 4 [0, 3] [(22, sv (e6 ++ e8)), (23, .slice (some ⟨b2, 0, none⟩) ([([] : Bs), ([120] : Bs), ([120, 120] : Bs), ([120, 120, 120] : Bs), ([120, 108] : Bs), ([108] : Bs), ([108, 120] : Bs), ([108, 120, 120] : Bs), ([108, 120, 120, 120] : Bs), ([120, 99] : Bs)] : List Bs).length 10), (26, .int .i64 (Int.tmod (w6 (Int.tdiv xn 10)) 10))] ?_))
 obtain ⟨h010, h110, hF⟩ := hF
 have he10 := get_of (l := ([([] : Bs), ([120] : Bs), ([120, 120] : Bs), ([120, 120, 120] : Bs), ([120, 108] : Bs), ([108] : Bs), ([108, 120] : Bs), ([108, 120, 120] : Bs), ([108, 120, 120, 120] : Bs), ([120, 99] : Bs)] : List Bs)) (default : Bs) h110
 generalize hg10 : (([([] : Bs), ([120] : Bs), ([120, 120] : Bs), ([120, 120, 120] : Bs), ([120, 108] : Bs), ([108] : Bs), ([108, 120] : Bs), ([108, 120, 120] : Bs), ([108, 120, 120, 120] : Bs), ([120, 99] : Bs)] : List Bs).getD (Int.toNat (Int.tmod (w6 (Int.tdiv xn 10)) 10)) default) = e10 at he10 hF ⊢
 refine OkQ.op rfl (OpQ.indexOwn (e := .str) (q := Int.tmod (w6 (Int.tdiv xn 10)) 10) (el := e10) 2 rfl hL2 rfl rfl Tryz.underlying28 (by kernel_rfl) (by kernel_rfl) h010 he10 rfl fun cs9 _ hr9 hc9 => ?_)
 obtain rfl := hr9
 replace hc9 : ∀ j v, ([sv e10] : List Value)[j]? = some v → ([sv ([] : Bs), sv ([120] : Bs), sv ([120, 120] : Bs), sv ([120, 120, 120] : Bs), sv ([120, 108] : Bs), sv ([108] : Bs), sv ([108, 120] : Bs), sv ([108, 120, 120] : Bs), sv ([108, 120, 120, 120] : Bs), sv ([120, 99] : Bs)] : List Value)[Int.toNat (Int.tmod (w6 (Int.tdiv xn 10)) 10) * 1 + j]? = some v := hc9
 refine OkQ.op rfl (OpQ.step (v := sv e10) (Yields.loadOwn 2 0 rfl hc9 rfl Tryz.underlying9 rfl (by kernel_rfl)) rfl rfl ?_)
 obtain ⟨hv, hF⟩ := hF
 refine OkQ.op rfl (OpQ.step (v := sv ((e6 ++ e8) ++ e10)) (Yields.strAdd rfl rfl hv) rfl rfl (OkQ.batch 3 [(29, sv ((e6 ++ e8) ++ e10)), (30, .slice (some ⟨b1, 0, none⟩) ([([] : Bs), ([105] : Bs), ([105, 105] : Bs), ([105, 105, 105] : Bs), ([105, 118] : Bs), ([118] : Bs), ([118, 105] : Bs), ([118, 105, 105] : Bs), ([118, 105, 105, 105] : Bs), ([105, 120] : Bs)] : List Bs).length 10), (32, .int .i64 (Int.tmod xn 10))] (by kernel_rfl) ?_))
 obtain ⟨h012, h112, hF⟩ := hF
 have he12 := get_of (l := ([([] : Bs), ([105] : Bs), ([105, 105] : Bs), ([105, 105, 105] : Bs), ([105, 118] : Bs), ([118] : Bs), ([118, 105] : Bs), ([118, 105, 105] : Bs), ([118, 105, 105, 105] : Bs), ([105, 120] : Bs)] : List Bs)) (default : Bs) h112
 generalize hg12 : (([([] : Bs), ([105] : Bs), ([105, 105] : Bs), ([105, 105, 105] : Bs), ([105, 118] : Bs), ([118] : Bs), ([118, 105] : Bs), ([118, 105, 105] : Bs), ([118, 105, 105, 105] : Bs), ([105, 120] : Bs)] : List Bs).getD (Int.toNat (Int.tmod xn 10)) default) = e12 at he12 hF ⊢
 refine OkQ.op rfl (OpQ.indexOwn (e := .str) (q := Int.tmod xn 10) (el := e12) 3 rfl hL1 rfl rfl Tryz.underlying28 (by kernel_rfl) (by kernel_rfl) h012 he12 rfl fun cs11 _ hr11 hc11 => ?_)
 obtain rfl := hr11
 replace hc11 : ∀ j v, ([sv e12] : List Value)[j]? = some v → ([sv ([] : Bs), sv ([105] : Bs), sv ([105, 105] : Bs), sv ([105, 105, 105] : Bs), sv ([105, 118] : Bs), sv ([118] : Bs), sv ([118, 105] : Bs), sv ([118, 105, 105] : Bs), sv ([118, 105, 105, 105] : Bs), sv ([105, 120] : Bs)] : List Value)[Int.toNat (Int.tmod xn 10) * 1 + j]? = some v := hc11
 refine OkQ.op rfl (OpQ.step (v := sv e12) (Yields.loadOwn 3 0 rfl hc11 rfl Tryz.underlying9 rfl (by kernel_rfl)) rfl rfl ?_)
 obtain ⟨hv, hF⟩ := hF
 refine OkQ.op rfl (OpQ.step (v := sv (((e6 ++ e8) ++ e10) ++ e12)) (Yields.strAdd rfl rfl hv) rfl rfl (OkQ.batch 1 [(2, sv (((e6 ++ e8) ++ e10) ++ e12))] (by kernel_rfl) (OkQ.nil (Ok.thenN (Ok.ret ?_)))))
 exact Ok.resP (vs := [sv (((e6 ++ e8) ++ e10) ++ e12)]) [] [] (by decide) rfl (.inl rfl) rfl (.cons (.tmp rfl) .nil) (Gext.refl w0 g) ⟨(((e6 ++ e8) ++ e10) ++ e12), rfl, rfl, hF⟩
instance (n : Int) (x : Bs) : Decidable (rromF n (fun r => r = x)) := by unfold rromF; infer_instance
theorem rrom_F (n : Int) (hp : cromP n) : rromF n (fun r => r = cromS n) := by
 have := rom_all (p := fun n => decide (rromF n (fun r => r = cromS n))) (by decide +kernel) hp
 exact of_decide_eq_true this
theorem rrom_c {g : Ghost} (xn : Int)  (hp : cromP xn) : CallsG Tryz.prog 40 #[.int .i64 xn] g (sv (cromS xn)) :=
 (rrom_ok xn _ (rrom_F xn hp)).gives (by rintro g' H' v _ ⟨r0, rfl, rfl, hK⟩; subst hK; rfl)
def rupj16 (x4l9 : Int) (yownb1_0l9 : List (Int)) (C9 : Int → (List (Int)) → Prop) : Prop :=
 C9 (w6 (x4l9 + 1)) (if ((decide ((yownb1_0l9.getD (Int.toNat x4l9) default) ≥ 97)) && (decide ((yownb1_0l9.getD (Int.toNat x4l9) default) ≤ 122))) = true then (yownb1_0l9.set (Int.toNat x4l9) (IntKind.wrap .u8 ((yownb1_0l9.getD (Int.toNat x4l9) default) - 32))) else yownb1_0l9)
def rupj18 (x4l9 : Int) (yownb1_0l9 : List (Int)) (C9 : Int → (List (Int)) → Prop) : Prop :=
 ((((decide ((yownb1_0l9.getD (Int.toNat x4l9) default) ≥ 97)) && (decide ((yownb1_0l9.getD (Int.toNat x4l9) default) ≤ 122)))) = true → (0 : Int) ≤ x4l9 ∧ Int.toNat x4l9 < yownb1_0l9.length ∧ rupj16 x4l9 yownb1_0l9 C9) ∧ ((((decide ((yownb1_0l9.getD (Int.toNat x4l9) default) ≥ 97)) && (decide ((yownb1_0l9.getD (Int.toNat x4l9) default) ≤ 122)))) = false → rupj16 x4l9 yownb1_0l9 C9)
def rupl9b (K : Bs → Prop) (x4l9 : Int) (yownb1_0l9 : List (Int)) (C9 : Int → (List (Int)) → Prop) : Prop :=
 ((decide (x4l9 < (yownb1_0l9.length : Int))) = true → (0 : Int) ≤ x4l9 ∧ Int.toNat x4l9 < yownb1_0l9.length ∧ ((decide ((yownb1_0l9.getD (Int.toNat x4l9) default) ≥ 97)) = true → rupj18 x4l9 yownb1_0l9 C9) ∧ ((decide ((yownb1_0l9.getD (Int.toNat x4l9) default) ≥ 97)) = false → rupj18 x4l9 yownb1_0l9 C9)) ∧ ((decide (x4l9 < (yownb1_0l9.length : Int))) = false → K (bytesOf yownb1_0l9))
def rupl9 (K : Bs → Prop) : Nat → Int → (List (Int)) → Prop
 | 0, _, _ => False
 | k + 1, x4l9, yownb1_0l9 => rupl9b K x4l9 yownb1_0l9 (rupl9 K k)
def rupF (xs : Bs) (K : Bs → Prop) : Prop :=
 ∃ k, rupl9 K k 0 (intsOf xs)
theorem rup_ok {g : Ghost} (xs : Bs) (K : Bs → Prop)
  (hF : rupF xs K) : CallsH Tryz.prog 39 #[sv xs] g [] (fun g' H' v => ∃ (r0 : Bs), v = sv r0 ∧ H' = [] ∧ K r0) := by
 refine CallsH.enter 35 [(0, sv xs)] Tryz.func39 rfl (by kernel_rfl) (by kernel_rfl) (by kernel_rfl) fun w0 => ?_
 refine Ok.seq (Ok.region (Ok.batch 1 [(0, sv xs)] (by kernel_rfl) (Ok.nil (Ok.thenN (Ok.seq (Ok.region (Ok.batch 1 [(5, sv xs)] (by kernel_rfl) (Ok.op rfl (OpOk.bytesB (s := xs) (by kernel_rfl) Tryz.underlying9 Tryz.underlying82 Tryz.underlying5 rfl fun a1 c1 xs1 hL1 => ?_)))))))))
 refine Ok.batch 1 [(3, .slice a1 (intsOf xs).length c1)] (by kernel_rfl) (Ok.nil (Ok.thenN (Ok.seq (Ok.seq (Ok.region (Ok.bat 1 [3] [(4, .int .i64 0)] ?_))))))
 refine Ok.nil (Ok.thenN (Ok.block ?_))
 obtain ⟨k, hF⟩ := hF
 refine Ok.loop (fun k a W => ∃ gl9 : Ghost, Gext w0 g gl9 ∧ ∃ (x4l9 : Int) (ayownb1_0l9 : Option Addr) (cyownb1_0l9 : Nat) (yownb1_0l9 : List (Int)) (xsyownb1_0l9 : List Value), RepL gl9 (.int .u8) xsyownb1_0l9 yownb1_0l9 ∧ StA 35 [(3, .slice ayownb1_0l9 yownb1_0l9.length cyownb1_0l9), (4, .int .i64 x4l9)] a ∧ StW w0 [.ownb (.slice ayownb1_0l9 yownb1_0l9.length cyownb1_0l9) 5 yownb1_0l9.length xsyownb1_0l9] gl9 W ∧ rupl9 K k x4l9 yownb1_0l9) k ?_ ?_
 ·
  exact fun a W hA hW => ⟨g, (Gext.refl w0 g), 0, a1, c1, (intsOf xs), xs1, hL1, hA.sub (by kernel_rfl), hW, hF⟩
 ·
  clear hF
  rintro k9 a W ⟨gl9, hxl9, x4l9, ayownb1_0l9, cyownb1_0l9, yownb1_0l9, xsyownb1_0l9, hLyownb1_0l9, hA, hW, hF⟩
  cases k9 with
  | zero => exact (hF : False).elim
  | succ k9 =>
   refine (?_ : Ok _ _ _ _ _ _) a W hA hW
   clear hA hW
   refine Ok.seq (Ok.seq (Ok.region (Ok.bat 4 [3, 4] [(10, .bool (decide (x4l9 < (yownb1_0l9.length : Int))))] ?_)))
   refine Ok.nil (Ok.thenN (Ok.cond (b := decide (x4l9 < (yownb1_0l9.length : Int))) rfl (fun hc2 => ?_) (fun hc2 => ?_)))
   ·replace hF := hF.1 hc2
    refine Ok.skip (Ok.thenN (Ok.cut (fun a W => ∃ gj16 : Ghost, Gext w0 gl9 gj16 ∧ ∃ (ayownb1_0j16 : Option Addr) (cyownb1_0j16 : Nat) (xsyownb1_0j16 : List Value), RepL gj16 (.int .u8) xsyownb1_0j16 (if ((decide ((yownb1_0l9.getD (Int.toNat x4l9) default) ≥ 97)) && (decide ((yownb1_0l9.getD (Int.toNat x4l9) default) ≤ 122))) = true then (yownb1_0l9.set (Int.toNat x4l9) (IntKind.wrap .u8 ((yownb1_0l9.getD (Int.toNat x4l9) default) - 32))) else yownb1_0l9) ∧ StA 35 [(3, .slice ayownb1_0j16 (if ((decide ((yownb1_0l9.getD (Int.toNat x4l9) default) ≥ 97)) && (decide ((yownb1_0l9.getD (Int.toNat x4l9) default) ≤ 122))) = true then (yownb1_0l9.set (Int.toNat x4l9) (IntKind.wrap .u8 ((yownb1_0l9.getD (Int.toNat x4l9) default) - 32))) else yownb1_0l9).length cyownb1_0j16), (4, .int .i64 x4l9)] a ∧ StW w0 [.ownb (.slice ayownb1_0j16 (if ((decide ((yownb1_0l9.getD (Int.toNat x4l9) default) ≥ 97)) && (decide ((yownb1_0l9.getD (Int.toNat x4l9) default) ≤ 122))) = true then (yownb1_0l9.set (Int.toNat x4l9) (IntKind.wrap .u8 ((yownb1_0l9.getD (Int.toNat x4l9) default) - 32))) else yownb1_0l9).length cyownb1_0j16) 5 (if ((decide ((yownb1_0l9.getD (Int.toNat x4l9) default) ≥ 97)) && (decide ((yownb1_0l9.getD (Int.toNat x4l9) default) ≤ 122))) = true then (yownb1_0l9.set (Int.toNat x4l9) (IntKind.wrap .u8 ((yownb1_0l9.getD (Int.toNat x4l9) default) - 32))) else yownb1_0l9).length xsyownb1_0j16] gj16 W ∧ rupj16 x4l9 yownb1_0l9 (rupl9 K k9)) ?_ ?_))
    ·
     refine Ok.block (Ok.cut (fun a W => ∃ gj18 : Ghost, Gext w0 gl9 gj18 ∧ StA 35 [(3, .slice ayownb1_0l9 yownb1_0l9.length cyownb1_0l9), (4, .int .i64 x4l9), (24, .bool ((decide ((yownb1_0l9.getD (Int.toNat x4l9) default) ≥ 97)) && (decide ((yownb1_0l9.getD (Int.toNat x4l9) default) ≤ 122))))] a ∧ StW w0 [.ownb (.slice ayownb1_0l9 yownb1_0l9.length cyownb1_0l9) 5 yownb1_0l9.length xsyownb1_0l9] gj18 W ∧ rupj18 x4l9 yownb1_0l9 (rupl9 K k9)) ?_ ?_)
     ·
      refine Ok.region (Ok.bat 2 [3, 4] [(13, .slice ayownb1_0l9 yownb1_0l9.length cyownb1_0l9), (14, .int .i64 x4l9)] ?_)
      obtain ⟨h09, h19, hF⟩ := hF
      have he9 := get_of (l := yownb1_0l9) (default : Int) h19
      generalize hg9 : (yownb1_0l9.getD (Int.toNat x4l9) default) = e9 at he9 hF ⊢
      refine Ok.op rfl (OpOk.indexB (q := x4l9) (el := e9) 0 rfl hLyownb1_0l9 rfl rfl Tryz.underlying82 (by kernel_rfl) h09 he9 rfl fun hc8 => ?_)
      refine Ok.op rfl (OpOk.step (v := .int .u8 e9) (Yields.loadB 0 0 rfl hc8 rfl Tryz.underlying5 rfl (by kernel_rfl)) rfl rfl (Ok.bat 2 [3, 4] [(18, .bool (decide (e9 ≥ 97)))] ?_))
      refine Ok.boolAt 18 (decide (e9 ≥ 97)) rfl (fun hc10 => ?_) (fun hc10 => ?_)
      ·replace hF := hF.1 hc10
       refine Ok.bat 2 [3, 4] [(18, .bool true), (19, .slice ayownb1_0l9 yownb1_0l9.length cyownb1_0l9), (20, .int .i64 x4l9)] ?_
       refine Ok.opYes (j := 5) (d := 18) (want := true) (b := true) rfl (by kernel_rfl) (by kernel_rfl) rfl (OpOk.indexB (q := x4l9) (el := e9) 0 rfl hLyownb1_0l9 rfl rfl Tryz.underlying82 (by kernel_rfl) h09 he9 rfl fun hc11 => ?_)
       refine Ok.opYes (j := 5) (d := 18) (want := true) (b := true) rfl (by kernel_rfl) (by kernel_rfl) rfl (OpOk.step (v := .int .u8 e9) (Yields.loadB 0 0 rfl hc11 rfl Tryz.underlying5 rfl (by kernel_rfl)) rfl rfl (Ok.bat 2 [3, 4] [(24, .bool (decide (e9 ≤ 122)))] ?_))
       refine Ok.nil (Ok.thenN ?_)
       subst hg9
       refine Ok.reval 24 rfl (show (.bool (decide ((yownb1_0l9.getD (Int.toNat x4l9) default) ≤ 122)) : Value) = .bool ((decide ((yownb1_0l9.getD (Int.toNat x4l9) default) ≥ 97)) && (decide ((yownb1_0l9.getD (Int.toNat x4l9) default) ≤ 122))) from congrArg (Value.bool) (mand_t hc10)) ?_
       exact fun a W hA hW => ⟨gl9, (Gext.refl w0 gl9), hA.sub (by kernel_rfl), hW, hF⟩
      ·replace hF := hF.2 hc10
       refine Ok.bat 6 [3, 4] [(24, .bool false)] ?_
       refine Ok.nil (Ok.thenN ?_)
       subst hg9
       refine Ok.reval 24 rfl (show (.bool false : Value) = .bool ((decide ((yownb1_0l9.getD (Int.toNat x4l9) default) ≥ 97)) && (decide ((yownb1_0l9.getD (Int.toNat x4l9) default) ≤ 122))) from congrArg (Value.bool) (mand_f hc10)) ?_
       exact fun a W hA hW => ⟨gl9, (Gext.refl w0 gl9), hA.sub (by kernel_rfl), hW, hF⟩
     ·
      clear hF
      rintro a W ⟨gj18, hxj18, hA, hW, hF⟩
      refine (?_ : Ok _ _ _ _ _ _) a W hA hW
      clear hA hW
      replace hLyownb1_0l9 := hLyownb1_0l9.mono hxj18.1
      refine Ok.cond (b := ((decide ((yownb1_0l9.getD (Int.toNat x4l9) default) ≥ 97)) && (decide ((yownb1_0l9.getD (Int.toNat x4l9) default) ≤ 122)))) rfl (fun hc3 => ?_) (fun hc3 => ?_)
      ·replace hF := hF.1 hc3
       refine Ok.region (Ok.bat 4 [3, 4] [(25, .slice ayownb1_0l9 yownb1_0l9.length cyownb1_0l9), (26, .int .i64 x4l9), (27, .slice ayownb1_0l9 yownb1_0l9.length cyownb1_0l9), (28, .int .i64 x4l9)] ?_)
       obtain ⟨h05, h15, hF⟩ := hF
       have he5 := get_of (l := yownb1_0l9) (default : Int) h15
       generalize hg5 : (yownb1_0l9.getD (Int.toNat x4l9) default) = e5 at he5 hF ⊢
       refine Ok.op rfl (OpOk.indexB (q := x4l9) (el := e5) 0 rfl hLyownb1_0l9 rfl rfl Tryz.underlying82 (by kernel_rfl) h05 he5 rfl fun hc4 => ?_)
       refine Ok.op rfl (OpOk.step (v := .int .u8 e5) (Yields.loadB 0 0 rfl hc4 rfl Tryz.underlying5 rfl (by kernel_rfl)) rfl rfl (Ok.bat 1 [3, 4, 25, 26] [(31, .int .u8 (IntKind.wrap .u8 (e5 - 32)))] ?_))
       refine Ok.op rfl (OpOk.indexB (q := x4l9) (el := e5) 0 rfl hLyownb1_0l9 rfl rfl Tryz.underlying82 (by kernel_rfl) h05 he5 rfl fun hc6 => ?_)
       refine Ok.op rfl (OpOk.storeB (q := Int.toNat x4l9) (el' := IntKind.wrap .u8 (e5 - 32)) 0 rfl hLyownb1_0l9 hc6 rfl rfl (by kernel_rfl) fun xs7 hL7 => ?_)
       rw [show yownb1_0l9.length = (yownb1_0l9.set (Int.toNat x4l9) (IntKind.wrap .u8 (e5 - 32))).length from (List.length_set ..).symm]
       refine Ok.nil (Ok.blockN (Ok.thenN ?_))
       subst hg5
       refine Ok.reval 3 rfl (show (.slice ayownb1_0l9 (yownb1_0l9.set (Int.toNat x4l9) (IntKind.wrap .u8 ((yownb1_0l9.getD (Int.toNat x4l9) default) - 32))).length cyownb1_0l9 : Value) = .slice ayownb1_0l9 (if ((decide ((yownb1_0l9.getD (Int.toNat x4l9) default) ≥ 97)) && (decide ((yownb1_0l9.getD (Int.toNat x4l9) default) ≤ 122))) = true then (yownb1_0l9.set (Int.toNat x4l9) (IntKind.wrap .u8 ((yownb1_0l9.getD (Int.toNat x4l9) default) - 32))) else yownb1_0l9).length cyownb1_0l9 from congrArg (fun l : List (Int) => Value.slice ayownb1_0l9 l.length cyownb1_0l9) ((if_t hc3).symm)) ?_
       refine Ok.heapEq (H' := [.ownb (.slice ayownb1_0l9 (if ((decide ((yownb1_0l9.getD (Int.toNat x4l9) default) ≥ 97)) && (decide ((yownb1_0l9.getD (Int.toNat x4l9) default) ≤ 122))) = true then (yownb1_0l9.set (Int.toNat x4l9) (IntKind.wrap .u8 ((yownb1_0l9.getD (Int.toNat x4l9) default) - 32))) else yownb1_0l9).length cyownb1_0l9) 5 (if ((decide ((yownb1_0l9.getD (Int.toNat x4l9) default) ≥ 97)) && (decide ((yownb1_0l9.getD (Int.toNat x4l9) default) ≤ 122))) = true then (yownb1_0l9.set (Int.toNat x4l9) (IntKind.wrap .u8 ((yownb1_0l9.getD (Int.toNat x4l9) default) - 32))) else yownb1_0l9).length xs7]) (econs (congrArg (fun l : List (Int) => Ent.ownb (.slice ayownb1_0l9 l.length cyownb1_0l9) 5  l.length xs7) ((if_t hc3).symm)) rfl) ?_
       exact fun a W hA hW => ⟨gj18, hxj18, ayownb1_0l9, cyownb1_0l9, xs7, (Eq.mp (congrArg (fun l : List (Int) => RepL gj18 (.int .u8) xs7 l) ((if_t hc3).symm)) hL7), hA.sub (by kernel_rfl), hW, hF⟩
      ·replace hF := hF.2 hc3
       refine Ok.skip (Ok.blockN (Ok.thenN (Ok.reval 3 rfl (show (.slice ayownb1_0l9 yownb1_0l9.length cyownb1_0l9 : Value) = .slice ayownb1_0l9 (if ((decide ((yownb1_0l9.getD (Int.toNat x4l9) default) ≥ 97)) && (decide ((yownb1_0l9.getD (Int.toNat x4l9) default) ≤ 122))) = true then (yownb1_0l9.set (Int.toNat x4l9) (IntKind.wrap .u8 ((yownb1_0l9.getD (Int.toNat x4l9) default) - 32))) else yownb1_0l9).length cyownb1_0l9 from congrArg (fun l : List (Int) => Value.slice ayownb1_0l9 l.length cyownb1_0l9) ((if_f hc3).symm)) ?_)))
       refine Ok.heapEq (H' := [.ownb (.slice ayownb1_0l9 (if ((decide ((yownb1_0l9.getD (Int.toNat x4l9) default) ≥ 97)) && (decide ((yownb1_0l9.getD (Int.toNat x4l9) default) ≤ 122))) = true then (yownb1_0l9.set (Int.toNat x4l9) (IntKind.wrap .u8 ((yownb1_0l9.getD (Int.toNat x4l9) default) - 32))) else yownb1_0l9).length cyownb1_0l9) 5 (if ((decide ((yownb1_0l9.getD (Int.toNat x4l9) default) ≥ 97)) && (decide ((yownb1_0l9.getD (Int.toNat x4l9) default) ≤ 122))) = true then (yownb1_0l9.set (Int.toNat x4l9) (IntKind.wrap .u8 ((yownb1_0l9.getD (Int.toNat x4l9) default) - 32))) else yownb1_0l9).length xsyownb1_0l9]) (econs (congrArg (fun l : List (Int) => Ent.ownb (.slice ayownb1_0l9 l.length cyownb1_0l9) 5  l.length xsyownb1_0l9) ((if_f hc3).symm)) rfl) ?_
       exact fun a W hA hW => ⟨gj18, hxj18, ayownb1_0l9, cyownb1_0l9, xsyownb1_0l9, (Eq.mp (congrArg (fun l : List (Int) => RepL gj18 (.int .u8) xsyownb1_0l9 l) ((if_f hc3).symm)) hLyownb1_0l9), hA.sub (by kernel_rfl), hW, hF⟩
    ·
     clear hF
     rintro a W ⟨gj16, hxj16, ayownb1_0j16, cyownb1_0j16, xsyownb1_0j16, hLyownb1_0j16, hA, hW, hF⟩
     refine (?_ : Ok _ _ _ _ _ _) a W hA hW
     clear hA hW
     refine Ok.region (Ok.bat 3 [3] [(4, .int .i64 (w6 (x4l9 + 1)))] ?_)
     refine Ok.nil (Ok.thenN ?_)
     exact fun a W hA hW => ⟨k9, Nat.lt_succ_self _, gj16, (hxl9.trans hxj16), w6 (x4l9 + 1), ayownb1_0j16, cyownb1_0j16, (if ((decide ((yownb1_0l9.getD (Int.toNat x4l9) default) ≥ 97)) && (decide ((yownb1_0l9.getD (Int.toNat x4l9) default) ≤ 122))) = true then (yownb1_0l9.set (Int.toNat x4l9) (IntKind.wrap .u8 ((yownb1_0l9.getD (Int.toNat x4l9) default) - 32))) else yownb1_0l9), xsyownb1_0j16, hLyownb1_0j16, hA.sub (by kernel_rfl), hW, hF⟩
   ·replace hF := hF.2 hc2
    refine Ok.exit (Ok.thenE (Ok.thenE (Ok.blockHit (Ok.thenN (Ok.seq (Ok.region (Ok.batch 1 [(33, .slice ayownb1_0l9 yownb1_0l9.length cyownb1_0l9)] (by kernel_rfl) (Ok.op rfl (OpOk.step (v := sv (bytesOf yownb1_0l9)) (Yields.strOfB 0 (by kernel_rfl) rfl rfl hLyownb1_0l9 Tryz.underlying82 Tryz.underlying9 Tryz.underlying5) rfl rfl (Ok.batch 1 [(2, sv (bytesOf yownb1_0l9))] (by kernel_rfl) (Ok.nil (Ok.thenN (Ok.ret ?_)))))))))))))
    exact Ok.resP (vs := [sv (bytesOf yownb1_0l9)]) [] [] (by decide) rfl (.inl rfl) rfl (.cons (.tmp rfl) .nil) hxl9 ⟨(bytesOf yownb1_0l9), rfl, rfl, hF⟩
def upB (c : UInt8) : UInt8 := if 97 ≤ c.toNat ∧ c.toNat ≤ 122 then c - 32 else c
theorem up_eq (c : UInt8) : (if ((decide ((c.toNat : Int) ≥ 97)) && (decide ((c.toNat : Int) ≤ 122))) = true then IntKind.wrap .u8 ((c.toNat : Int) - 32) else (c.toNat : Int)) = ((upB c).toNat : Int) := by
 unfold upB
 by_cases h : 97 ≤ c.toNat ∧ c.toNat ≤ 122
 ·rw [if_t (by simp; omega), if_pos h, IntWalk.u8_in _ (by omega), UInt8.toNat_sub_of_le _ _ (by show (32 : UInt8).toNat ≤ c.toNat; have : (32 : UInt8).toNat = 32 := rfl; omega)]
  have : (32 : UInt8).toNat = 32 := rfl
  omega
 ·rw [if_f (by simp; omega), if_neg h]
theorem byte_all {p : UInt8 → Bool} (h : (List.range 256).all (fun n => p (UInt8.ofNat n)) = true) (c : UInt8) : p c = true := by
 have h1 := List.all_eq_true.1 h c.toNat (by simpa using c.toNat_lt)
 simpa using h1
theorem uppr_map (s : Bs) : upprS s = s.map upB := by
 unfold upprS Lib.toUpperA
 congr 1
 funext c
 have := byte_all (p := fun c => Lib.upperB c == upB c) (by decide +kernel) c
 simpa using this
def upAt (xs : Bs) (i : Nat) : Bs := (xs.take i).map upB ++ xs.drop i
theorem ints_getD (l : Bs) (i : Nat) (h : i < l.length) : (intsOf l).getD i default = ((l.getD i 0).toNat : Int) := by
 simp [intsOf, List.getD_eq_getElem?_getD, h]
theorem ints_set (l : Bs) (i : Nat) (c : UInt8) : (intsOf l).set i (c.toNat : Int) = intsOf (l.set i c) := by
 simp [intsOf, List.map_set]
theorem upAt_step {xs : Bs} {i : Nat} (h : i < xs.length) : (if ((decide (((intsOf (upAt xs i)).getD i default) ≥ 97)) && (decide (((intsOf (upAt xs i)).getD i default) ≤ 122))) = true then ((intsOf (upAt xs i)).set i (IntKind.wrap .u8 (((intsOf (upAt xs i)).getD i default) - 32))) else intsOf (upAt xs i)) = intsOf (upAt xs (i + 1)) := by
 have hl : (upAt xs i).length = xs.length := by simp [upAt]; omega
 have hg : (upAt xs i).getD i 0 = xs.getD i 0 := by
  unfold upAt
  rw [List.getD_eq_getElem?_getD, List.getElem?_append_right (by simp; omega), List.getD_eq_getElem?_getD, List.getElem?_drop]
  congr 2
  simp; omega
 have hs : (upAt xs i).set i (upB (xs.getD i 0)) = upAt xs (i + 1) := by
  unfold upAt
  rw [List.set_append_right _ _ (by simp; omega), take_get (0 : UInt8) h, drop_get (l := xs) (0 : UInt8) h, List.map_append, List.append_assoc]
  congr 1
  have e : i - ((xs.take i).map upB).length = 0 := by simp; omega
  rw [e]; rfl
 have hn : (upAt xs i).set i (xs.getD i 0) = upAt xs i := by
  rw [← hg, List.getD_eq_getElem?_getD, List.getElem?_eq_getElem (by omega), Option.getD_some, List.set_getElem_self]
 rw [ints_getD _ _ (by omega), hg, ← hs]
 have := up_eq (xs.getD i 0)
 split
 ·rename_i hc
  rw [if_t hc] at this
  rw [this, ints_set]
 ·rename_i hc
  rw [if_neg hc] at this
  have : upB (xs.getD i 0) = xs.getD i 0 := UInt8.toNat_inj.1 (by omega)
  rw [this, hn]
theorem rup_F (xs : Bs) (hp : upprP xs) : rupF xs (fun r => r = upprS xs) := by
 have hP := hp.1
 have loop : ∀ (k i : Nat), xs.length = i + k → rupl9 (fun r => r = upprS xs) (k + 1) (i : Int) (intsOf (upAt xs i)) := by
  intro k
  induction k with
  | zero =>
   intro i h
   have hl : (upAt xs i).length = xs.length := by simp [upAt]; omega
   refine ⟨fun hc => ?_, fun _ => ?_⟩
   ·have := of_decide_eq_true hc; rw [intsOf_length] at this; omega
   ·rw [bytesOf_intsOf, upAt, List.take_of_length_le (by omega), List.drop_of_length_le (by omega), List.append_nil, uppr_map]
  | succ k ih =>
   intro i h
   have hl : (upAt xs i).length = xs.length := by simp [upAt]; omega
   refine ⟨fun _ => ?_, fun hc => ?_⟩
   ·have key : rupj16 (i : Int) (intsOf (upAt xs i)) (rupl9 (fun r => r = upprS xs) (k + 1)) := by
     unfold rupj16
     rw [Int.toNat_natCast, w64 (by omega), upAt_step (by omega)]
     exact ih (i + 1) (by omega)
    have j18 : rupj18 (i : Int) (intsOf (upAt xs i)) (rupl9 (fun r => r = upprS xs) (k + 1)) := ⟨fun _ => ⟨by omega, by rw [intsOf_length, hl]; omega, key⟩, fun _ => key⟩
    exact ⟨by omega, by rw [intsOf_length, hl]; omega, fun _ => j18, fun _ => j18⟩
   ·have := of_decide_eq_false hc; rw [intsOf_length] at this; omega
 exact ⟨_, loop xs.length 0 (by omega)⟩
theorem rup_c {g : Ghost} (xs : Bs)  (hp : upprP xs) : CallsG Tryz.prog 39 #[sv xs] g (sv (upprS xs)) :=
 (rup_ok xs _ (rup_F xs hp)).gives (by rintro g' H' v _ ⟨r0, rfl, rfl, hK⟩; subst hK; rfl)
def digS (n : Int) : Bs := Lib.decDigits n.toNat
def digP (N : Nat) (n : Int) : Prop := 0 ≤ n ∧ n ≤ 1000000000 ∧ n < N
def dig_C (N : Nat) : Prop := ∀ (g : Ghost) (xn : Int)  (hp : digP N xn), CallsG Tryz.prog 41 #[.int .i64 xn] g (sv (digS xn))
def digj5 (xn : Int) (K : Bs → Prop) : Prop :=
 K (if (decide (xn > 9)) = true then (digS (w6 (Int.tdiv xn 10))) ++ (bytesOf ([IntKind.wrap .u8 (w6 (48 + (Int.tmod xn 10)))] : List (Int))) else (bytesOf ([IntKind.wrap .u8 (w6 (48 + (Int.tmod xn 10)))] : List (Int))))
def digF (N : Nat) (xn : Int) (K : Bs → Prop) : Prop :=
 ((decide (xn > 9)) = true → digP N (w6 (Int.tdiv xn 10)) ∧ (digS (w6 (Int.tdiv xn 10))).length + (bytesOf ([IntKind.wrap .u8 (w6 (48 + (Int.tmod xn 10)))] : List (Int))).length ≤ maxLen ∧ digj5 xn K) ∧ ((decide (xn > 9)) = false → digj5 xn K)
theorem dig_ok {g : Ghost} (N : Nat) (ih_dig : dig_C N) (xn : Int) (K : Bs → Prop)
  (hF : digF N xn K) : CallsH Tryz.prog 41 #[.int .i64 xn] g [] (fun g' H' v => ∃ (r0 : Bs), v = sv r0 ∧ H' = [] ∧ K r0) := by
 refine CallsH.enter 18 [(0, .int .i64 xn)] Tryz.func41 rfl (by kernel_rfl) (by kernel_rfl) (by kernel_rfl) fun w0 => ?_
 refine Ok.seq (Ok.region (Ok.batch 1 [(0, .int .i64 xn)] (by kernel_rfl) (Ok.nil (Ok.thenN (Ok.seq (Ok.region (Ok.bat 4 [0] [(7, .int .u8 (IntKind.wrap .u8 (w6 (48 + (Int.tmod xn 10)))))] ?_)))))))
 have hL1 : RepL g (.int .u8) ([.int .u8 (IntKind.wrap .u8 (w6 (48 + (Int.tmod xn 10))))] : List Value) ([IntKind.wrap .u8 (w6 (48 + (Int.tmod xn 10)))] : List (Int)) := (RepL.consN (c := [.int .u8 (IntKind.wrap .u8 (w6 (48 + (Int.tmod xn 10))))]) rfl rfl)
 refine Ok.op rfl (OpOk.lit (E := 5) (.int .u8) ([IntKind.wrap .u8 (w6 (48 + (Int.tmod xn 10)))] : List (Int)) ([.int .u8 (IntKind.wrap .u8 (w6 (48 + (Int.tmod xn 10))))] : List Value) (by kernel_rfl) (by kernel_rfl) rfl (by kernel_rfl) hL1 rfl fun b1 => ?_)
 refine Ok.op rfl (OpOk.step (v := sv (bytesOf ([IntKind.wrap .u8 (w6 (48 + (Int.tmod xn 10)))] : List (Int)))) (Yields.strOfOwn 0 (by kernel_rfl) rfl rfl hL1 Tryz.underlying82 Tryz.underlying9 Tryz.underlying5) rfl rfl (Ok.bat 1 [0] [(3, sv (bytesOf ([IntKind.wrap .u8 (w6 (48 + (Int.tmod xn 10)))] : List (Int))))] ?_))
 refine Ok.nil (Ok.thenN (Ok.cut (fun a W => ∃ gj5 : Ghost, Gext w0 g gj5 ∧ StA 18 [(3, sv (if (decide (xn > 9)) = true then (digS (w6 (Int.tdiv xn 10))) ++ (bytesOf ([IntKind.wrap .u8 (w6 (48 + (Int.tmod xn 10)))] : List (Int))) else (bytesOf ([IntKind.wrap .u8 (w6 (48 + (Int.tmod xn 10)))] : List (Int)))))] a ∧ StW w0 [] gj5 W ∧ digj5 xn K) ?_ ?_))
 ·
  refine Ok.seq (Ok.region (Ok.bat 2 [0, 3] [(11, .bool (decide (xn > 9)))] ?_))
  refine Ok.nil (Ok.thenN (Ok.cond (b := decide (xn > 9)) rfl (fun hc2 => ?_) (fun hc2 => ?_)))
  ·replace hF := hF.1 hc2
   refine Ok.region (Ok.bat 2 [3] [(13, .int .i64 (w6 (Int.tdiv xn 10)))] ?_)
   obtain ⟨hp3, hF⟩ := hF
   refine Ok.op rfl (OpOk.callG (v := sv (digS (w6 (Int.tdiv xn 10)))) enr (fun W hW => ih_dig _ (w6 (Int.tdiv xn 10)) hp3) rfl ?_)
   refine Ok.batch 1 [(14, sv (digS (w6 (Int.tdiv xn 10)))), (15, sv (bytesOf ([IntKind.wrap .u8 (w6 (48 + (Int.tmod xn 10)))] : List (Int))))] (by kernel_rfl) ?_
   obtain ⟨hv, hF⟩ := hF
   refine Ok.op rfl (OpOk.step (v := sv ((digS (w6 (Int.tdiv xn 10))) ++ (bytesOf ([IntKind.wrap .u8 (w6 (48 + (Int.tmod xn 10)))] : List (Int))))) (Yields.strAdd rfl rfl hv) rfl rfl (Ok.batch 1 [(3, sv ((digS (w6 (Int.tdiv xn 10))) ++ (bytesOf ([IntKind.wrap .u8 (w6 (48 + (Int.tmod xn 10)))] : List (Int)))))] (by kernel_rfl) (Ok.nil (Ok.thenN (Ok.reval 3 rfl (show (sv ((digS (w6 (Int.tdiv xn 10))) ++ (bytesOf ([IntKind.wrap .u8 (w6 (48 + (Int.tmod xn 10)))] : List (Int)))) : Value) = sv (if (decide (xn > 9)) = true then (digS (w6 (Int.tdiv xn 10))) ++ (bytesOf ([IntKind.wrap .u8 (w6 (48 + (Int.tmod xn 10)))] : List (Int))) else (bytesOf ([IntKind.wrap .u8 (w6 (48 + (Int.tmod xn 10)))] : List (Int)))) from congrArg ((fun s : Bs => Value.string ⟨⟨s⟩⟩)) ((if_t hc2).symm)) ?_)))))
   exact fun a W hA hW => ⟨g, (Gext.refl w0 g), hA.sub (by kernel_rfl), hW.sub (.cons _ .slnil), hF⟩
  ·replace hF := hF.2 hc2
   refine Ok.skip (Ok.thenN (Ok.reval 3 rfl (show (sv (bytesOf ([IntKind.wrap .u8 (w6 (48 + (Int.tmod xn 10)))] : List (Int))) : Value) = sv (if (decide (xn > 9)) = true then (digS (w6 (Int.tdiv xn 10))) ++ (bytesOf ([IntKind.wrap .u8 (w6 (48 + (Int.tmod xn 10)))] : List (Int))) else (bytesOf ([IntKind.wrap .u8 (w6 (48 + (Int.tmod xn 10)))] : List (Int)))) from congrArg ((fun s : Bs => Value.string ⟨⟨s⟩⟩)) ((if_f hc2).symm)) ?_))
   exact fun a W hA hW => ⟨g, (Gext.refl w0 g), hA.sub (by kernel_rfl), hW.sub (.cons _ .slnil), hF⟩
 ·
  clear hF
  rintro a W ⟨gj5, hxj5, hA, hW, hF⟩
  refine (?_ : Ok _ _ _ _ _ _) a W hA hW
  clear hA hW
  refine Ok.seq (Ok.region (Ok.batch 2 [(2, sv (if (decide (xn > 9)) = true then (digS (w6 (Int.tdiv xn 10))) ++ (bytesOf ([IntKind.wrap .u8 (w6 (48 + (Int.tmod xn 10)))] : List (Int))) else (bytesOf ([IntKind.wrap .u8 (w6 (48 + (Int.tmod xn 10)))] : List (Int)))))] (by kernel_rfl) (Ok.nil (Ok.thenN (Ok.ret ?_)))))
  exact Ok.resH (vs := [sv (if (decide (xn > 9)) = true then (digS (w6 (Int.tdiv xn 10))) ++ (bytesOf ([IntKind.wrap .u8 (w6 (48 + (Int.tmod xn 10)))] : List (Int))) else (bytesOf ([IntKind.wrap .u8 (w6 (48 + (Int.tmod xn 10)))] : List (Int))))]) (.inl rfl) rfl (.cons (.tmp rfl) .nil) hxj5 ⟨(if (decide (xn > 9)) = true then (digS (w6 (Int.tdiv xn 10))) ++ (bytesOf ([IntKind.wrap .u8 (w6 (48 + (Int.tmod xn 10)))] : List (Int))) else (bytesOf ([IntKind.wrap .u8 (w6 (48 + (Int.tmod xn 10)))] : List (Int)))), rfl, rfl, hF⟩
theorem dig_0 (n : Int) : ¬ digP 0 n := fun h => by have h1 := h.1; have h2 := h.2.2; omega
theorem dec_len : ∀ (N u : Nat), u ≤ N → (Lib.decDigits u).length ≤ u + 1 := by
 intro N
 induction N with
 | zero => intro u h; rw [Lib.decDigits, dif_pos (by omega)]; simp
 | succ N ih =>
  intro u h
  rw [Lib.decDigits]
  split
  ·simp
  ·have := ih (u / 10) (by omega)
   simp; omega
theorem dig_F (N : Nat) (n : Int) (h : digP (N + 1) n) : digF N n (fun r => r = digS n) := by
 obtain ⟨h0, h1, h2⟩ := h
 obtain ⟨u, rfl⟩ : ∃ u : Nat, n = u := ⟨n.toNat, by omega⟩
 have e1 : Int.tdiv (u : Int) 10 = ((u / 10 : Nat) : Int) := by rw [Int.tdiv_eq_ediv_of_nonneg (by omega)]; omega
 have e2 : Int.tmod (u : Int) 10 = ((u % 10 : Nat) : Int) := by rw [Int.tmod_eq_emod_of_nonneg (by omega)]; omega
 have eB : bytesOf [IntKind.wrap .u8 (w6 (48 + ((u % 10 : Nat) : Int)))] = [UInt8.ofNat (48 + u % 10)] := by
  rw [w64 (by omega), IntWalk.u8_in _ (by omega)]
  simp only [bytesOf, List.map_cons, List.map_nil]
  rw [show (48 + ((u % 10 : Nat) : Int)).toNat = 48 + u % 10 by omega]
 have key : digj5 (u : Int) (fun r => r = digS (u : Int)) := by
  unfold digj5
  rw [e1, e2, eB, w64 (by omega)]
  unfold digS
  rw [Int.toNat_natCast, Int.toNat_natCast]
  by_cases hu : u < 10
  ·rw [if_f (by simp; omega), Lib.decDigits.eq_def u, dif_pos hu]
   rw [Nat.mod_eq_of_lt hu]
  ·rw [if_t (by simp; omega), Lib.decDigits.eq_def u, dif_neg hu]
 refine ⟨fun hc => ⟨?_, ?_, key⟩, fun _ => key⟩
 ·rw [e1, w64 (by omega)]
  have := of_decide_eq_true hc
  exact ⟨by omega, by omega, by omega⟩
 ·rw [e1, e2, eB, w64 (by omega), maxLen_eq]
  have := dec_len (u / 10) (u / 10) (Nat.le_refl _)
  unfold digS
  rw [Int.toNat_natCast]
  simp; omega
theorem dig_rec : ∀ N, dig_C N
 | 0 => (by intro g xn hp; exact (dig_0 xn hp).elim)
 | N + 1 =>
  have ih := dig_rec N
  (by intro g xn hp; exact (dig_ok N ih xn _ (dig_F N xn hp)).gives (by rintro g' H' v _ ⟨r0, rfl, rfl, hK⟩; subst hK; rfl))
def digPE (xn : Int) : Prop := ∃ N, digP N xn
theorem dig_c {g : Ghost} (xn : Int)  (hp : digPE xn) : CallsG Tryz.prog 41 #[.int .i64 xn] g (sv (digS xn)) := by
 obtain ⟨N, hp⟩ := hp
 exact (dig_rec N) _ xn hp
theorem dig_ok' {n : Int} (h : 0 ≤ n ∧ n ≤ 1000000000) : digPE n := ⟨n.toNat + 1, h.1, h.2, by omega⟩
def sgnP (N : Nat) (n : Int) : Prop := -1000000000 ≤ n ∧ n ≤ 1000000000 ∧ n.natAbs < N
def sgn_C (N : Nat) : Prop := ∀ (g : Ghost) (xn : Int)  (hp : sgnP N xn), CallsG Tryz.prog 17 #[.int .i64 xn] g (sv (Lib.itoa xn))
def sgnF (N : Nat) (xn : Int) (K : Bs → Prop) : Prop :=
 ((decide (xn ≤ (-10))) = true → sgnP N (w6 (Int.tdiv xn 10)) ∧ digPE (w6 (0 - (Int.tmod xn 10))) ∧ (Lib.itoa (w6 (Int.tdiv xn 10))).length + (digS (w6 (0 - (Int.tmod xn 10)))).length ≤ maxLen ∧ K ((Lib.itoa (w6 (Int.tdiv xn 10))) ++ (digS (w6 (0 - (Int.tmod xn 10)))))) ∧ ((decide (xn ≤ (-10))) = false → ((decide (xn < 0)) = true → digPE (w6 (0 - xn)) ∧ ([45] : Bs).length + (digS (w6 (0 - xn))).length ≤ maxLen ∧ K (([45] : Bs) ++ (digS (w6 (0 - xn))))) ∧ ((decide (xn < 0)) = false → digPE xn ∧ K (digS xn)))
theorem sgn_ok {g : Ghost} (N : Nat) (ih_sgn : sgn_C N) (xn : Int) (K : Bs → Prop)
  (hF : sgnF N xn K) : CallsH Tryz.prog 17 #[.int .i64 xn] g [] (fun g' H' v => ∃ (r0 : Bs), v = sv r0 ∧ H' = [] ∧ K r0) := by
 refine CallsH.enter 21 [(0, .int .i64 xn)] Tryz.func17 rfl (by kernel_rfl) (by kernel_rfl) (by kernel_rfl) fun w0 => ?_
 refine Ok.seq (Ok.region (Ok.batch 1 [(0, .int .i64 xn)] (by kernel_rfl) (Ok.nil (Ok.thenN (Ok.seq (Ok.seq (Ok.region (Ok.bat 2 [0] [(4, .bool (decide (xn ≤ (-10))))] ?_))))))))
 refine Ok.nil (Ok.thenN (Ok.cond (b := decide (xn ≤ (-10))) rfl (fun hc1 => ?_) (fun hc1 => ?_)))
 ·replace hF := hF.1 hc1
  refine Ok.seq (Ok.region (Ok.bat 2 [0] [(6, .int .i64 (w6 (Int.tdiv xn 10)))] ?_))
  obtain ⟨hp2, hF⟩ := hF
  refine Ok.op rfl (OpOk.callG (v := sv (Lib.itoa (w6 (Int.tdiv xn 10)))) enr (fun W hW => ih_sgn _ (w6 (Int.tdiv xn 10)) hp2) rfl ?_)
  refine Ok.batch 3 [(7, sv (Lib.itoa (w6 (Int.tdiv xn 10)))), (10, .int .i64 (w6 (0 - (Int.tmod xn 10))))] (by kernel_rfl) ?_
  obtain ⟨hp3, hF⟩ := hF
  refine Ok.op rfl (OpOk.callG (v := sv (digS (w6 (0 - (Int.tmod xn 10))))) enr (fun W hW => dig_c (w6 (0 - (Int.tmod xn 10))) hp3) rfl ?_)
  obtain ⟨hv, hF⟩ := hF
  refine Ok.op rfl (OpOk.step (v := sv ((Lib.itoa (w6 (Int.tdiv xn 10))) ++ (digS (w6 (0 - (Int.tmod xn 10)))))) (Yields.strAdd rfl rfl hv) rfl rfl (Ok.batch 1 [(2, sv ((Lib.itoa (w6 (Int.tdiv xn 10))) ++ (digS (w6 (0 - (Int.tmod xn 10))))))] (by kernel_rfl) (Ok.nil (Ok.thenN (Ok.ret (Ok.thenR ?_))))))
  exact Ok.resH (vs := [sv ((Lib.itoa (w6 (Int.tdiv xn 10))) ++ (digS (w6 (0 - (Int.tmod xn 10)))))]) (.inl rfl) rfl (.cons (.tmp rfl) .nil) (Gext.refl w0 g) ⟨((Lib.itoa (w6 (Int.tdiv xn 10))) ++ (digS (w6 (0 - (Int.tmod xn 10))))), rfl, rfl, hF⟩
 ·replace hF := hF.2 hc1
  refine Ok.skip (Ok.thenN (Ok.seq (Ok.seq (Ok.region (Ok.bat 2 [0] [(14, .bool (decide (xn < 0)))] ?_)))))
  refine Ok.nil (Ok.thenN (Ok.cond (b := decide (xn < 0)) rfl (fun hc4 => ?_) (fun hc4 => ?_)))
  ·replace hF := hF.1 hc4
   refine Ok.seq (Ok.region (Ok.batch 2 [(16, .int .i64 (w6 (0 - xn)))] (by kernel_rfl) ?_))
   obtain ⟨hp5, hF⟩ := hF
   refine Ok.op rfl (OpOk.callG (v := sv (digS (w6 (0 - xn)))) enr (fun W hW => dig_c (w6 (0 - xn)) hp5) rfl ?_)
   obtain ⟨hv, hF⟩ := hF
   refine Ok.op rfl (OpOk.step (v := sv (([45] : Bs) ++ (digS (w6 (0 - xn))))) (Yields.strAdd rfl rfl hv) rfl rfl (Ok.batch 1 [(2, sv (([45] : Bs) ++ (digS (w6 (0 - xn)))))] (by kernel_rfl) (Ok.nil (Ok.thenN (Ok.ret (Ok.thenR ?_))))))
   exact Ok.resH (vs := [sv (([45] : Bs) ++ (digS (w6 (0 - xn))))]) (.inl rfl) rfl (.cons (.tmp rfl) .nil) (Gext.refl w0 g) ⟨(([45] : Bs) ++ (digS (w6 (0 - xn)))), rfl, rfl, hF⟩
  ·replace hF := hF.2 hc4
   refine Ok.skip (Ok.thenN (Ok.seq (Ok.region (Ok.batch 1 [(19, .int .i64 xn)] (by kernel_rfl) ?_))))
   obtain ⟨hp6, hF⟩ := hF
   refine Ok.op rfl (OpOk.callG (v := sv (digS xn)) enr (fun W hW => dig_c xn hp6) rfl ?_)
   refine Ok.batch 1 [(2, sv (digS xn))] (by kernel_rfl) (Ok.nil (Ok.thenN (Ok.ret ?_)))
   exact Ok.resH (vs := [sv (digS xn)]) (.inl rfl) rfl (.cons (.tmp rfl) .nil) (Gext.refl w0 g) ⟨(digS xn), rfl, rfl, hF⟩
theorem sgn_0 (n : Int) : ¬ sgnP 0 n := fun h => Nat.not_lt_zero _ h.2.2
theorem dig_small {n : Int} (h : 0 ≤ n ∧ n ≤ 1000000000) : (digS n).length ≤ 1000000001 := by
 have := dec_len n.toNat n.toNat (Nat.le_refl _)
 unfold digS; omega
theorem itoa_small {n : Int} (h : -1000000000 ≤ n ∧ n ≤ 1000000000) : (Lib.itoa n).length ≤ 1000000002 := by
 unfold Lib.itoa
 split
 ·have := dec_len n.natAbs n.natAbs (Nat.le_refl _)
  simp only [List.length_cons]; omega
 ·have := dec_len n.toNat n.toNat (Nat.le_refl _)
  omega
theorem sgn_F (N : Nat) (n : Int) (h : sgnP (N + 1) n) : sgnF N n (fun r => r = Lib.itoa n) := by
 obtain ⟨h0, h1, h2⟩ := h
 refine ⟨fun hc => ?_, fun hc => ⟨fun hc2 => ?_, fun hc2 => ?_⟩⟩
 ·have hc := of_decide_eq_true hc
  obtain ⟨u, rfl⟩ : ∃ u : Nat, n = -(u : Int) := ⟨n.natAbs, by omega⟩
  have e1 : Int.tdiv (-(u : Int)) 10 = -((u / 10 : Nat) : Int) := by rw [Int.neg_tdiv, Int.tdiv_eq_ediv_of_nonneg (by omega)]; omega
  have e2 : Int.tmod (-(u : Int)) 10 = -((u % 10 : Nat) : Int) := by rw [Int.neg_tmod, Int.tmod_eq_emod_of_nonneg (by omega)]; omega
  rw [e1, e2, w64 (by omega), w64 (by omega), show (0 : Int) - -((u % 10 : Nat) : Int) = ((u % 10 : Nat) : Int) by omega]
  have l1 := itoa_small (n := -((u / 10 : Nat) : Int)) (by omega)
  have l2 := dig_small (n := ((u % 10 : Nat) : Int)) (by omega)
  refine ⟨⟨by omega, by omega, by omega⟩, dig_ok' (by omega), by rw [maxLen_eq]; omega, ?_⟩
  unfold Lib.itoa digS
  rw [if_pos (by omega), if_pos (by omega), Int.toNat_natCast, Int.natAbs_neg, Int.natAbs_neg, Int.natAbs_natCast, Int.natAbs_natCast]
  have e3 := Lib.decDigits.eq_def u
  rw [dif_neg (by omega)] at e3
  have e4 := Lib.decDigits.eq_def (u % 10)
  rw [dif_pos (by omega)] at e4
  rw [e3, e4]; rfl
 ·have hc := of_decide_eq_false hc
  have hc2 := of_decide_eq_true hc2
  have l2 := dig_small (n := 0 - n) (by omega)
  rw [w64 (by omega)]
  refine ⟨dig_ok' (by omega), by rw [maxLen_eq]; simp only [List.length_cons, List.length_nil]; omega, ?_⟩
  unfold Lib.itoa digS
  rw [if_pos (by omega), show (0 - n).toNat = n.natAbs by omega]; rfl
 ·have hc2 := of_decide_eq_false hc2
  refine ⟨dig_ok' (by omega), ?_⟩
  unfold Lib.itoa digS
  rw [if_neg (by omega)]
theorem sgn_rec : ∀ N, sgn_C N
 | 0 => (by intro g xn hp; exact (sgn_0 xn hp).elim)
 | N + 1 =>
  have ih := sgn_rec N
  (by intro g xn hp; exact (sgn_ok N ih xn _ (sgn_F N xn hp)).gives (by rintro g' H' v _ ⟨r0, rfl, rfl, hK⟩; subst hK; rfl))
def sgnPE (xn : Int) : Prop := ∃ N, sgnP N xn
theorem sgn_c {g : Ghost} (xn : Int)  (hp : sgnPE xn) : CallsG Tryz.prog 17 #[.int .i64 xn] g (sv (Lib.itoa xn)) := by
 obtain ⟨N, hp⟩ := hp
 exact (sgn_rec N) _ xn hp
theorem sgn_ok' {k n : Int} (h : cmarkP k n) : sgnPE n := by
 obtain ⟨h1, h2⟩ := h
 exact ⟨n.natAbs + 1, by omega, by omega, by omega⟩
def rmarkF (xkind : Int) (xn : Int) (K : Bs → Prop) : Prop :=
 (((xkind == 0)) = true → K ([] : Bs)) ∧ (((xkind == 0)) = false → (((xkind == 1)) = true → K (bytesOf ([226, 128, 162] : List (Int)))) ∧ (((xkind == 1)) = false → ((((xkind == 3) && (decide (xn > 0)))) = true → rltPE xn ∧ K (cletS xn)) ∧ ((((xkind == 3) && (decide (xn > 0)))) = false → ((((xkind == 4) && (decide (xn > 0)))) = true → rltPE xn ∧ upprP (cletS xn) ∧ K (upprS (cletS xn))) ∧ ((((xkind == 4) && (decide (xn > 0)))) = false → (((((xkind == 5) && (decide (xn > 0))) && (decide (xn < 4000)))) = true → cromP xn ∧ K (cromS xn)) ∧ (((((xkind == 5) && (decide (xn > 0))) && (decide (xn < 4000)))) = false → (((((xkind == 6) && (decide (xn > 0))) && (decide (xn < 4000)))) = true → cromP xn ∧ upprP (cromS xn) ∧ K (upprS (cromS xn))) ∧ (((((xkind == 6) && (decide (xn > 0))) && (decide (xn < 4000)))) = false → sgnPE xn ∧ K (Lib.itoa xn)))))))
theorem rmark_ok {g : Ghost} (xkind : Int) (xn : Int) (K : Bs → Prop)
  (hF : rmarkF xkind xn K) : CallsH Tryz.prog 16 #[.int .i64 xkind, .int .i64 xn] g [] (fun g' H' v => ∃ (r0 : Bs), v = sv r0 ∧ H' = [] ∧ K r0) := by
 refine CallsH.enter 55 [(0, .int .i64 xkind), (1, .int .i64 xn)] Tryz.func16 rfl (by kernel_rfl) (by kernel_rfl) (by kernel_rfl) fun w0 => ?_
 refine Ok.seq (Ok.region (Ok.batch 1 [(0, .int .i64 xkind), (1, .int .i64 xn)] (by kernel_rfl) (Ok.nil (Ok.thenN (Ok.seq (Ok.seq (Ok.region (Ok.bat 2 [0, 1] [(6, .bool (xkind == 0))] ?_))))))))
 refine Ok.nil (Ok.thenN (Ok.cond (b := (xkind == 0)) rfl (fun hc1 => ?_) (fun hc1 => ?_)))
 ·replace hF := hF.1 hc1
  refine Ok.seq (Ok.region (Ok.batch 1 [(4, sv ([] : Bs))] (by kernel_rfl) (Ok.nil (Ok.thenN (Ok.ret (Ok.thenR ?_))))))
  exact Ok.resH (vs := [sv ([] : Bs)]) (.inl rfl) rfl (.cons (.tmp rfl) .nil) (Gext.refl w0 g) ⟨([] : Bs), rfl, rfl, hF⟩
 ·replace hF := hF.2 hc1
  refine Ok.skip (Ok.thenN (Ok.seq (Ok.seq (Ok.region (Ok.bat 2 [0, 1] [(8, .bool (xkind == 1))] ?_)))))
  refine Ok.nil (Ok.thenN (Ok.cond (b := (xkind == 1)) rfl (fun hc2 => ?_) (fun hc2 => ?_)))
  ·replace hF := hF.1 hc2
   refine Ok.seq (Ok.region ?_)
   have hL3 : RepL g (.int .u8) ([.int .u8 226, .int .u8 128, .int .u8 162] : List Value) ([226, 128, 162] : List (Int)) := (RepL.consN (c := [.int .u8 226]) rfl (RepL.consN (c := [.int .u8 128]) rfl (RepL.consN (c := [.int .u8 162]) rfl rfl)))
   refine Ok.op rfl (OpOk.lit (E := 5) (.int .u8) ([226, 128, 162] : List (Int)) ([.int .u8 226, .int .u8 128, .int .u8 162] : List Value) (by kernel_rfl) (by kernel_rfl) rfl (by kernel_rfl) hL3 rfl fun b3 => ?_)
   refine Ok.op rfl (OpOk.step (v := sv (bytesOf ([226, 128, 162] : List (Int)))) (Yields.strOfOwn 0 (by kernel_rfl) rfl rfl hL3 Tryz.underlying82 Tryz.underlying9 Tryz.underlying5) rfl rfl (Ok.batch 1 [(4, sv (bytesOf ([226, 128, 162] : List (Int))))] (by kernel_rfl) (Ok.nil (Ok.thenN (Ok.ret (Ok.thenR ?_))))))
   exact Ok.resP (vs := [sv (bytesOf ([226, 128, 162] : List (Int)))]) [] [] (by decide) rfl (.inl rfl) rfl (.cons (.tmp rfl) .nil) (Gext.refl w0 g) ⟨(bytesOf ([226, 128, 162] : List (Int))), rfl, rfl, hF⟩
  ·replace hF := hF.2 hc2
   refine Ok.skip (Ok.thenN (Ok.seq (Ok.seq (Ok.region (Ok.bat 3 [0, 1] [(13, .bool (xkind == 3))] ?_)))))
   refine Ok.midway 3 [(0, .int .i64 xkind), (1, .int .i64 xn), (16, .bool ((xkind == 3) && (decide (xn > 0))))] (fun hR4 => ?_) ?_
   ·refine Ok.boolAt 13 ((xkind == 3)) rfl (fun hc5 => ?_) (fun hc5 => ?_)
    ·skip
     refine Ok.bat 3 [0, 1] [(16, .bool (decide (xn > 0)))] ?_
     refine Ok.reval 16 rfl (show (.bool (decide (xn > 0)) : Value) = .bool ((xkind == 3) && (decide (xn > 0))) from congrArg Value.bool (mand_t hc5)) (Ok.bat 0 [0, 1] [(16, .bool ((xkind == 3) && (decide (xn > 0))))] ?_)
     exact hR4
    ·skip
     refine Ok.bat 3 [0, 1] [(16, .bool false)] ?_
     refine Ok.reval 16 rfl (show (.bool false : Value) = .bool ((xkind == 3) && (decide (xn > 0))) from congrArg Value.bool (mand_f hc5)) (Ok.bat 0 [0, 1] [(16, .bool ((xkind == 3) && (decide (xn > 0))))] ?_)
     exact hR4
   refine Ok.nil (Ok.thenN (Ok.cond (b := ((xkind == 3) && (decide (xn > 0)))) rfl (fun hc6 => ?_) (fun hc6 => ?_)))
   ·replace hF := hF.1 hc6
    refine Ok.seq (Ok.region (Ok.batch 1 [(17, .int .i64 xn)] (by kernel_rfl) ?_))
    obtain ⟨hp7, hF⟩ := hF
    refine Ok.op rfl (OpOk.callG (v := sv (cletS xn)) enr (fun W hW => rlt_c xn hp7) rfl ?_)
    refine Ok.batch 1 [(4, sv (cletS xn))] (by kernel_rfl) (Ok.nil (Ok.thenN (Ok.ret (Ok.thenR ?_))))
    exact Ok.resH (vs := [sv (cletS xn)]) (.inl rfl) rfl (.cons (.tmp rfl) .nil) (Gext.refl w0 g) ⟨(cletS xn), rfl, rfl, hF⟩
   ·replace hF := hF.2 hc6
    refine Ok.skip (Ok.thenN (Ok.seq (Ok.seq (Ok.region (Ok.bat 3 [0, 1] [(21, .bool (xkind == 4))] ?_)))))
    refine Ok.midway 3 [(0, .int .i64 xkind), (1, .int .i64 xn), (24, .bool ((xkind == 4) && (decide (xn > 0))))] (fun hR8 => ?_) ?_
    ·refine Ok.boolAt 21 ((xkind == 4)) rfl (fun hc9 => ?_) (fun hc9 => ?_)
     ·skip
      refine Ok.bat 3 [0, 1] [(24, .bool (decide (xn > 0)))] ?_
      refine Ok.reval 24 rfl (show (.bool (decide (xn > 0)) : Value) = .bool ((xkind == 4) && (decide (xn > 0))) from congrArg Value.bool (mand_t hc9)) (Ok.bat 0 [0, 1] [(24, .bool ((xkind == 4) && (decide (xn > 0))))] ?_)
      exact hR8
     ·skip
      refine Ok.bat 3 [0, 1] [(24, .bool false)] ?_
      refine Ok.reval 24 rfl (show (.bool false : Value) = .bool ((xkind == 4) && (decide (xn > 0))) from congrArg Value.bool (mand_f hc9)) (Ok.bat 0 [0, 1] [(24, .bool ((xkind == 4) && (decide (xn > 0))))] ?_)
      exact hR8
    refine Ok.nil (Ok.thenN (Ok.cond (b := ((xkind == 4) && (decide (xn > 0)))) rfl (fun hc10 => ?_) (fun hc10 => ?_)))
    ·replace hF := hF.1 hc10
     refine Ok.seq (Ok.region (Ok.batch 1 [(25, .int .i64 xn)] (by kernel_rfl) ?_))
     obtain ⟨hp11, hF⟩ := hF
     refine Ok.op rfl (OpOk.callG (v := sv (cletS xn)) enr (fun W hW => rlt_c xn hp11) rfl ?_)
     obtain ⟨hp12, hF⟩ := hF
     refine Ok.op rfl (OpOk.callG (v := sv (upprS (cletS xn))) enr (fun W hW => rup_c (cletS xn) hp12) rfl ?_)
     refine Ok.batch 1 [(4, sv (upprS (cletS xn)))] (by kernel_rfl) (Ok.nil (Ok.thenN (Ok.ret (Ok.thenR ?_))))
     exact Ok.resH (vs := [sv (upprS (cletS xn))]) (.inl rfl) rfl (.cons (.tmp rfl) .nil) (Gext.refl w0 g) ⟨(upprS (cletS xn)), rfl, rfl, hF⟩
    ·replace hF := hF.2 hc10
     refine Ok.skip (Ok.thenN (Ok.seq (Ok.seq (Ok.region (Ok.bat 3 [0, 1] [(30, .bool (xkind == 5))] ?_)))))
     refine Ok.midway 3 [(0, .int .i64 xkind), (1, .int .i64 xn), (33, .bool ((xkind == 5) && (decide (xn > 0))))] (fun hR13 => ?_) ?_
     ·refine Ok.boolAt 30 ((xkind == 5)) rfl (fun hc14 => ?_) (fun hc14 => ?_)
      ·skip
       refine Ok.bat 3 [0, 1] [(33, .bool (decide (xn > 0)))] ?_
       refine Ok.reval 33 rfl (show (.bool (decide (xn > 0)) : Value) = .bool ((xkind == 5) && (decide (xn > 0))) from congrArg Value.bool (mand_t hc14)) (Ok.bat 0 [0, 1] [(33, .bool ((xkind == 5) && (decide (xn > 0))))] ?_)
       exact hR13
      ·skip
       refine Ok.bat 3 [0, 1] [(33, .bool false)] ?_
       refine Ok.reval 33 rfl (show (.bool false : Value) = .bool ((xkind == 5) && (decide (xn > 0))) from congrArg Value.bool (mand_f hc14)) (Ok.bat 0 [0, 1] [(33, .bool ((xkind == 5) && (decide (xn > 0))))] ?_)
       exact hR13
     refine Ok.bat 1 [0, 1] [(34, .bool ((xkind == 5) && (decide (xn > 0))))] ?_
     refine Ok.midway 3 [(0, .int .i64 xkind), (1, .int .i64 xn), (37, .bool (((xkind == 5) && (decide (xn > 0))) && (decide (xn < 4000))))] (fun hR15 => ?_) ?_
     ·refine Ok.boolAt 34 (((xkind == 5) && (decide (xn > 0)))) rfl (fun hc16 => ?_) (fun hc16 => ?_)
      ·skip
       refine Ok.bat 3 [0, 1] [(37, .bool (decide (xn < 4000)))] ?_
       refine Ok.reval 37 rfl (show (.bool (decide (xn < 4000)) : Value) = .bool (((xkind == 5) && (decide (xn > 0))) && (decide (xn < 4000))) from congrArg Value.bool (mand_t hc16)) (Ok.bat 0 [0, 1] [(37, .bool (((xkind == 5) && (decide (xn > 0))) && (decide (xn < 4000))))] ?_)
       exact hR15
      ·skip
       refine Ok.bat 3 [0, 1] [(37, .bool false)] ?_
       refine Ok.reval 37 rfl (show (.bool false : Value) = .bool (((xkind == 5) && (decide (xn > 0))) && (decide (xn < 4000))) from congrArg Value.bool (mand_f hc16)) (Ok.bat 0 [0, 1] [(37, .bool (((xkind == 5) && (decide (xn > 0))) && (decide (xn < 4000))))] ?_)
       exact hR15
     refine Ok.nil (Ok.thenN (Ok.cond (b := (((xkind == 5) && (decide (xn > 0))) && (decide (xn < 4000)))) rfl (fun hc17 => ?_) (fun hc17 => ?_)))
     ·replace hF := hF.1 hc17
      refine Ok.seq (Ok.region (Ok.batch 1 [(38, .int .i64 xn)] (by kernel_rfl) ?_))
      obtain ⟨hp18, hF⟩ := hF
      refine Ok.op rfl (OpOk.callG (v := sv (cromS xn)) enr (fun W hW => rrom_c xn hp18) rfl ?_)
      refine Ok.batch 1 [(4, sv (cromS xn))] (by kernel_rfl) (Ok.nil (Ok.thenN (Ok.ret (Ok.thenR ?_))))
      exact Ok.resH (vs := [sv (cromS xn)]) (.inl rfl) rfl (.cons (.tmp rfl) .nil) (Gext.refl w0 g) ⟨(cromS xn), rfl, rfl, hF⟩
     ·replace hF := hF.2 hc17
      refine Ok.skip (Ok.thenN (Ok.seq (Ok.seq (Ok.region (Ok.bat 3 [1] [(42, .bool (xkind == 6))] ?_)))))
      refine Ok.midway 3 [(1, .int .i64 xn), (45, .bool ((xkind == 6) && (decide (xn > 0))))] (fun hR19 => ?_) ?_
      ·refine Ok.boolAt 42 ((xkind == 6)) rfl (fun hc20 => ?_) (fun hc20 => ?_)
       ·skip
        refine Ok.bat 3 [1] [(45, .bool (decide (xn > 0)))] ?_
        refine Ok.reval 45 rfl (show (.bool (decide (xn > 0)) : Value) = .bool ((xkind == 6) && (decide (xn > 0))) from congrArg Value.bool (mand_t hc20)) (Ok.bat 0 [1] [(45, .bool ((xkind == 6) && (decide (xn > 0))))] ?_)
        exact hR19
       ·skip
        refine Ok.bat 3 [1] [(45, .bool false)] ?_
        refine Ok.reval 45 rfl (show (.bool false : Value) = .bool ((xkind == 6) && (decide (xn > 0))) from congrArg Value.bool (mand_f hc20)) (Ok.bat 0 [1] [(45, .bool ((xkind == 6) && (decide (xn > 0))))] ?_)
        exact hR19
      refine Ok.bat 1 [1] [(46, .bool ((xkind == 6) && (decide (xn > 0))))] ?_
      refine Ok.midway 3 [(1, .int .i64 xn), (49, .bool (((xkind == 6) && (decide (xn > 0))) && (decide (xn < 4000))))] (fun hR21 => ?_) ?_
      ·refine Ok.boolAt 46 (((xkind == 6) && (decide (xn > 0)))) rfl (fun hc22 => ?_) (fun hc22 => ?_)
       ·skip
        refine Ok.bat 3 [1] [(49, .bool (decide (xn < 4000)))] ?_
        refine Ok.reval 49 rfl (show (.bool (decide (xn < 4000)) : Value) = .bool (((xkind == 6) && (decide (xn > 0))) && (decide (xn < 4000))) from congrArg Value.bool (mand_t hc22)) (Ok.bat 0 [1] [(49, .bool (((xkind == 6) && (decide (xn > 0))) && (decide (xn < 4000))))] ?_)
        exact hR21
       ·skip
        refine Ok.bat 3 [1] [(49, .bool false)] ?_
        refine Ok.reval 49 rfl (show (.bool false : Value) = .bool (((xkind == 6) && (decide (xn > 0))) && (decide (xn < 4000))) from congrArg Value.bool (mand_f hc22)) (Ok.bat 0 [1] [(49, .bool (((xkind == 6) && (decide (xn > 0))) && (decide (xn < 4000))))] ?_)
        exact hR21
      refine Ok.nil (Ok.thenN (Ok.cond (b := (((xkind == 6) && (decide (xn > 0))) && (decide (xn < 4000)))) rfl (fun hc23 => ?_) (fun hc23 => ?_)))
      ·replace hF := hF.1 hc23
       refine Ok.seq (Ok.region (Ok.batch 1 [(50, .int .i64 xn)] (by kernel_rfl) ?_))
       obtain ⟨hp24, hF⟩ := hF
       refine Ok.op rfl (OpOk.callG (v := sv (cromS xn)) enr (fun W hW => rrom_c xn hp24) rfl ?_)
       obtain ⟨hp25, hF⟩ := hF
       refine Ok.op rfl (OpOk.callG (v := sv (upprS (cromS xn))) enr (fun W hW => rup_c (cromS xn) hp25) rfl ?_)
       refine Ok.batch 1 [(4, sv (upprS (cromS xn)))] (by kernel_rfl) (Ok.nil (Ok.thenN (Ok.ret (Ok.thenR ?_))))
       exact Ok.resH (vs := [sv (upprS (cromS xn))]) (.inl rfl) rfl (.cons (.tmp rfl) .nil) (Gext.refl w0 g) ⟨(upprS (cromS xn)), rfl, rfl, hF⟩
      ·replace hF := hF.2 hc23
       refine Ok.skip (Ok.thenN (Ok.seq (Ok.region (Ok.batch 1 [(53, .int .i64 xn)] (by kernel_rfl) ?_))))
       obtain ⟨hp26, hF⟩ := hF
       refine Ok.op rfl (OpOk.callG (v := sv (Lib.itoa xn)) enr (fun W hW => sgn_c xn hp26) rfl ?_)
       refine Ok.batch 1 [(4, sv (Lib.itoa xn))] (by kernel_rfl) (Ok.nil (Ok.thenN (Ok.ret ?_)))
       exact Ok.resH (vs := [sv (Lib.itoa xn)]) (.inl rfl) rfl (.cons (.tmp rfl) .nil) (Gext.refl w0 g) ⟨(Lib.itoa xn), rfl, rfl, hF⟩
theorem rmark_F (k n : Int) (hp : cmarkP k n) : rmarkF k n (fun r => r = cmarkM k n) := by
 have e5 : ∀ a : Int, (((k == a) && decide (n > 0)) && decide (n < 4000)) = ((k == a) && cinM n 1 3999) := fun a => by
  rw [Bool.and_assoc]
  congr 1
  unfold cinM
  rw [Bool.eq_iff_iff]; simp; omega
 unfold rmarkF cmarkM
 rw [e5, e5]
 refine ⟨fun h => ?_, fun h => ⟨fun h1 => ?_, fun h1 => ⟨fun h3 => ⟨rlt_ok' (clet_of hp h3), ?_⟩, fun h3 => ⟨fun h4 => ⟨rlt_ok' (clet_of hp h4), upper_clet (clet_of hp h4), ?_⟩, fun h4 => ⟨fun h5 => ⟨crom_of h5, ?_⟩, fun h5 => ⟨fun h6 => ⟨crom_of h6, upper_crom (crom_of h6), ?_⟩, fun h6 => ⟨sgn_ok' hp, ?_⟩⟩⟩⟩⟩⟩⟩
 ·rw [if_t h]
 ·rw [if_f h, if_t h1]; rfl
 ·rw [if_f h, if_f h1, if_t h3]
 ·rw [if_f h, if_f h1, if_f h3, if_t h4]
 ·rw [if_f h, if_f h1, if_f h3, if_f h4]
  unfold cmarkj29M
  rw [if_t h5]
 ·rw [if_f h, if_f h1, if_f h3, if_f h4]
  unfold cmarkj29M cmarkj35M
  rw [if_f h5, if_t h6]
 ·rw [if_f h, if_f h1, if_f h3, if_f h4]
  unfold cmarkj29M cmarkj35M
  rw [if_f h5, if_f h6]
theorem rmark_c {g : Ghost} (xkind : Int) (xn : Int)  (hp : cmarkP xkind xn) : CallsG Tryz.prog 16 #[.int .i64 xkind, .int .i64 xn] g (sv (cmarkM xkind xn)) :=
 (rmark_ok xkind xn _ (rmark_F xkind xn hp)).gives (by rintro g' H' v _ ⟨r0, rfl, rfl, hK⟩; subst hK; rfl)
def fourthj5 (K : Bool → Prop) : Prop :=
 K (((cMarkM 5 14).2 == 0) && ((cMarkM 5 14).1 == ([120, 105, 118] : Bs)))
def fourthF (K : Bool → Prop) : Prop :=
 ((((cMarkM 5 14).2 == 0)) = true → fourthj5 K) ∧ ((((cMarkM 5 14).2 == 0)) = false → fourthj5 K)
theorem fourth_ok {g : Ghost}  (hG7 : GlobL g 7 (.int .u64) DPow) (K : Bool → Prop)
  (hF : fourthF K) : CallsH Tryz.prog 10 #[] g [] (fun g' H' v => ∃ (r0 : Bool), v = .bool r0 ∧ H' = [] ∧ K r0) := by
 refine CallsH.enter 13 [] Tryz.func10 rfl (by kernel_rfl) (by kernel_rfl) (by kernel_rfl) fun w0 => ?_
 refine Ok.seq (Ok.region (Ok.batch 1 [] (by kernel_rfl) (Ok.nil (Ok.thenN (Ok.seq (Ok.region (Ok.op rfl (OpOk.callG (v := .tuple #[sv ((cMarkM 5 14).1), .int .i64 (cMarkM 5 14).2]) enr (fun W hW => cMark_c 5 14 (hG7.mono hW.sees)) rfl ?_))))))))
 refine Ok.batch 5 [(1, sv ((cMarkM 5 14).1)), (2, .int .i64 (cMarkM 5 14).2)] (by kernel_rfl) (Ok.nil (Ok.thenN (Ok.cut (fun a W => StA 13 [(0, .bool (((cMarkM 5 14).2 == 0) && ((cMarkM 5 14).1 == ([120, 105, 118] : Bs))))] a ∧ StW w0 [] g W ∧ fourthj5 K) ?_ ?_)))
 ·
  refine Ok.region (Ok.bat 3 [1] [(9, .bool ((cMarkM 5 14).2 == 0))] ?_)
  refine Ok.boolAt 9 (((cMarkM 5 14).2 == 0)) rfl (fun hc1 => ?_) (fun hc1 => ?_)
  ·replace hF := hF.1 hc1
   refine Ok.batch 1 [(9, .bool true), (10, sv ((cMarkM 5 14).1))] (by kernel_rfl) (Ok.opYes (j := 2) (d := 9) (want := true) (b := true) rfl (by kernel_rfl) (by kernel_rfl) rfl (OpOk.step (v := .bool ((cMarkM 5 14).1 == ([120, 105, 118] : Bs))) (Yields.strCmp (f := .eql) (a := (cMarkM 5 14).1) (b := ([120, 105, 118] : Bs)) (by kernel_rfl) (by kernel_rfl) rfl) rfl rfl (Ok.batch 2 [(0, .bool ((cMarkM 5 14).1 == ([120, 105, 118] : Bs)))] (by kernel_rfl) (Ok.nil (Ok.thenN (Ok.reval 0 rfl (show (.bool ((cMarkM 5 14).1 == ([120, 105, 118] : Bs)) : Value) = .bool (((cMarkM 5 14).2 == 0) && ((cMarkM 5 14).1 == ([120, 105, 118] : Bs))) from congrArg (Value.bool) (mand_t hc1)) ?_))))))
   exact fun a W hA hW => ⟨hA.sub (by kernel_rfl), hW, hF⟩
  ·replace hF := hF.2 hc1
   refine Ok.batch 4 [(0, .bool false)] (by kernel_rfl) (Ok.nil (Ok.thenN (Ok.reval 0 rfl (show (.bool false : Value) = .bool (((cMarkM 5 14).2 == 0) && ((cMarkM 5 14).1 == ([120, 105, 118] : Bs))) from congrArg (Value.bool) (mand_f hc1)) ?_)))
   exact fun a W hA hW => ⟨hA.sub (by kernel_rfl), hW, hF⟩
 ·
  clear hF
  rintro a W ⟨hA, hW, hF⟩
  refine (?_ : Ok _ _ _ _ _ _) a W hA hW
  clear hA hW
  refine Ok.ret ?_
  exact Ok.resH (vs := [.bool (((cMarkM 5 14).2 == 0) && ((cMarkM 5 14).1 == ([120, 105, 118] : Bs)))]) (.inl rfl) rfl (.cons (.tmp rfl) .nil) (Gext.refl w0 g) ⟨(((cMarkM 5 14).2 == 0) && ((cMarkM 5 14).1 == ([120, 105, 118] : Bs))), rfl, rfl, hF⟩
theorem four_known : cMarkM 5 14 = ([120, 105, 118], 0) := by decide +kernel
theorem fourth_F : fourthF (fun r => r = true) := by
 have key : fourthj5 (fun r => r = true) := by unfold fourthj5; rw [four_known]; rfl
 exact ⟨fun _ => key, fun _ => key⟩
theorem fourth_c {g : Ghost}  (hG7 : GlobL g 7 (.int .u64) DPow)  : CallsG Tryz.prog 10 #[] g (.bool true) :=
 (fourth_ok  hG7 _ (fourth_F )).gives (by rintro g' H' v _ ⟨r0, rfl, rfl, hK⟩; subst hK; rfl)
end Go.Proofs.YtdiedaeabbcceaaGreatDoor.Cn
