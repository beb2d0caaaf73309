/- A stable sort, as the library has it. -/
import Derived.Test.YtjkimpnppldekaaSsp
namespace Go.Proofs.Ytjkimpnppldekaa.So
open Go Go.Eng Go.RowKit
set_option linter.unusedVariables false
open Stb in
/-- blocks of w, each in order -/
def blkN (c : Int → Int → Int) (w : Nat) : Nat → List Int → List Int
  | 0, l => ins (ltc c) l
  | k + 1, l => if l.length ≤ w then ins (ltc c) l else ins (ltc c) (l.take w) ++ blkN c w k (l.drop w)
def blk (c : Int → Int → Int) (w : Nat) (l : List Int) : List Int := blkN c w l.length l
open Stb in
theorem ins_nil (c : Int → Int → Int) : ins (ltc c) [] = [] := rfl
open Stb in
theorem ins_len (c : Int → Int → Int) (l : List Int) : (ins (ltc c) l).length = l.length := (ins_perm l).length_eq
open Stb in
theorem blk_few {c : Int → Int → Int} {w : Nat} {l : List Int} (h : l.length ≤ w) : blk c w l = ins (ltc c) l := by
  unfold blk
  cases l with
  | nil => rfl
  | cons x l => rw [List.length_cons, blkN, if_pos (by simpa using h)]
theorem blkN_fuel {c : Int → Int → Int} {w : Nat} (hw : 0 < w) : ∀ (k k' : Nat) (l : List Int), l.length ≤ k → l.length ≤ k' → blkN c w k l = blkN c w k' l := by
  intro k
  induction k with
  | zero =>
    intro k' l h h'
    have := List.eq_nil_of_length_eq_zero (Nat.le_zero.1 h)
    subst this
    cases k' with
    | zero => rfl
    | succ k' => rw [blkN, blkN, if_pos (by simp)]
  | succ k ih =>
    intro k' l h h'
    cases k' with
    | zero =>
      have := List.eq_nil_of_length_eq_zero (Nat.le_zero.1 h')
      subst this
      rw [blkN, blkN, if_pos (by simp)]
    | succ k' =>
      rw [blkN, blkN]
      by_cases hl : l.length ≤ w
      · rw [if_pos hl, if_pos hl]
      · rw [if_neg hl, if_neg hl, ih k' (l.drop w) (by rw [List.length_drop]; omega) (by rw [List.length_drop]; omega)]
open Stb in
theorem blk_cut {c : Int → Int → Int} {w : Nat} {l : List Int} (hw : 0 < w) (h : w ≤ l.length) : blk c w l = ins (ltc c) (l.take w) ++ blk c w (l.drop w) := by
  by_cases he : l.length ≤ w
  · have hd : l.drop w = [] := List.drop_of_length_le (by omega)
    rw [blk_few he, List.take_of_length_le he, hd, blk_few (Nat.zero_le _), ins_nil, List.append_nil]
  · unfold blk
    obtain ⟨k, hk⟩ : ∃ k, l.length = k + 1 := ⟨l.length - 1, by omega⟩
    rw [hk, blkN, if_neg (by omega), blkN_fuel hw k (l.drop w).length _ (by rw [List.length_drop]; omega) (Nat.le_refl _)]
open Stb in
theorem blk_perm {c : Int → Int → Int} {w : Nat} : ∀ (k : Nat) (l : List Int), (blkN c w k l).Perm l
  | 0, l => ins_perm l
  | k + 1, l => by
    rw [blkN]
    by_cases hl : l.length ≤ w
    · rw [if_pos hl]; exact ins_perm l
    · rw [if_neg hl]
      have := ((ins_perm (lt := ltc c) (l.take w)).append (blk_perm (c := c) (w := w) k (l.drop w)))
      rw [List.take_append_drop] at this; exact this
def sstV1 (xn : Int) (xcmp : Int → Int → Int) (x7l35 : Int) (yown_xdata_0l35 : List (Int)) (x6l23 : Int) : List (Int) :=
  (if (decide ((IntKind.wrap .i64 (x7l35 + x6l23)) < xn)) = true then (symS yown_xdata_0l35 x7l35 (IntKind.wrap .i64 (x7l35 + x6l23)) xn xcmp) else yown_xdata_0l35)
def sstj48 (xn : Int) (xcmp : Int → Int → Int) (x7l35 : Int) (yown_xdata_0l35 : List (Int)) (x6l23 : Int) (C23 : Int → (List (Int)) → Prop) : Prop :=
  C23 (IntKind.wrap .i64 (x6l23 * 2)) (sstV1 xn xcmp x7l35 yown_xdata_0l35 x6l23)
def sstl35b (xn : Int) (xcmp : Int → Int → Int) (pxcmp : Int → Int → Prop) (x6l23 : Int) (C23 : Int → (List (Int)) → Prop) (x7l35 : Int) (x8l35 : Int) (yown_xdata_0l35 : List (Int)) (C35 : Int → Int → (List (Int)) → Prop) : Prop :=
  ((decide (x8l35 ≤ xn)) = true → symPE yown_xdata_0l35 x7l35 (IntKind.wrap .i64 (x7l35 + x6l23)) x8l35 xcmp pxcmp ∧ C35 x8l35 (IntKind.wrap .i64 (x8l35 + (IntKind.wrap .i64 (2 * x6l23)))) (symS yown_xdata_0l35 x7l35 (IntKind.wrap .i64 (x7l35 + x6l23)) x8l35 xcmp)) ∧ ((decide (x8l35 ≤ xn)) = false → ((decide ((IntKind.wrap .i64 (x7l35 + x6l23)) < xn)) = true → symPE yown_xdata_0l35 x7l35 (IntKind.wrap .i64 (x7l35 + x6l23)) xn xcmp pxcmp ∧ sstj48 xn xcmp x7l35 yown_xdata_0l35 x6l23 C23) ∧ ((decide ((IntKind.wrap .i64 (x7l35 + x6l23)) < xn)) = false → sstj48 xn xcmp x7l35 yown_xdata_0l35 x6l23 C23))
def sstl35 (xn : Int) (xcmp : Int → Int → Int) (pxcmp : Int → Int → Prop) (x6l23 : Int) (C23 : Int → (List (Int)) → Prop) : Nat → Int → Int → (List (Int)) → Prop
  | 0, _, _, _ => False
  | k + 1, x7l35, x8l35, yown_xdata_0l35 => sstl35b xn xcmp pxcmp x6l23 C23 x7l35 x8l35 yown_xdata_0l35 (sstl35 xn xcmp pxcmp x6l23 C23 k)
def sstl23b (xn : Int) (xcmp : Int → Int → Int) (pxcmp : Int → Int → Prop) (K : (List (Int)) → Prop) (x6l23 : Int) (yown_xdata_0l23 : List (Int)) (C23 : Int → (List (Int)) → Prop) : Prop :=
  ((decide (x6l23 < xn)) = true → ∃ k, sstl35 xn xcmp pxcmp x6l23 C23 k 0 (IntKind.wrap .i64 (2 * x6l23)) yown_xdata_0l23) ∧ ((decide (x6l23 < xn)) = false → K yown_xdata_0l23)
def sstl23 (xn : Int) (xcmp : Int → Int → Int) (pxcmp : Int → Int → Prop) (K : (List (Int)) → Prop) : Nat → Int → (List (Int)) → Prop
  | 0, _, _ => False
  | k + 1, x6l23, yown_xdata_0l23 => sstl23b xn xcmp pxcmp K x6l23 yown_xdata_0l23 (sstl23 xn xcmp pxcmp K k)
def sstl7b (xn : Int) (xcmp : Int → Int → Int) (pxcmp : Int → Int → Prop) (K : (List (Int)) → Prop) (x7l7 : Int) (x8l7 : Int) (yown_xdata_0l7 : List (Int)) (C7 : Int → Int → (List (Int)) → Prop) : Prop :=
  ((decide (x8l7 ≤ xn)) = true → sisP yown_xdata_0l7 x7l7 x8l7 xcmp pxcmp ∧ C7 x8l7 (IntKind.wrap .i64 (x8l7 + 20)) (sisS yown_xdata_0l7 x7l7 x8l7 xcmp)) ∧ ((decide (x8l7 ≤ xn)) = false → sisP yown_xdata_0l7 x7l7 xn xcmp pxcmp ∧ ∃ k, sstl23 xn xcmp pxcmp K k 20 (sisS yown_xdata_0l7 x7l7 xn xcmp))
def sstl7 (xn : Int) (xcmp : Int → Int → Int) (pxcmp : Int → Int → Prop) (K : (List (Int)) → Prop) : Nat → Int → Int → (List (Int)) → Prop
  | 0, _, _, _ => False
  | k + 1, x7l7, x8l7, yown_xdata_0l7 => sstl7b xn xcmp pxcmp K x7l7 x8l7 yown_xdata_0l7 (sstl7 xn xcmp pxcmp K k)
def sstF (xdata : List (Int)) (xn : Int) (xcmp : Int → Int → Int) (pxcmp : Int → Int → Prop) (K : (List (Int)) → Prop) : Prop :=
  ∃ k, sstl7 xn xcmp pxcmp K k 0 20 xdata
set_option maxHeartbeats 4000000 in
set_option maxRecDepth 100000 in
set_option linter.unusedVariables false in
theorem sst_ok {g : Ghost} {axdata : Option Addr} {cxdata : Nat} {xsxdata : List Value} (xdata : List (Int)) (xn : Int) {vxcmp : Value} (xcmp : Int → Int → Int) (pxcmp : Int → Int → Prop) (hLxdata : RepL g (.int .i64) xsxdata xdata) (hfxcmp : ∀ (y0 : Int) (y1 : Int), pxcmp y0 y1 → FnG Try.prog vxcmp #[.int .i64 y0, .int .i64 y1] g (.int .i64 (xcmp y0 y1))) (K : (List (Int)) → Prop)
    (hF : sstF xdata xn xcmp pxcmp K) : CallsH Try.prog 13 #[.slice axdata xdata.length cxdata, .int .i64 xn, vxcmp] g [.own (.slice axdata xdata.length cxdata) 3 1 xdata.length xsxdata] (fun g' H' v => ∃ (fxdata : List (Int)), ∃ (xsfxdata : List Value), v = .tuple #[] ∧ RepL g' (.int .i64) xsfxdata fxdata ∧ H' = [.own (.slice axdata fxdata.length cxdata) 3 1 fxdata.length xsfxdata] ∧ fxdata.length = xdata.length ∧ K fxdata) := by
  refine CallsH.enter 63 [(0, .slice axdata xdata.length cxdata), (1, .int .i64 xn), (2, vxcmp)] Try.func13 rfl (by kernel_rfl) (by kernel_rfl) (by kernel_rfl) fun w0 => ?_
  refine Ok.seq ?_
  refine Ok.region ?_
  refine Ok.batch 1 [(0, .slice axdata xdata.length cxdata), (1, .int .i64 xn), (2, vxcmp), (6, .int .i64 20)] (by kernel_rfl) ?_
  refine Ok.nil ?_
  refine Ok.thenN ?_
  refine Ok.seq ?_
  refine Ok.region ?_
  refine Ok.batch 3 [(0, .slice axdata xdata.length cxdata), (1, .int .i64 xn), (2, vxcmp), (6, .int .i64 20), (7, .int .i64 0), (8, .int .i64 20)] (by kernel_rfl) ?_
  refine Ok.nil ?_
  refine Ok.thenN ?_
  refine Ok.seq ?_
  refine Ok.block ?_
  obtain ⟨k, hF⟩ := hF
  refine Ok.loop (fun k a W => ∃ gl7 : Ghost, Gext w0 g gl7 ∧ ∃ (x7l7 : Int) (x8l7 : Int) (yown_xdata_0l7 : List (Int)) (xsyown_xdata_0l7 : List Value), RepL gl7 (.int .i64) xsyown_xdata_0l7 yown_xdata_0l7 ∧ yown_xdata_0l7.length = xdata.length ∧ StA 63 [(0, .slice axdata yown_xdata_0l7.length cxdata), (1, .int .i64 xn), (2, vxcmp), (6, .int .i64 20), (7, .int .i64 x7l7), (8, .int .i64 x8l7)] a ∧ StW w0 [.own (.slice axdata yown_xdata_0l7.length cxdata) 3 1 yown_xdata_0l7.length xsyown_xdata_0l7] gl7 W ∧ sstl7 xn xcmp pxcmp K k x7l7 x8l7 yown_xdata_0l7) k ?_ ?_
  ·
    exact fun a W hA hW => ⟨g, (Gext.refl w0 g), 0, 20, xdata, xsxdata, hLxdata, rfl, hA.sub (by kernel_rfl), hW, hF⟩
  ·
    clear hF
    rintro k7 a W ⟨gl7, hxl7, x7l7, x8l7, yown_xdata_0l7, xsyown_xdata_0l7, hLyown_xdata_0l7, hnyown_xdata_0l7, hA, hW, hF⟩
    cases k7 with
    | zero => exact (hF : False).elim
    | succ k7 =>
      refine (?_ : Ok _ _ _ _ _ _) a W hA hW
      clear hA hW
      replace hfxcmp := (fun y0 y1 hp => (hfxcmp y0 y1 hp).mono hxl7.1)
      refine Ok.seq ?_
      refine Ok.seq ?_
      refine Ok.region ?_
      refine Ok.batch 3 [(0, .slice axdata yown_xdata_0l7.length cxdata), (1, .int .i64 xn), (2, vxcmp), (6, .int .i64 20), (7, .int .i64 x7l7), (8, .int .i64 x8l7), (13, .bool (decide (x8l7 ≤ xn)))] (by kernel_rfl) ?_
      refine Ok.nil ?_
      refine Ok.thenN ?_
      refine Ok.cond (b := decide (x8l7 ≤ xn)) rfl (fun hc1 => ?_) (fun hc1 => ?_)
      · replace hF := hF.1 hc1
        refine Ok.skip ?_
        refine Ok.thenN ?_
        refine Ok.block ?_
        refine Ok.seq ?_
        refine Ok.region ?_
        refine Ok.batch 4 [(0, .slice axdata yown_xdata_0l7.length cxdata), (1, .int .i64 xn), (2, vxcmp), (6, .int .i64 20), (8, .int .i64 x8l7), (14, .slice axdata yown_xdata_0l7.length cxdata), (15, .int .i64 x7l7), (16, .int .i64 x8l7), (17, vxcmp)] (by kernel_rfl) ?_
        obtain ⟨hp2, hF⟩ := hF
        refine Ok.op rfl (OpOk.callH [.own (.slice axdata yown_xdata_0l7.length cxdata) 3 1 yown_xdata_0l7.length xsyown_xdata_0l7] [] (enters (by kernel_rfl) (fun _ => by kernel_rfl)) rfl (sis_c yown_xdata_0l7 x7l7 x8l7 xcmp pxcmp hLyown_xdata_0l7 hfxcmp hp2) rfl fun g3 _ _ hx3 hV3 => ?_)
        obtain ⟨xs3_0, rfl, hL3_0, rfl, hlen3_0⟩ := hV3
        replace hLyown_xdata_0l7 := hLyown_xdata_0l7.mono hx3.1
        replace hfxcmp := (fun y0 y1 hp => (hfxcmp y0 y1 hp).mono hx3.1)
        refine Ok.reval 0 rfl (show (.slice axdata yown_xdata_0l7.length cxdata : Value) = .slice axdata (sisS yown_xdata_0l7 x7l7 x8l7 xcmp).length cxdata from by rw [hlen3_0]) ?_
        refine Ok.reval 14 rfl (show (.slice axdata yown_xdata_0l7.length cxdata : Value) = .slice axdata (sisS yown_xdata_0l7 x7l7 x8l7 xcmp).length cxdata from by rw [hlen3_0]) ?_
        refine Ok.nil ?_
        refine Ok.thenN ?_
        refine Ok.seq ?_
        refine Ok.region ?_
        refine Ok.batch 2 [(0, .slice axdata (sisS yown_xdata_0l7 x7l7 x8l7 xcmp).length cxdata), (1, .int .i64 xn), (2, vxcmp), (6, .int .i64 20), (7, .int .i64 x8l7), (8, .int .i64 x8l7)] (by kernel_rfl) ?_
        refine Ok.nil ?_
        refine Ok.thenN ?_
        refine Ok.region ?_
        refine Ok.batch 4 [(0, .slice axdata (sisS yown_xdata_0l7 x7l7 x8l7 xcmp).length cxdata), (1, .int .i64 xn), (2, vxcmp), (6, .int .i64 20), (7, .int .i64 x8l7), (8, .int .i64 (IntKind.wrap .i64 (x8l7 + 20)))] (by kernel_rfl) ?_
        refine Ok.nil ?_
        refine Ok.blockN ?_
        refine Ok.thenN ?_
        exact fun a W hA hW => ⟨k7, Nat.lt_succ_self _, g3, (hxl7.trans hx3), x8l7, IntKind.wrap .i64 (x8l7 + 20), (sisS yown_xdata_0l7 x7l7 x8l7 xcmp), xs3_0, hL3_0, (by simp only [*]), hA.sub (by kernel_rfl), hW, hF⟩
      · replace hF := hF.2 hc1
        refine Ok.exit ?_
        refine Ok.thenE ?_
        refine Ok.thenE ?_
        refine Ok.blockHit ?_
        refine Ok.thenN ?_
        refine Ok.seq ?_
        refine Ok.region ?_
        refine Ok.batch 4 [(0, .slice axdata yown_xdata_0l7.length cxdata), (1, .int .i64 xn), (2, vxcmp), (6, .int .i64 20), (23, .slice axdata yown_xdata_0l7.length cxdata), (24, .int .i64 x7l7), (25, .int .i64 xn), (26, vxcmp)] (by kernel_rfl) ?_
        obtain ⟨hp4, hF⟩ := hF
        refine Ok.op rfl (OpOk.callH [.own (.slice axdata yown_xdata_0l7.length cxdata) 3 1 yown_xdata_0l7.length xsyown_xdata_0l7] [] (enters (by kernel_rfl) (fun _ => by kernel_rfl)) rfl (sis_c yown_xdata_0l7 x7l7 xn xcmp pxcmp hLyown_xdata_0l7 hfxcmp hp4) rfl fun g5 _ _ hx5 hV5 => ?_)
        obtain ⟨xs5_0, rfl, hL5_0, rfl, hlen5_0⟩ := hV5
        replace hLyown_xdata_0l7 := hLyown_xdata_0l7.mono hx5.1
        replace hfxcmp := (fun y0 y1 hp => (hfxcmp y0 y1 hp).mono hx5.1)
        refine Ok.reval 0 rfl (show (.slice axdata yown_xdata_0l7.length cxdata : Value) = .slice axdata (sisS yown_xdata_0l7 x7l7 xn xcmp).length cxdata from by rw [hlen5_0]) ?_
        refine Ok.reval 23 rfl (show (.slice axdata yown_xdata_0l7.length cxdata : Value) = .slice axdata (sisS yown_xdata_0l7 x7l7 xn xcmp).length cxdata from by rw [hlen5_0]) ?_
        refine Ok.nil ?_
        refine Ok.thenN ?_
        refine Ok.block ?_
        obtain ⟨k, hF⟩ := hF
        refine Ok.loop (fun k a W => ∃ gl23 : Ghost, Gext w0 g5 gl23 ∧ ∃ (x6l23 : Int) (yown_xdata_0l23 : List (Int)) (xsyown_xdata_0l23 : List Value), RepL gl23 (.int .i64) xsyown_xdata_0l23 yown_xdata_0l23 ∧ yown_xdata_0l23.length = xdata.length ∧ StA 63 [(0, .slice axdata yown_xdata_0l23.length cxdata), (1, .int .i64 xn), (2, vxcmp), (6, .int .i64 x6l23)] a ∧ StW w0 [.own (.slice axdata yown_xdata_0l23.length cxdata) 3 1 yown_xdata_0l23.length xsyown_xdata_0l23] gl23 W ∧ sstl23 xn xcmp pxcmp K k x6l23 yown_xdata_0l23) k ?_ ?_
        ·
          exact fun a W hA hW => ⟨g5, (Gext.refl w0 g5), 20, (sisS yown_xdata_0l7 x7l7 xn xcmp), xs5_0, hL5_0, (by simp only [*]), hA.sub (by kernel_rfl), hW, hF⟩
        ·
          clear hF
          rintro k23 a W ⟨gl23, hxl23, x6l23, yown_xdata_0l23, xsyown_xdata_0l23, hLyown_xdata_0l23, hnyown_xdata_0l23, hA, hW, hF⟩
          cases k23 with
          | zero => exact (hF : False).elim
          | succ k23 =>
            refine (?_ : Ok _ _ _ _ _ _) a W hA hW
            clear hA hW
            replace hfxcmp := (fun y0 y1 hp => (hfxcmp y0 y1 hp).mono hxl23.1)
            refine Ok.seq ?_
            refine Ok.seq ?_
            refine Ok.region ?_
            refine Ok.batch 3 [(0, .slice axdata yown_xdata_0l23.length cxdata), (1, .int .i64 xn), (2, vxcmp), (6, .int .i64 x6l23), (30, .bool (decide (x6l23 < xn)))] (by kernel_rfl) ?_
            refine Ok.nil ?_
            refine Ok.thenN ?_
            refine Ok.cond (b := decide (x6l23 < xn)) rfl (fun hc6 => ?_) (fun hc6 => ?_)
            · replace hF := hF.1 hc6
              refine Ok.skip ?_
              refine Ok.thenN ?_
              refine Ok.block ?_
              refine Ok.seq ?_
              refine Ok.region ?_
              refine Ok.batch 4 [(0, .slice axdata yown_xdata_0l23.length cxdata), (1, .int .i64 xn), (2, vxcmp), (6, .int .i64 x6l23), (7, .int .i64 0), (8, .int .i64 (IntKind.wrap .i64 (2 * x6l23)))] (by kernel_rfl) ?_
              refine Ok.nil ?_
              refine Ok.thenN ?_
              refine Ok.seq ?_
              refine Ok.block ?_
              obtain ⟨k, hF⟩ := hF
              refine Ok.loop (fun k a W => ∃ gl35 : Ghost, Gext w0 gl23 gl35 ∧ ∃ (x7l35 : Int) (x8l35 : Int) (yown_xdata_0l35 : List (Int)) (xsyown_xdata_0l35 : List Value), RepL gl35 (.int .i64) xsyown_xdata_0l35 yown_xdata_0l35 ∧ yown_xdata_0l35.length = xdata.length ∧ StA 63 [(0, .slice axdata yown_xdata_0l35.length cxdata), (1, .int .i64 xn), (2, vxcmp), (6, .int .i64 x6l23), (7, .int .i64 x7l35), (8, .int .i64 x8l35)] a ∧ StW w0 [.own (.slice axdata yown_xdata_0l35.length cxdata) 3 1 yown_xdata_0l35.length xsyown_xdata_0l35] gl35 W ∧ sstl35 xn xcmp pxcmp x6l23 (sstl23 xn xcmp pxcmp K k23) k x7l35 x8l35 yown_xdata_0l35) k ?_ ?_
              ·
                exact fun a W hA hW => ⟨gl23, (Gext.refl w0 gl23), 0, IntKind.wrap .i64 (2 * x6l23), yown_xdata_0l23, xsyown_xdata_0l23, hLyown_xdata_0l23, hnyown_xdata_0l23, hA.sub (by kernel_rfl), hW, hF⟩
              ·
                clear hF
                rintro k35 a W ⟨gl35, hxl35, x7l35, x8l35, yown_xdata_0l35, xsyown_xdata_0l35, hLyown_xdata_0l35, hnyown_xdata_0l35, hA, hW, hF⟩
                cases k35 with
                | zero => exact (hF : False).elim
                | succ k35 =>
                  refine (?_ : Ok _ _ _ _ _ _) a W hA hW
                  clear hA hW
                  replace hfxcmp := (fun y0 y1 hp => (hfxcmp y0 y1 hp).mono hxl35.1)
                  refine Ok.seq ?_
                  refine Ok.seq ?_
                  refine Ok.region ?_
                  refine Ok.batch 3 [(0, .slice axdata yown_xdata_0l35.length cxdata), (1, .int .i64 xn), (2, vxcmp), (6, .int .i64 x6l23), (7, .int .i64 x7l35), (8, .int .i64 x8l35), (35, .bool (decide (x8l35 ≤ xn)))] (by kernel_rfl) ?_
                  refine Ok.nil ?_
                  refine Ok.thenN ?_
                  refine Ok.cond (b := decide (x8l35 ≤ xn)) rfl (fun hc7 => ?_) (fun hc7 => ?_)
                  · replace hF := hF.1 hc7
                    refine Ok.skip ?_
                    refine Ok.thenN ?_
                    refine Ok.block ?_
                    refine Ok.seq ?_
                    refine Ok.region ?_
                    refine Ok.batch 7 [(0, .slice axdata yown_xdata_0l35.length cxdata), (1, .int .i64 xn), (2, vxcmp), (6, .int .i64 x6l23), (8, .int .i64 x8l35), (36, .slice axdata yown_xdata_0l35.length cxdata), (37, .int .i64 x7l35), (40, .int .i64 (IntKind.wrap .i64 (x7l35 + x6l23))), (41, .int .i64 x8l35), (42, vxcmp)] (by kernel_rfl) ?_
                    obtain ⟨hp8, hF⟩ := hF
                    refine Ok.op rfl (OpOk.callH [.own (.slice axdata yown_xdata_0l35.length cxdata) 3 1 yown_xdata_0l35.length xsyown_xdata_0l35] [] (enters (by kernel_rfl) (fun _ => by kernel_rfl)) rfl (sym_c yown_xdata_0l35 x7l35 (IntKind.wrap .i64 (x7l35 + x6l23)) x8l35 xcmp pxcmp hLyown_xdata_0l35 hfxcmp hp8) rfl fun g9 _ _ hx9 hV9 => ?_)
                    obtain ⟨xs9_0, rfl, hL9_0, rfl, hlen9_0⟩ := hV9
                    replace hLyown_xdata_0l35 := hLyown_xdata_0l35.mono hx9.1
                    replace hfxcmp := (fun y0 y1 hp => (hfxcmp y0 y1 hp).mono hx9.1)
                    refine Ok.reval 0 rfl (show (.slice axdata yown_xdata_0l35.length cxdata : Value) = .slice axdata (symS yown_xdata_0l35 x7l35 (IntKind.wrap .i64 (x7l35 + x6l23)) x8l35 xcmp).length cxdata from by rw [hlen9_0]) ?_
                    refine Ok.reval 36 rfl (show (.slice axdata yown_xdata_0l35.length cxdata : Value) = .slice axdata (symS yown_xdata_0l35 x7l35 (IntKind.wrap .i64 (x7l35 + x6l23)) x8l35 xcmp).length cxdata from by rw [hlen9_0]) ?_
                    refine Ok.nil ?_
                    refine Ok.thenN ?_
                    refine Ok.seq ?_
                    refine Ok.region ?_
                    refine Ok.batch 2 [(0, .slice axdata (symS yown_xdata_0l35 x7l35 (IntKind.wrap .i64 (x7l35 + x6l23)) x8l35 xcmp).length cxdata), (1, .int .i64 xn), (2, vxcmp), (6, .int .i64 x6l23), (7, .int .i64 x8l35), (8, .int .i64 x8l35)] (by kernel_rfl) ?_
                    refine Ok.nil ?_
                    refine Ok.thenN ?_
                    refine Ok.region ?_
                    refine Ok.batch 5 [(0, .slice axdata (symS yown_xdata_0l35 x7l35 (IntKind.wrap .i64 (x7l35 + x6l23)) x8l35 xcmp).length cxdata), (1, .int .i64 xn), (2, vxcmp), (6, .int .i64 x6l23), (7, .int .i64 x8l35), (8, .int .i64 (IntKind.wrap .i64 (x8l35 + (IntKind.wrap .i64 (2 * x6l23)))))] (by kernel_rfl) ?_
                    refine Ok.nil ?_
                    refine Ok.blockN ?_
                    refine Ok.thenN ?_
                    exact fun a W hA hW => ⟨k35, Nat.lt_succ_self _, g9, (hxl35.trans hx9), x8l35, IntKind.wrap .i64 (x8l35 + (IntKind.wrap .i64 (2 * x6l23))), (symS yown_xdata_0l35 x7l35 (IntKind.wrap .i64 (x7l35 + x6l23)) x8l35 xcmp), xs9_0, hL9_0, (by simp only [*]), hA.sub (by kernel_rfl), hW, hF⟩
                  · replace hF := hF.2 hc7
                    refine Ok.exit ?_
                    refine Ok.thenE ?_
                    refine Ok.thenE ?_
                    refine Ok.blockHit ?_
                    refine Ok.thenN ?_
                    refine Ok.cut (fun a W => ∃ gj48 : Ghost, Gext w0 gl35 gj48 ∧ ∃ (xsyown_xdata_0j48 : List Value), RepL gj48 (.int .i64) xsyown_xdata_0j48 (sstV1 xn xcmp x7l35 yown_xdata_0l35 x6l23) ∧ (sstV1 xn xcmp x7l35 yown_xdata_0l35 x6l23).length = xdata.length ∧ StA 63 [(0, .slice axdata (sstV1 xn xcmp x7l35 yown_xdata_0l35 x6l23).length cxdata), (1, .int .i64 xn), (2, vxcmp), (6, .int .i64 x6l23)] a ∧ StW w0 [.own (.slice axdata (sstV1 xn xcmp x7l35 yown_xdata_0l35 x6l23).length cxdata) 3 1 (sstV1 xn xcmp x7l35 yown_xdata_0l35 x6l23).length xsyown_xdata_0j48] gj48 W ∧ sstj48 xn xcmp x7l35 yown_xdata_0l35 x6l23 (sstl23 xn xcmp pxcmp K k23)) ?_ ?_
                    ·
                      refine Ok.seq ?_
                      refine Ok.region ?_
                      refine Ok.batch 4 [(0, .slice axdata yown_xdata_0l35.length cxdata), (1, .int .i64 xn), (2, vxcmp), (6, .int .i64 x6l23), (7, .int .i64 x7l35), (9, .int .i64 (IntKind.wrap .i64 (x7l35 + x6l23)))] (by kernel_rfl) ?_
                      refine Ok.nil ?_
                      refine Ok.thenN ?_
                      refine Ok.seq ?_
                      refine Ok.region ?_
                      refine Ok.batch 3 [(0, .slice axdata yown_xdata_0l35.length cxdata), (1, .int .i64 xn), (2, vxcmp), (6, .int .i64 x6l23), (7, .int .i64 x7l35), (9, .int .i64 (IntKind.wrap .i64 (x7l35 + x6l23))), (54, .bool (decide ((IntKind.wrap .i64 (x7l35 + x6l23)) < xn)))] (by kernel_rfl) ?_
                      refine Ok.nil ?_
                      refine Ok.thenN ?_
                      refine Ok.cond (b := decide ((IntKind.wrap .i64 (x7l35 + x6l23)) < xn)) rfl (fun hc10 => ?_) (fun hc10 => ?_)
                      · replace hF := hF.1 hc10
                        refine Ok.region ?_
                        refine Ok.batch 5 [(0, .slice axdata yown_xdata_0l35.length cxdata), (1, .int .i64 xn), (2, vxcmp), (6, .int .i64 x6l23), (55, .slice axdata yown_xdata_0l35.length cxdata), (56, .int .i64 x7l35), (57, .int .i64 (IntKind.wrap .i64 (x7l35 + x6l23))), (58, .int .i64 xn), (59, vxcmp)] (by kernel_rfl) ?_
                        obtain ⟨hp11, hF⟩ := hF
                        refine Ok.op rfl (OpOk.callH [.own (.slice axdata yown_xdata_0l35.length cxdata) 3 1 yown_xdata_0l35.length xsyown_xdata_0l35] [] (enters (by kernel_rfl) (fun _ => by kernel_rfl)) rfl (sym_c yown_xdata_0l35 x7l35 (IntKind.wrap .i64 (x7l35 + x6l23)) xn xcmp pxcmp hLyown_xdata_0l35 hfxcmp hp11) rfl fun g12 _ _ hx12 hV12 => ?_)
                        obtain ⟨xs12_0, rfl, hL12_0, rfl, hlen12_0⟩ := hV12
                        replace hLyown_xdata_0l35 := hLyown_xdata_0l35.mono hx12.1
                        replace hfxcmp := (fun y0 y1 hp => (hfxcmp y0 y1 hp).mono hx12.1)
                        refine Ok.reval 0 rfl (show (.slice axdata yown_xdata_0l35.length cxdata : Value) = .slice axdata (symS yown_xdata_0l35 x7l35 (IntKind.wrap .i64 (x7l35 + x6l23)) xn xcmp).length cxdata from by rw [hlen12_0]) ?_
                        refine Ok.reval 55 rfl (show (.slice axdata yown_xdata_0l35.length cxdata : Value) = .slice axdata (symS yown_xdata_0l35 x7l35 (IntKind.wrap .i64 (x7l35 + x6l23)) xn xcmp).length cxdata from by rw [hlen12_0]) ?_
                        refine Ok.nil ?_
                        refine Ok.thenN ?_
                        refine Ok.reval 0 rfl (show (.slice axdata (symS yown_xdata_0l35 x7l35 (IntKind.wrap .i64 (x7l35 + x6l23)) xn xcmp).length cxdata : Value) = .slice axdata (sstV1 xn xcmp x7l35 yown_xdata_0l35 x6l23).length cxdata from congrArg (fun l : List (Int) => Value.slice axdata l.length cxdata) ((if_t hc10).symm)) ?_
                        refine Ok.heapEq (H' := [.own (.slice axdata (sstV1 xn xcmp x7l35 yown_xdata_0l35 x6l23).length cxdata) 3 1 (sstV1 xn xcmp x7l35 yown_xdata_0l35 x6l23).length xs12_0]) (econs (congrArg (fun l : List (Int) => Ent.own (.slice axdata l.length cxdata) 3 1 l.length xs12_0) ((if_t hc10).symm)) rfl) ?_
                        exact fun a W hA hW => ⟨g12, hx12, xs12_0, (Eq.mp (congrArg (fun l : List (Int) => RepL g12 (.int .i64) xs12_0 l) ((if_t hc10).symm)) hL12_0), (by clear hF; simp only [sstV1, Bool.false_eq_true, ↓reduceIte, *]), hA.sub (by kernel_rfl), hW, hF⟩
                      · replace hF := hF.2 hc10
                        refine Ok.skip ?_
                        refine Ok.thenN ?_
                        refine Ok.reval 0 rfl (show (.slice axdata yown_xdata_0l35.length cxdata : Value) = .slice axdata (sstV1 xn xcmp x7l35 yown_xdata_0l35 x6l23).length cxdata from congrArg (fun l : List (Int) => Value.slice axdata l.length cxdata) ((if_f hc10).symm)) ?_
                        refine Ok.heapEq (H' := [.own (.slice axdata (sstV1 xn xcmp x7l35 yown_xdata_0l35 x6l23).length cxdata) 3 1 (sstV1 xn xcmp x7l35 yown_xdata_0l35 x6l23).length xsyown_xdata_0l35]) (econs (congrArg (fun l : List (Int) => Ent.own (.slice axdata l.length cxdata) 3 1 l.length xsyown_xdata_0l35) ((if_f hc10).symm)) rfl) ?_
                        exact fun a W hA hW => ⟨gl35, (Gext.refl w0 gl35), xsyown_xdata_0l35, (Eq.mp (congrArg (fun l : List (Int) => RepL gl35 (.int .i64) xsyown_xdata_0l35 l) ((if_f hc10).symm)) hLyown_xdata_0l35), (by clear hF; simp only [sstV1, Bool.false_eq_true, ↓reduceIte, *]), hA.sub (by kernel_rfl), hW, hF⟩
                    ·
                      clear hF
                      rintro a W ⟨gj48, hxj48, xsyown_xdata_0j48, hLyown_xdata_0j48, hnyown_xdata_0j48, hA, hW, hF⟩
                      refine (?_ : Ok _ _ _ _ _ _) a W hA hW
                      clear hA hW
                      replace hfxcmp := (fun y0 y1 hp => (hfxcmp y0 y1 hp).mono hxj48.1)
                      refine Ok.region ?_
                      refine Ok.batch 3 [(0, .slice axdata (sstV1 xn xcmp x7l35 yown_xdata_0l35 x6l23).length cxdata), (1, .int .i64 xn), (2, vxcmp), (6, .int .i64 (IntKind.wrap .i64 (x6l23 * 2)))] (by kernel_rfl) ?_
                      refine Ok.nil ?_
                      refine Ok.blockN ?_
                      refine Ok.thenN ?_
                      exact fun a W hA hW => ⟨k23, Nat.lt_succ_self _, gj48, ((hxl23.trans hxl35).trans hxj48), IntKind.wrap .i64 (x6l23 * 2), (sstV1 xn xcmp x7l35 yown_xdata_0l35 x6l23), xsyown_xdata_0j48, hLyown_xdata_0j48, hnyown_xdata_0j48, hA.sub (by kernel_rfl), hW, hF⟩
            · replace hF := hF.2 hc6
              refine Ok.exit ?_
              refine Ok.thenE ?_
              refine Ok.thenE ?_
              refine Ok.blockHit ?_
              exact Ok.resH (vs := []) (.inr rfl) rfl .nil ((hxl7.trans hx5).trans hxl23) ⟨yown_xdata_0l23, xsyown_xdata_0l23, rfl, hLyown_xdata_0l23, rfl, hnyown_xdata_0l23, hF⟩
open Stb in
theorem sisS_at (P L : List Int) (c : Int → Int → Int) {a b : Int} {k : Nat} (ha : a = P.length) (hb : b = a + k) : sisS (P ++ L) a b c = P ++ ins (ltc c) (L.take k) ++ L.drop k := by
  unfold sisS
  rw [show a.toNat = P.length by omega, show (b - a).toNat = k by omega, show b.toNat = P.length + k by omega, List.take_left, List.drop_left, ← List.drop_drop, List.drop_left]
open Stb in
theorem sisS_end (P L : List Int) (c : Int → Int → Int) {a b : Int} (ha : a = P.length) (hb : b = a + L.length) : sisS (P ++ L) a b c = P ++ ins (ltc c) L := by
  rw [sisS_at P L c ha hb, List.take_length, List.drop_length, List.append_nil]
open Stb in
def sstS (l : List Int) (_ : Int) (c : Int → Int → Int) : List Int := ins (ltc c) l
open Stb in
def sstP (l : List Int) (n : Int) (c : Int → Int → Int) (p : Int → Int → Prop) : Prop := n = l.length ∧ l.length ≤ 1000 ∧ Wk (ltc c) ∧ ∀ x ∈ l, ∀ y ∈ l, p x y
open Stb in
theorem sst_F (l : List Int) (n : Int) (c : Int → Int → Int) (p : Int → Int → Prop) (hp : sstP l n c p) : sstF l n c p (fun r => r = sstS l n c) := by
  obtain ⟨hn, hl, hw, hpp⟩ := hp
  have inl : ∀ {P Q : List Int} {a : Nat}, P.Perm (l.take a) → Q.Perm (l.drop a) → ∀ x ∈ P ++ Q, x ∈ l := fun {P Q a} h1 h2 x hx => by
    have := (h1.append h2).mem_iff.1 hx
    rw [List.take_append_drop] at this; exact this
  -- merges of neighbours
  have pairs : ∀ (w : Nat), 0 < w → w < l.length → ∀ (C : Int → List Int → Prop), C (IntKind.wrap .i64 ((w : Int) * 2)) (blk c (2 * w) l) → ∀ (k a : Nat) (P : List Int), l.length ≤ a + k → a ≤ l.length → P.Perm (l.take a) → P ++ blk c (2 * w) (l.drop a) = blk c (2 * w) l → sstl35 n c p (w : Int) C (k + 1) (a : Int) ((a + 2 * w : Nat) : Int) (P ++ blk c w (l.drop a)) := by
    intro w hw0 hwl C hC k
    induction k with
    | zero =>
      intro a P hk ha hP hT
      have hd : l.drop a = [] := List.drop_of_length_le (by omega)
      rw [hd, blk_few (Nat.zero_le _)] at hT ⊢
      refine ⟨fun hh => by have := of_decide_eq_true hh; omega, fun _ => ?_⟩
      have e1 : IntKind.wrap .i64 ((a : Int) + (w : Int)) = (a : Int) + (w : Int) := w64 (by omega)
      have hv : sstV1 n c (a : Int) (P ++ ins (ltc c) []) (w : Int) = blk c (2 * w) l := by
        unfold sstV1
        rw [e1, if_neg (by rw [decide_eq_true_eq]; omega)]; exact hT
      have j : sstj48 n c (a : Int) (P ++ ins (ltc c) []) (w : Int) C := by
        unfold sstj48; rw [hv]; exact hC
      exact ⟨fun hh => by rw [e1] at hh; have := of_decide_eq_true hh; omega, fun _ => j⟩
    | succ k ih =>
      intro a P hk ha hP hT
      have hPl : P.length = a := by rw [hP.length_eq, List.length_take]; omega
      have e1 : IntKind.wrap .i64 ((a : Int) + (w : Int)) = (a : Int) + (w : Int) := w64 (by omega)
      have hdl : (l.drop a).length = l.length - a := List.length_drop ..
      refine ⟨fun hh => ?_, fun hh => ?_⟩
      · have hh := of_decide_eq_true hh
        have c1 : blk c w (l.drop a) = ins (ltc c) ((l.drop a).take w) ++ (ins (ltc c) (((l.drop a).drop w).take w) ++ blk c w (l.drop (a + 2 * w))) := by
          rw [blk_cut hw0 (by omega), blk_cut hw0 (by rw [List.length_drop]; omega), List.drop_drop, List.drop_drop, show a + w + w = a + 2 * w by omega]
        have l1 : (ins (ltc c) ((l.drop a).take w)).length = w := by rw [ins_len, List.length_take]; omega
        have l2 : (ins (ltc c) (((l.drop a).drop w).take w)).length = w := by rw [ins_len, List.length_take, List.length_drop]; omega
        have hmm : mrg (ltc c) (ins (ltc c) ((l.drop a).take w)) (ins (ltc c) (((l.drop a).drop w).take w)) = ins (ltc c) ((l.drop a).take (2 * w)) := by
          rw [← ins_append hw, show 2 * w = w + w by omega, List.take_add]
        have mem := inl (P := P) (Q := blk c w (l.drop a)) hP (blk_perm _ _)
        have len : (P ++ blk c w (l.drop a)).length = l.length := by
          have := (hP.append (blk_perm (c := c) (w := w) (l.drop a).length (l.drop a))).length_eq
          rw [List.take_append_drop] at this; exact this
        rw [e1]
        have w2 : IntKind.wrap .i64 (2 * (w : Int)) = 2 * (w : Int) := w64 (by omega)
        have w3 : IntKind.wrap .i64 (((a + 2 * w : Nat) : Int) + 2 * (w : Int)) = ((a + 2 * w + 2 * w : Nat) : Int) := by rw [w64 (by omega)]; omega
        rw [w2, w3]
        rw [c1, show P ++ (ins (ltc c) ((l.drop a).take w) ++ (ins (ltc c) (((l.drop a).drop w).take w) ++ blk c w (l.drop (a + 2 * w)))) = P ++ ins (ltc c) ((l.drop a).take w) ++ ins (ltc c) (((l.drop a).drop w).take w) ++ blk c w (l.drop (a + 2 * w)) by simp] at mem len ⊢
        refine ⟨⟨(2 * w), symP_at P _ _ _ (by omega) (by omega) (by omega) (by omega) (by omega) (by omega) (by omega) hw (fun x hx y hy => hpp x (mem x hx) y (mem y hy)) (ins_srt hw _) (ins_srt hw _)⟩, ?_⟩
        rw [symS_at P _ _ _ c (by omega) (by omega) (by omega), hmm]
        refine ih (a + 2 * w) (P ++ ins (ltc c) ((l.drop a).take (2 * w))) (by omega) (by omega) ?_ ?_
        · rw [List.take_add]; exact hP.append (ins_perm _)
        · rw [← hT, blk_cut (w := 2 * w) (by omega) (by omega : 2 * w ≤ (l.drop a).length), List.drop_drop, List.append_assoc]
      · have hh := of_decide_eq_false hh
        have few : blk c (2 * w) (l.drop a) = ins (ltc c) (l.drop a) := blk_few (by omega)
        rw [few] at hT
        by_cases hq : a + w < l.length
        · have c1 : blk c w (l.drop a) = ins (ltc c) ((l.drop a).take w) ++ ins (ltc c) ((l.drop a).drop w) := by
            rw [blk_cut hw0 (by omega), blk_few (l := (l.drop a).drop w) (by rw [List.length_drop]; omega)]
          have l1 : (ins (ltc c) ((l.drop a).take w)).length = w := by rw [ins_len, List.length_take]; omega
          have l2 : (ins (ltc c) ((l.drop a).drop w)).length = l.length - a - w := by rw [ins_len, List.length_drop]; omega
          have hmm : mrg (ltc c) (ins (ltc c) ((l.drop a).take w)) (ins (ltc c) ((l.drop a).drop w)) = ins (ltc c) (l.drop a) := by
            rw [← ins_append hw, List.take_append_drop]
          have mem := inl (P := P) (Q := blk c w (l.drop a)) hP (blk_perm _ _)
          have len : (P ++ blk c w (l.drop a)).length = l.length := by
            have := (hP.append (blk_perm (c := c) (w := w) (l.drop a).length (l.drop a))).length_eq
            rw [List.take_append_drop] at this; exact this
          rw [c1, show P ++ (ins (ltc c) ((l.drop a).take w) ++ ins (ltc c) ((l.drop a).drop w)) = P ++ ins (ltc c) ((l.drop a).take w) ++ ins (ltc c) ((l.drop a).drop w) ++ [] by simp] at mem len ⊢
          have hv : sstV1 n c (a : Int) (P ++ ins (ltc c) ((l.drop a).take w) ++ ins (ltc c) ((l.drop a).drop w) ++ []) (w : Int) = blk c (2 * w) l := by
            unfold sstV1
            rw [e1, if_pos (by rw [decide_eq_true_eq]; omega), symS_at P _ _ _ c (by omega) (by omega) (by omega), hmm, List.append_nil]; exact hT
          have j : sstj48 n c (a : Int) (P ++ ins (ltc c) ((l.drop a).take w) ++ ins (ltc c) ((l.drop a).drop w) ++ []) (w : Int) C := by
            unfold sstj48; rw [hv]; exact hC
          refine ⟨fun _ => ⟨⟨2 * w, ?_⟩, j⟩, fun _ => j⟩
          rw [e1]
          exact symP_at P _ _ _ (by omega) (by omega) (by omega) (by omega) (by omega) (by omega) (by omega) hw (fun x hx y hy => hpp x (mem x hx) y (mem y hy)) (ins_srt hw _) (ins_srt hw _)
        · have hv : sstV1 n c (a : Int) (P ++ blk c w (l.drop a)) (w : Int) = blk c (2 * w) l := by
            unfold sstV1
            rw [e1, if_neg (by rw [decide_eq_true_eq]; omega), blk_few (by omega)]; exact hT
          have j : sstj48 n c (a : Int) (P ++ blk c w (l.drop a)) (w : Int) C := by
            unfold sstj48; rw [hv]; exact hC
          exact ⟨fun hh2 => by rw [e1] at hh2; have := of_decide_eq_true hh2; omega, fun _ => j⟩
  have widths : ∀ (k w : Nat), 0 < w → w ≤ 2000 → l.length ≤ w + k → sstl23 n c p (fun r => r = sstS l n c) (k + 1) (w : Int) (blk c w l) := by
    intro k
    induction k with
    | zero =>
      intro w hw0 hwb hk
      exact ⟨fun hh => by have := of_decide_eq_true hh; omega, fun _ => blk_few (by omega)⟩
    | succ k ih =>
      intro w hw0 hwb hk
      by_cases hlt : w < l.length
      · refine ⟨fun _ => ⟨l.length + 1, ?_⟩, fun hh => by have := of_decide_eq_false hh; omega⟩
        have e1 : IntKind.wrap .i64 ((w : Int) * 2) = ((2 * w : Nat) : Int) := by rw [w64 (by omega)]; omega
        have e2 : IntKind.wrap .i64 (2 * (w : Int)) = ((0 + 2 * w : Nat) : Int) := by rw [w64 (by omega)]; omega
        have := pairs w hw0 hlt (sstl23 n c p (fun r => r = sstS l n c) (k + 1)) (by rw [e1]; exact ih (2 * w) (by omega) (by omega) (by omega)) l.length 0 [] (by omega) (by omega) (by rw [List.take_zero]) (by rw [List.drop_zero, List.nil_append])
        rw [List.drop_zero, List.nil_append] at this
        rw [e2]; exact this
      · exact ⟨fun hh => by have := of_decide_eq_true hh; omega, fun _ => blk_few (by omega)⟩
  have first : ∀ (k a : Nat) (P : List Int), l.length ≤ a + k → a ≤ l.length → P.Perm (l.take a) → P ++ blk c 20 (l.drop a) = blk c 20 l → sstl7 n c p (fun r => r = sstS l n c) (k + 1) (a : Int) ((a + 20 : Nat) : Int) (P ++ l.drop a) := by
    intro k
    induction k with
    | zero =>
      intro a P hk ha hP hT
      have hPl : P.length = a := by rw [hP.length_eq, List.length_take]; omega
      have mem := inl (P := P) (Q := l.drop a) hP (List.Perm.refl _)
      have len : (P ++ l.drop a).length = l.length := by rw [List.length_append, List.length_drop]; omega
      refine ⟨fun hh => by have := of_decide_eq_true hh; omega, fun _ => ⟨⟨by omega, by omega, by omega, by omega, hw, fun x hx y hy => hpp x (mem x hx) y (mem y hy)⟩, l.length + 1, ?_⟩⟩
      rw [sisS_end P (l.drop a) c (by omega) (by rw [List.length_drop]; omega), ← blk_few (w := 20) (by rw [List.length_drop]; omega), hT]
      exact widths l.length 20 (by omega) (by omega) (by omega)
    | succ k ih =>
      intro a P hk ha hP hT
      have hPl : P.length = a := by rw [hP.length_eq, List.length_take]; omega
      have mem := inl (P := P) (Q := l.drop a) hP (List.Perm.refl _)
      have len : (P ++ l.drop a).length = l.length := by rw [List.length_append, List.length_drop]; omega
      refine ⟨fun hh => ?_, fun hh => ?_⟩
      · have hh := of_decide_eq_true hh
        refine ⟨⟨by omega, by omega, by omega, by omega, hw, fun x hx y hy => hpp x (mem x hx) y (mem y hy)⟩, ?_⟩
        rw [sisS_at P (l.drop a) c (k := 20) (by omega) (by omega), List.drop_drop, show IntKind.wrap .i64 (((a + 20 : Nat) : Int) + 20) = ((a + 20 + 20 : Nat) : Int) by rw [w64 (by omega)]; omega]
        refine ih (a + 20) _ (by omega) (by omega) ?_ ?_
        · rw [List.take_add]; exact hP.append (ins_perm _)
        · rw [← hT, blk_cut (w := 20) (by omega) (by rw [List.length_drop]; omega : 20 ≤ (l.drop a).length), List.drop_drop, List.append_assoc]
      · have hh := of_decide_eq_false hh
        refine ⟨⟨by omega, by omega, by omega, by omega, hw, fun x hx y hy => hpp x (mem x hx) y (mem y hy)⟩, l.length + 1, ?_⟩
        rw [sisS_end P (l.drop a) c (by omega) (by rw [List.length_drop]; omega), ← blk_few (w := 20) (by rw [List.length_drop]; omega), hT]
        exact widths l.length 20 (by omega) (by omega) (by omega)
  have := first l.length 0 [] (by omega) (by omega) (by rw [List.take_zero]) (by rw [List.drop_zero, List.nil_append])
  rw [List.drop_zero, List.nil_append] at this
  exact ⟨_, this⟩
set_option linter.unusedVariables false in
theorem sst_c {g : Ghost} {axdata : Option Addr} {cxdata : Nat} {xsxdata : List Value} (xdata : List (Int)) (xn : Int) {vxcmp : Value} (xcmp : Int → Int → Int) (pxcmp : Int → Int → Prop) (hLxdata : RepL g (.int .i64) xsxdata xdata) (hfxcmp : ∀ (y0 : Int) (y1 : Int), pxcmp y0 y1 → FnG Try.prog vxcmp #[.int .i64 y0, .int .i64 y1] g (.int .i64 (xcmp y0 y1)))  (hp : sstP xdata xn xcmp pxcmp) : CallsH Try.prog 13 #[.slice axdata xdata.length cxdata, .int .i64 xn, vxcmp] g [.own (.slice axdata xdata.length cxdata) 3 1 xdata.length xsxdata] (fun g' H' v => ∃ (xsfxdata : List Value), v = .tuple #[] ∧ RepL g' (.int .i64) xsfxdata (sstS xdata xn xcmp) ∧ H' = [.own (.slice axdata (sstS xdata xn xcmp).length cxdata) 3 1 (sstS xdata xn xcmp).length xsfxdata] ∧ (sstS xdata xn xcmp).length = xdata.length) :=
  (sst_ok xdata xn xcmp pxcmp hLxdata hfxcmp _ (sst_F xdata xn xcmp pxcmp hp)).mono (by rintro g' H' v _ ⟨fxdata, xsfxdata, rfl, hLfxdata, rfl, hlen0, hK⟩; subst hK; exact ⟨xsfxdata, rfl, hLfxdata, rfl, hlen0⟩)
def ssfF (xx : List (Int)) (xcmp : Int → Int → Int) (pxcmp : Int → Int → Prop) (K : (List (Int)) → Prop) : Prop :=
  sstP xx (xx.length : Int) xcmp pxcmp ∧ K (sstS xx (xx.length : Int) xcmp)
set_option maxHeartbeats 4000000 in
set_option maxRecDepth 100000 in
set_option linter.unusedVariables false in
theorem ssf_ok {g : Ghost} {axx : Option Addr} {cxx : Nat} {xsxx : List Value} (xx : List (Int)) {vxcmp : Value} (xcmp : Int → Int → Int) (pxcmp : Int → Int → Prop) (hLxx : RepL g (.int .i64) xsxx xx) (hfxcmp : ∀ (y0 : Int) (y1 : Int), pxcmp y0 y1 → FnG Try.prog vxcmp #[.int .i64 y0, .int .i64 y1] g (.int .i64 (xcmp y0 y1))) (K : (List (Int)) → Prop)
    (hF : ssfF xx xcmp pxcmp K) : CallsH Try.prog 9 #[.slice axx xx.length cxx, vxcmp] g [.own (.slice axx xx.length cxx) 3 1 xx.length xsxx] (fun g' H' v => ∃ (fxx : List (Int)), ∃ (xsfxx : List Value), v = .tuple #[] ∧ RepL g' (.int .i64) xsfxx fxx ∧ H' = [.own (.slice axx fxx.length cxx) 3 1 fxx.length xsfxx] ∧ fxx.length = xx.length ∧ K fxx) := by
  refine CallsH.enter 9 [(0, .slice axx xx.length cxx), (1, vxcmp)] Try.func9 rfl (by kernel_rfl) (by kernel_rfl) (by kernel_rfl) fun w0 => ?_
  refine Ok.region ?_
  refine Ok.batch 4 [(4, .slice axx xx.length cxx), (6, .int .i64 (xx.length : Int)), (7, vxcmp)] (by kernel_rfl) ?_
  obtain ⟨hp1, hF⟩ := hF
  refine Ok.op rfl (OpOk.callH [.own (.slice axx xx.length cxx) 3 1 xx.length xsxx] [] (enters (by kernel_rfl) (fun _ => by kernel_rfl)) rfl (sst_c xx (xx.length : Int) xcmp pxcmp hLxx hfxcmp hp1) rfl fun g2 _ _ hx2 hV2 => ?_)
  obtain ⟨xs2_0, rfl, hL2_0, rfl, hlen2_0⟩ := hV2
  replace hLxx := hLxx.mono hx2.1
  replace hfxcmp := (fun y0 y1 hp => (hfxcmp y0 y1 hp).mono hx2.1)
  refine Ok.reval 4 rfl (show (.slice axx xx.length cxx : Value) = .slice axx (sstS xx (xx.length : Int) xcmp).length cxx from by rw [hlen2_0]) ?_
  refine Ok.nil ?_
  exact Ok.resH (vs := []) (.inr rfl) rfl .nil hx2 ⟨(sstS xx (xx.length : Int) xcmp), xs2_0, rfl, hL2_0, rfl, (by simp only [*]), hF⟩
open Stb in
def ssfS (l : List Int) (c : Int → Int → Int) : List Int := ins (ltc c) l
open Stb in
def ssfP (l : List Int) (c : Int → Int → Int) (p : Int → Int → Prop) : Prop := l.length ≤ 1000 ∧ Wk (ltc c) ∧ ∀ x ∈ l, ∀ y ∈ l, p x y
theorem ssf_F (l : List Int) (c : Int → Int → Int) (p : Int → Int → Prop) (hp : ssfP l c p) : ssfF l c p (fun r => r = ssfS l c) := ⟨⟨rfl, hp.1, hp.2.1, hp.2.2⟩, rfl⟩
set_option linter.unusedVariables false in
theorem ssf_c {g : Ghost} {axx : Option Addr} {cxx : Nat} {xsxx : List Value} (xx : List (Int)) {vxcmp : Value} (xcmp : Int → Int → Int) (pxcmp : Int → Int → Prop) (hLxx : RepL g (.int .i64) xsxx xx) (hfxcmp : ∀ (y0 : Int) (y1 : Int), pxcmp y0 y1 → FnG Try.prog vxcmp #[.int .i64 y0, .int .i64 y1] g (.int .i64 (xcmp y0 y1)))  (hp : ssfP xx xcmp pxcmp) : CallsH Try.prog 9 #[.slice axx xx.length cxx, vxcmp] g [.own (.slice axx xx.length cxx) 3 1 xx.length xsxx] (fun g' H' v => ∃ (xsfxx : List Value), v = .tuple #[] ∧ RepL g' (.int .i64) xsfxx (ssfS xx xcmp) ∧ H' = [.own (.slice axx (ssfS xx xcmp).length cxx) 3 1 (ssfS xx xcmp).length xsfxx] ∧ (ssfS xx xcmp).length = xx.length) :=
  (ssf_ok xx xcmp pxcmp hLxx hfxcmp _ (ssf_F xx xcmp pxcmp hp)).mono (by rintro g' H' v _ ⟨fxx, xsfxx, rfl, hLfxx, rfl, hlen0, hK⟩; subst hK; exact ⟨xsfxx, rfl, hLfxx, rfl, hlen0⟩)
end Go.Proofs.Ytjkimpnppldekaa.So
