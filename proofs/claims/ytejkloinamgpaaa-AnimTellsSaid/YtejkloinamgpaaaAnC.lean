/- Package anim's check of a change and the reference's: one answer. -/
import Derived.Test.YtejkloinamgpaaaAnB
namespace Go.Proofs.Ytejkloinamgpaaa.An
open Go.Eng
open IntWalk (i64_in)
abbrev A := Int × Int × Int × Bool × Bool × E × List (Int × Int × Int)
/-- the times rise from each frame to the next -/
def rising : List (Int × Int × Int) → Bool
  | x :: y :: l => decide (x.1 < y.1) && rising (y :: l)
  | _ => true
def tailI (e : E) (l : List (Int × Int × Int)) (b : Bool) : Int :=
  if b = true then 1 else if mayB e = false then 3 else if 10 < (l.length : Int) then 2 else if (l.length : Int) < 2 then 3
  else if ¬ (l.headD (0, 0, 0)).1 = 0 then 3 else if ¬ (l.getLastD (0, 0, 0)).1 = 1000 then 3 else if rising l = true then 0 else 3
def faultI (a : A) : Int := tailI a.2.2.2.2.2.1 a.2.2.2.2.2.2 !(inB a.1 0 100000000 && inB a.2.1 1 100000000 && inB a.2.2.1 1 1000)
theorem rising_drop {l : List (Int × Int × Int)} {k : Nat} {x y : Int × Int × Int} (hx : l[k]? = some x) (hy : l[k + 1]? = some y) : rising (l.drop k) = (decide (x.1 < y.1) && rising (l.drop (k + 1))) := by
  induction l generalizing k with
  | nil => simp at hx
  | cons a l ih =>
    cases k with
    | zero =>
      cases l with
      | nil => simp at hy
      | cons b l =>
        simp at hx hy
        subst hx; subst hy
        rfl
    | succ k => simpa using ih (by simpa using hx) (by simpa using hy)
theorem rising_end {l : List (Int × Int × Int)} {k : Nat} (h : l.length ≤ k + 1) : rising (l.drop k) = true := by
  have : (l.drop k).length ≤ 1 := by simp; omega
  match l.drop k, this with
  | [], _ => rfl
  | [_], _ => rfl
theorem head_of {l : List (Int × Int × Int)} {x : Int × Int × Int} (h : l[0]? = some x) : l.headD (0, 0, 0) = x := by
  cases l with
  | nil => simp at h
  | cons a l => simpa using h
theorem last_of {l : List (Int × Int × Int)} {x : Int × Int × Int} (h : l[l.length - 1]? = some x) : l.getLastD (0, 0, 0) = x := by
  rw [List.getLastD_eq_getLast?, List.getLast?_eq_getElem?, h]; rfl
theorem get_some {α : Type} {l : List α} {i : Nat} (h : i < l.length) : ∃ x, l[i]? = some x := ⟨l[i], by simp [h]⟩
def checkl41b (pa_Frames : List (Int × Int × Int)) (K : Int → Prop) (x55l41 : Int) (C41 : Int → Prop) : Prop :=
  ((decide (x55l41 < ((pa_Frames.drop (Int.toNat 1)).length : Int))) = true → ∃ e3 : Int × Int × Int, (0 : Int) ≤ x55l41 ∧ (pa_Frames.drop (Int.toNat 1))[Int.toNat x55l41]? = some e3 ∧ ∃ e5 : Int × Int × Int, (0 : Int) ≤ x55l41 ∧ pa_Frames[Int.toNat x55l41]? = some e5 ∧ ((decide (e3.1 ≤ e5.1)) = true → K 3) ∧ ((decide (e3.1 ≤ e5.1)) = false → C41 (IntKind.wrap .i64 (x55l41 + 1)))) ∧ ((decide (x55l41 < ((pa_Frames.drop (Int.toNat 1)).length : Int))) = false → K 0)
def checkl41 (pa_Frames : List (Int × Int × Int)) (K : Int → Prop) : Nat → Int → Prop
  | 0, _ => False
  | k + 1, x55l41 => checkl41b pa_Frames K x55l41 (checkl41 pa_Frames K k)
def checkj30 (pa_Frames : List (Int × Int × Int)) (K : Int → Prop) (x50j30 : Bool) : Prop :=
  ((x50j30) = true → K 3) ∧ ((x50j30) = false → (0 : Int) ≤ 1 ∧ 1 ≤ (pa_Frames.length : Int) ∧ (pa_Frames.length : Int) ≤ (pa_Frames.length : Int) ∧ ∃ k, checkl41 pa_Frames K k 0)
def checkj4 (pa_Ease_Kind : Int) (pa_Ease_Curve_0 : Int) (pa_Ease_Curve_1 : Int) (pa_Ease_Curve_2 : Int) (pa_Ease_Curve_3 : Int) (pa_Ease_N : Int) (pa_Frames : List (Int × Int × Int)) (K : Int → Prop) (x21j4 : Bool) : Prop :=
  ((x21j4) = true → K 1) ∧ ((x21j4) = false → ((!(mayB (pa_Ease_Kind, (pa_Ease_Curve_0, pa_Ease_Curve_1, pa_Ease_Curve_2, pa_Ease_Curve_3), pa_Ease_N))) = true → K 3) ∧ ((!(mayB (pa_Ease_Kind, (pa_Ease_Curve_0, pa_Ease_Curve_1, pa_Ease_Curve_2, pa_Ease_Curve_3), pa_Ease_N))) = false → ((decide ((pa_Frames.length : Int) > 10)) = true → K 2) ∧ ((decide ((pa_Frames.length : Int) > 10)) = false → ((decide ((pa_Frames.length : Int) < 2)) = true → checkj30 pa_Frames K true) ∧ ((decide ((pa_Frames.length : Int) < 2)) = false → ∃ e6 : Int × Int × Int, (0 : Int) ≤ 0 ∧ pa_Frames[Int.toNat 0]? = some e6 ∧ (((e6.1 != 0)) = true → checkj30 pa_Frames K true) ∧ (((e6.1 != 0)) = false → ∃ e7 : Int × Int × Int, (0 : Int) ≤ IntKind.wrap .i64 ((pa_Frames.length : Int) - 1) ∧ pa_Frames[Int.toNat (IntKind.wrap .i64 ((pa_Frames.length : Int) - 1))]? = some e7 ∧ checkj30 pa_Frames K (e7.1 != 1000))))))
def checkF (pa_From : Int) (pa_Length : Int) (pa_Times : Int) (pa_Ease_Kind : Int) (pa_Ease_Curve_0 : Int) (pa_Ease_Curve_1 : Int) (pa_Ease_Curve_2 : Int) (pa_Ease_Curve_3 : Int) (pa_Ease_N : Int) (pa_Frames : List (Int × Int × Int)) (K : Int → Prop) : Prop :=
  ((!(inB pa_From 0 100000000)) = true → checkj4 pa_Ease_Kind pa_Ease_Curve_0 pa_Ease_Curve_1 pa_Ease_Curve_2 pa_Ease_Curve_3 pa_Ease_N pa_Frames K true) ∧ ((!(inB pa_From 0 100000000)) = false → ((!(inB pa_Length 1 100000000)) = true → checkj4 pa_Ease_Kind pa_Ease_Curve_0 pa_Ease_Curve_1 pa_Ease_Curve_2 pa_Ease_Curve_3 pa_Ease_N pa_Frames K true) ∧ ((!(inB pa_Length 1 100000000)) = false → checkj4 pa_Ease_Kind pa_Ease_Curve_0 pa_Ease_Curve_1 pa_Ease_Curve_2 pa_Ease_Curve_3 pa_Ease_N pa_Frames K (!(inB pa_Times 1 1000))))
set_option maxHeartbeats 4000000 in
set_option maxRecDepth 100000 in
set_option linter.unusedVariables false in
theorem check_ok {g : Ghost} (pa_From : Int) (pa_Length : Int) (pa_Times : Int) (pa_Turn : Bool) (pa_Stays : Bool) (pa_Ease_Kind : Int) (pa_Ease_Curve_0 : Int) (pa_Ease_Curve_1 : Int) (pa_Ease_Curve_2 : Int) (pa_Ease_Curve_3 : Int) (pa_Ease_N : Int) {apa_Frames : Option Addr} {cpa_Frames : Nat} (pa_Frames : List (Int × Int × Int)) (hRpa_Frames : Rep g (.slice (.pair (.int .i64) (.pair (.int .i64) (.int .i64)))) [.slice apa_Frames pa_Frames.length cpa_Frames] pa_Frames) (K : Int → Prop)
    (hF : checkF pa_From pa_Length pa_Times pa_Ease_Kind pa_Ease_Curve_0 pa_Ease_Curve_1 pa_Ease_Curve_2 pa_Ease_Curve_3 pa_Ease_N pa_Frames K) : CallsK Try.prog 21 #[.agg #[.int .i64 pa_From, .int .i64 pa_Length, .int .i64 pa_Times, .bool pa_Turn, .bool pa_Stays, .int .i64 pa_Ease_Kind, .int .i64 pa_Ease_Curve_0, .int .i64 pa_Ease_Curve_1, .int .i64 pa_Ease_Curve_2, .int .i64 pa_Ease_Curve_3, .int .i64 pa_Ease_N, .slice apa_Frames pa_Frames.length cpa_Frames]] g (fun v => ∃ r0 : Int, v = .int .i64 r0 ∧ K r0) := by
  refine CallsK.enter 70 [(0, .agg #[.int .i64 pa_From, .int .i64 pa_Length, .int .i64 pa_Times, .bool pa_Turn, .bool pa_Stays, .int .i64 pa_Ease_Kind, .int .i64 pa_Ease_Curve_0, .int .i64 pa_Ease_Curve_1, .int .i64 pa_Ease_Curve_2, .int .i64 pa_Ease_Curve_3, .int .i64 pa_Ease_N, .slice apa_Frames pa_Frames.length cpa_Frames])] Try.func21 rfl (by kernel_rfl) (by kernel_rfl) (by kernel_rfl) fun w0 => ?_
  refine Ok.seq ?_
  refine Ok.region ?_
  refine Ok.op rfl (OpOk.box (v := .agg #[.int .i64 pa_From, .int .i64 pa_Length, .int .i64 pa_Times, .bool pa_Turn, .bool pa_Stays, .int .i64 pa_Ease_Kind, .int .i64 pa_Ease_Curve_0, .int .i64 pa_Ease_Curve_1, .int .i64 pa_Ease_Curve_2, .int .i64 pa_Ease_Curve_3, .int .i64 pa_Ease_N, .slice apa_Frames pa_Frames.length cpa_Frames]) (cs := #[.int .i64 pa_From, .int .i64 pa_Length, .int .i64 pa_Times, .bool pa_Turn, .bool pa_Stays, .int .i64 pa_Ease_Kind, .int .i64 pa_Ease_Curve_0, .int .i64 pa_Ease_Curve_1, .int .i64 pa_Ease_Curve_2, .int .i64 pa_Ease_Curve_3, .int .i64 pa_Ease_N, .slice apa_Frames pa_Frames.length cpa_Frames]) rfl (by kernel_rfl) rfl fun b1 => ?_)
  refine Ok.batch 1 [(1, .pointer (some ⟨b1, 0, none⟩))] (by kernel_rfl) ?_
  refine Ok.nil ?_
  refine Ok.thenN ?_
  refine Ok.seq ?_
  refine Ok.cut (fun a W => ∃ (x21j4 : Bool), StA 70 [(1, .pointer (some ⟨b1, 0, none⟩)), (21, .bool x21j4)] a ∧ StW w0 [.blk b1 (.cells #[.int .i64 pa_From, .int .i64 pa_Length, .int .i64 pa_Times, .bool pa_Turn, .bool pa_Stays, .int .i64 pa_Ease_Kind, .int .i64 pa_Ease_Curve_0, .int .i64 pa_Ease_Curve_1, .int .i64 pa_Ease_Curve_2, .int .i64 pa_Ease_Curve_3, .int .i64 pa_Ease_N, .slice apa_Frames pa_Frames.length cpa_Frames] 40)] g W ∧ checkj4 pa_Ease_Kind pa_Ease_Curve_0 pa_Ease_Curve_1 pa_Ease_Curve_2 pa_Ease_Curve_3 pa_Ease_N pa_Frames K x21j4) ?_ ?_
  ·
    refine Ok.region ?_
    refine Ok.batch 1 [(1, .pointer (some ⟨b1, 0, none⟩)), (6, .pointer (some ⟨b1, 0, none⟩))] (by kernel_rfl) ?_
    refine Ok.op rfl (OpOk.step (v := .int .i64 pa_From) (Yields.load 0 rfl rfl Try.underlying3 rfl (by kernel_rfl)) rfl rfl ?_)
    refine Ok.op rfl (OpOk.call (v := .bool (inB pa_From 0 100000000)) (enters (by kernel_rfl) (fun _ => by kernel_rfl)) (in_c pa_From 0 100000000) rfl rfl ?_)
    refine Ok.batch 2 [(1, .pointer (some ⟨b1, 0, none⟩)), (10, .bool (!(inB pa_From 0 100000000)))] (by kernel_rfl) ?_
    refine Ok.boolAt 10 (!(inB pa_From 0 100000000)) rfl (fun hc => ?_) (fun hc => ?_)
    · replace hF := hF.1 hc
      refine Ok.batch 11 [(1, .pointer (some ⟨b1, 0, none⟩)), (21, .bool true)] (by kernel_rfl) ?_
      refine Ok.nil ?_
      refine Ok.thenN ?_
      exact fun a W hA hW => ⟨true, hA.sub (by kernel_rfl), hW, hF⟩
    · replace hF := hF.2 hc
      refine Ok.batch 1 [(1, .pointer (some ⟨b1, 0, none⟩)), (10, .bool false), (11, .pointer (some ⟨b1, 1, none⟩))] (by kernel_rfl) ?_
      refine Ok.opYes (j := 4) (d := 10) (want := false) (b := false) rfl (by kernel_rfl) (by kernel_rfl) rfl (OpOk.step (v := .int .i64 pa_Length) (Yields.load 0 rfl rfl Try.underlying3 rfl (by kernel_rfl)) rfl rfl ?_)
      refine Ok.opYes (j := 4) (d := 10) (want := false) (b := false) rfl (by kernel_rfl) (by kernel_rfl) rfl (OpOk.call (v := .bool (inB pa_Length 1 100000000)) (enters (by kernel_rfl) (fun _ => by kernel_rfl)) (in_c pa_Length 1 100000000) rfl rfl ?_)
      refine Ok.batch 3 [(1, .pointer (some ⟨b1, 0, none⟩)), (16, .bool (!(inB pa_Length 1 100000000)))] (by kernel_rfl) ?_
      refine Ok.boolAt 16 (!(inB pa_Length 1 100000000)) rfl (fun hc => ?_) (fun hc => ?_)
      · replace hF := hF.1 hc
        refine Ok.batch 5 [(1, .pointer (some ⟨b1, 0, none⟩)), (21, .bool true)] (by kernel_rfl) ?_
        refine Ok.nil ?_
        refine Ok.thenN ?_
        exact fun a W hA hW => ⟨true, hA.sub (by kernel_rfl), hW, hF⟩
      · replace hF := hF.2 hc
        refine Ok.batch 1 [(1, .pointer (some ⟨b1, 0, none⟩)), (16, .bool false), (17, .pointer (some ⟨b1, 2, none⟩))] (by kernel_rfl) ?_
        refine Ok.opYes (j := 10) (d := 16) (want := false) (b := false) rfl (by kernel_rfl) (by kernel_rfl) rfl (OpOk.step (v := .int .i64 pa_Times) (Yields.load 0 rfl rfl Try.underlying3 rfl (by kernel_rfl)) rfl rfl ?_)
        refine Ok.opYes (j := 10) (d := 16) (want := false) (b := false) rfl (by kernel_rfl) (by kernel_rfl) rfl (OpOk.call (v := .bool (inB pa_Times 1 1000)) (enters (by kernel_rfl) (fun _ => by kernel_rfl)) (in_c pa_Times 1 1000) rfl rfl ?_)
        refine Ok.batch 2 [(1, .pointer (some ⟨b1, 0, none⟩)), (21, .bool (!(inB pa_Times 1 1000)))] (by kernel_rfl) ?_
        refine Ok.nil ?_
        refine Ok.thenN ?_
        exact fun a W hA hW => ⟨(!(inB pa_Times 1 1000)), hA.sub (by kernel_rfl), hW, hF⟩
  ·
    rintro a W ⟨x21j4, hA, hW, hF⟩
    refine (?_ : Ok _ _ _ _ _ _) a W hA hW
    clear hA hW
    refine Ok.cond (b := x21j4) rfl (fun hc => ?_) (fun hc => ?_)
    · replace hF := hF.1 hc
      refine Ok.seq ?_
      refine Ok.region ?_
      refine Ok.batch 1 [(2, .int .i64 1)] (by kernel_rfl) ?_
      refine Ok.nil ?_
      refine Ok.thenN ?_
      refine Ok.ret ?_
      refine Ok.thenR ?_
      exact Ok.res1 (.inl rfl) rfl (.tmp rfl) ⟨1, rfl, hF⟩
    · replace hF := hF.2 hc
      refine Ok.skip ?_
      refine Ok.thenN ?_
      refine Ok.seq ?_
      refine Ok.seq ?_
      refine Ok.region ?_
      refine Ok.batch 1 [(1, .pointer (some ⟨b1, 0, none⟩)), (22, .pointer (some ⟨b1, 5, none⟩))] (by kernel_rfl) ?_
      refine Ok.op rfl (OpOk.step (v := .agg #[.int .i64 pa_Ease_Kind, .int .i64 pa_Ease_Curve_0, .int .i64 pa_Ease_Curve_1, .int .i64 pa_Ease_Curve_2, .int .i64 pa_Ease_Curve_3, .int .i64 pa_Ease_N]) (Yields.loadAgg 0 6 #[.int .i64 pa_Ease_Kind, .int .i64 pa_Ease_Curve_0, .int .i64 pa_Ease_Curve_1, .int .i64 pa_Ease_Curve_2, .int .i64 pa_Ease_Curve_3, .int .i64 pa_Ease_N] rfl rfl Try.underlying25 rfl (by kernel_rfl) (by kernel_rfl) (by kernel_rfl)) rfl rfl ?_)
      refine Ok.op rfl (OpOk.call (v := .bool (mayB (pa_Ease_Kind, (pa_Ease_Curve_0, pa_Ease_Curve_1, pa_Ease_Curve_2, pa_Ease_Curve_3), pa_Ease_N))) (enters (by kernel_rfl) (fun _ => by kernel_rfl)) (easing_c (pa_Ease_Kind, (pa_Ease_Curve_0, pa_Ease_Curve_1, pa_Ease_Curve_2, pa_Ease_Curve_3), pa_Ease_N)) rfl rfl ?_)
      refine Ok.batch 1 [(1, .pointer (some ⟨b1, 0, none⟩)), (25, .bool (!(mayB (pa_Ease_Kind, (pa_Ease_Curve_0, pa_Ease_Curve_1, pa_Ease_Curve_2, pa_Ease_Curve_3), pa_Ease_N))))] (by kernel_rfl) ?_
      refine Ok.nil ?_
      refine Ok.thenN ?_
      refine Ok.cond (b := !(mayB (pa_Ease_Kind, (pa_Ease_Curve_0, pa_Ease_Curve_1, pa_Ease_Curve_2, pa_Ease_Curve_3), pa_Ease_N))) rfl (fun hc => ?_) (fun hc => ?_)
      · replace hF := hF.1 hc
        refine Ok.seq ?_
        refine Ok.region ?_
        refine Ok.batch 1 [(2, .int .i64 3)] (by kernel_rfl) ?_
        refine Ok.nil ?_
        refine Ok.thenN ?_
        refine Ok.ret ?_
        refine Ok.thenR ?_
        exact Ok.res1 (.inl rfl) rfl (.tmp rfl) ⟨3, rfl, hF⟩
      · replace hF := hF.2 hc
        refine Ok.skip ?_
        refine Ok.thenN ?_
        refine Ok.seq ?_
        refine Ok.region ?_
        refine Ok.batch 1 [(1, .pointer (some ⟨b1, 0, none⟩)), (26, .pointer (some ⟨b1, 11, none⟩))] (by kernel_rfl) ?_
        refine Ok.op rfl (OpOk.step (v := .slice apa_Frames pa_Frames.length cpa_Frames) (Yields.load 0 rfl rfl Try.underlying38 rfl (by kernel_rfl)) rfl rfl ?_)
        refine Ok.batch 2 [(1, .pointer (some ⟨b1, 0, none⟩)), (3, .int .i64 (pa_Frames.length : Int))] (by kernel_rfl) ?_
        refine Ok.nil ?_
        refine Ok.thenN ?_
        refine Ok.seq ?_
        refine Ok.seq ?_
        refine Ok.region ?_
        refine Ok.batch 2 [(1, .pointer (some ⟨b1, 0, none⟩)), (3, .int .i64 (pa_Frames.length : Int)), (30, .bool (decide ((pa_Frames.length : Int) > 10)))] (by kernel_rfl) ?_
        refine Ok.nil ?_
        refine Ok.thenN ?_
        refine Ok.cond (b := decide ((pa_Frames.length : Int) > 10)) rfl (fun hc => ?_) (fun hc => ?_)
        · replace hF := hF.1 hc
          refine Ok.seq ?_
          refine Ok.region ?_
          refine Ok.batch 1 [(2, .int .i64 2)] (by kernel_rfl) ?_
          refine Ok.nil ?_
          refine Ok.thenN ?_
          refine Ok.ret ?_
          refine Ok.thenR ?_
          exact Ok.res1 (.inl rfl) rfl (.tmp rfl) ⟨2, rfl, hF⟩
        · replace hF := hF.2 hc
          refine Ok.skip ?_
          refine Ok.thenN ?_
          refine Ok.seq ?_
          refine Ok.cut (fun a W => ∃ (x50j30 : Bool), StA 70 [(1, .pointer (some ⟨b1, 0, none⟩)), (50, .bool x50j30)] a ∧ StW w0 [.blk b1 (.cells #[.int .i64 pa_From, .int .i64 pa_Length, .int .i64 pa_Times, .bool pa_Turn, .bool pa_Stays, .int .i64 pa_Ease_Kind, .int .i64 pa_Ease_Curve_0, .int .i64 pa_Ease_Curve_1, .int .i64 pa_Ease_Curve_2, .int .i64 pa_Ease_Curve_3, .int .i64 pa_Ease_N, .slice apa_Frames pa_Frames.length cpa_Frames] 40)] g W ∧ checkj30 pa_Frames K x50j30) ?_ ?_
          ·
            refine Ok.region ?_
            refine Ok.batch 3 [(1, .pointer (some ⟨b1, 0, none⟩)), (3, .int .i64 (pa_Frames.length : Int)), (33, .bool (decide ((pa_Frames.length : Int) < 2)))] (by kernel_rfl) ?_
            refine Ok.boolAt 33 (decide ((pa_Frames.length : Int) < 2)) rfl (fun hc => ?_) (fun hc => ?_)
            · replace hF := hF.1 hc
              refine Ok.batch 17 [(1, .pointer (some ⟨b1, 0, none⟩)), (50, .bool true)] (by kernel_rfl) ?_
              refine Ok.nil ?_
              refine Ok.thenN ?_
              exact fun a W hA hW => ⟨true, hA.sub (by kernel_rfl), hW, hF⟩
            · replace hF := hF.2 hc
              refine Ok.batch 1 [(1, .pointer (some ⟨b1, 0, none⟩)), (3, .int .i64 (pa_Frames.length : Int)), (33, .bool false), (34, .pointer (some ⟨b1, 11, none⟩))] (by kernel_rfl) ?_
              refine Ok.opYes (j := 2) (d := 33) (want := false) (b := false) rfl (by kernel_rfl) (by kernel_rfl) rfl (OpOk.step (v := .slice apa_Frames pa_Frames.length cpa_Frames) (Yields.load 0 rfl rfl Try.underlying38 rfl (by kernel_rfl)) rfl rfl ?_)
              obtain ⟨e6, h06, he6, hF⟩ := hF
              refine Ok.opYes (j := 2) (d := 33) (want := false) (b := false) rfl (by kernel_rfl) (by kernel_rfl) rfl (OpOk.indexRo (e := .pair (.int .i64) (.pair (.int .i64) (.int .i64))) (i := 0) (el := e6) rfl rfl Try.underlying38 (by kernel_rfl) hRpa_Frames h06 he6 rfl fun q6 o6 cs6 _ hat6 hr6 => ?_)
              obtain ⟨_, _, rfl, ⟨rfl, _⟩, ⟨_, _, rfl, ⟨rfl, _⟩, ⟨rfl, _⟩⟩⟩ := hr6
              replace hat6 : At g q6 o6 [.int .i64 e6.1, .int .i64 e6.2.1, .int .i64 e6.2.2] := hat6
              refine Ok.batch 1 [(1, .pointer (some ⟨b1, 0, none⟩)), (3, .int .i64 (pa_Frames.length : Int)), (33, .bool false), (37, .pointer (some ⟨q6, o6, none⟩))] (by kernel_rfl) ?_
              refine Ok.opYes (j := 2) (d := 33) (want := false) (b := false) rfl (by kernel_rfl) (by kernel_rfl) rfl (OpOk.step (v := .int .i64 e6.1) (Yields.loadRo 0 hat6 (by kernel_rfl) Try.underlying3 rfl (by kernel_rfl)) rfl rfl ?_)
              refine Ok.batch 3 [(1, .pointer (some ⟨b1, 0, none⟩)), (3, .int .i64 (pa_Frames.length : Int)), (41, .bool (e6.1 != 0))] (by kernel_rfl) ?_
              refine Ok.boolAt 41 ((e6.1 != 0)) rfl (fun hc => ?_) (fun hc => ?_)
              · replace hF := hF.1 hc
                refine Ok.batch 9 [(1, .pointer (some ⟨b1, 0, none⟩)), (50, .bool true)] (by kernel_rfl) ?_
                refine Ok.nil ?_
                refine Ok.thenN ?_
                exact fun a W hA hW => ⟨true, hA.sub (by kernel_rfl), hW, hF⟩
              · replace hF := hF.2 hc
                refine Ok.batch 1 [(1, .pointer (some ⟨b1, 0, none⟩)), (3, .int .i64 (pa_Frames.length : Int)), (41, .bool false), (42, .pointer (some ⟨b1, 11, none⟩))] (by kernel_rfl) ?_
                refine Ok.opYes (j := 10) (d := 41) (want := false) (b := false) rfl (by kernel_rfl) (by kernel_rfl) rfl (OpOk.step (v := .slice apa_Frames pa_Frames.length cpa_Frames) (Yields.load 0 rfl rfl Try.underlying38 rfl (by kernel_rfl)) rfl rfl ?_)
                refine Ok.batch 2 [(1, .pointer (some ⟨b1, 0, none⟩)), (41, .bool false), (43, .slice apa_Frames pa_Frames.length cpa_Frames), (45, .int .i64 (IntKind.wrap .i64 ((pa_Frames.length : Int) - 1)))] (by kernel_rfl) ?_
                obtain ⟨e7, h07, he7, hF⟩ := hF
                refine Ok.opYes (j := 10) (d := 41) (want := false) (b := false) rfl (by kernel_rfl) (by kernel_rfl) rfl (OpOk.indexRo (e := .pair (.int .i64) (.pair (.int .i64) (.int .i64))) (i := IntKind.wrap .i64 ((pa_Frames.length : Int) - 1)) (el := e7) rfl rfl Try.underlying38 (by kernel_rfl) hRpa_Frames h07 he7 rfl fun q7 o7 cs7 _ hat7 hr7 => ?_)
                obtain ⟨_, _, rfl, ⟨rfl, _⟩, ⟨_, _, rfl, ⟨rfl, _⟩, ⟨rfl, _⟩⟩⟩ := hr7
                replace hat7 : At g q7 o7 [.int .i64 e7.1, .int .i64 e7.2.1, .int .i64 e7.2.2] := hat7
                refine Ok.batch 1 [(1, .pointer (some ⟨b1, 0, none⟩)), (41, .bool false), (47, .pointer (some ⟨q7, o7, none⟩))] (by kernel_rfl) ?_
                refine Ok.opYes (j := 10) (d := 41) (want := false) (b := false) rfl (by kernel_rfl) (by kernel_rfl) rfl (OpOk.step (v := .int .i64 e7.1) (Yields.loadRo 0 hat7 (by kernel_rfl) Try.underlying3 rfl (by kernel_rfl)) rfl rfl ?_)
                refine Ok.batch 2 [(1, .pointer (some ⟨b1, 0, none⟩)), (50, .bool (e7.1 != 1000))] (by kernel_rfl) ?_
                refine Ok.nil ?_
                refine Ok.thenN ?_
                exact fun a W hA hW => ⟨(e7.1 != 1000), hA.sub (by kernel_rfl), hW, hF⟩
          ·
            rintro a W ⟨x50j30, hA, hW, hF⟩
            refine (?_ : Ok _ _ _ _ _ _) a W hA hW
            clear hA hW
            refine Ok.cond (b := x50j30) rfl (fun hc => ?_) (fun hc => ?_)
            · replace hF := hF.1 hc
              refine Ok.seq ?_
              refine Ok.region ?_
              refine Ok.batch 1 [(2, .int .i64 3)] (by kernel_rfl) ?_
              refine Ok.nil ?_
              refine Ok.thenN ?_
              refine Ok.ret ?_
              refine Ok.thenR ?_
              exact Ok.res1 (.inl rfl) rfl (.tmp rfl) ⟨3, rfl, hF⟩
            · replace hF := hF.2 hc
              refine Ok.skip ?_
              refine Ok.thenN ?_
              refine Ok.seq ?_
              refine Ok.seq ?_
              refine Ok.region ?_
              refine Ok.batch 1 [(1, .pointer (some ⟨b1, 0, none⟩)), (51, .pointer (some ⟨b1, 11, none⟩))] (by kernel_rfl) ?_
              refine Ok.op rfl (OpOk.step (v := .slice apa_Frames pa_Frames.length cpa_Frames) (Yields.load 0 rfl rfl Try.underlying38 rfl (by kernel_rfl)) rfl rfl ?_)
              obtain ⟨h02, h12, h22, hF⟩ := hF
              refine Ok.op rfl (OpOk.sliceRo (e := .pair (.int .i64) (.pair (.int .i64) (.int .i64))) (l := 1) (h := (pa_Frames.length : Int)) rfl Try.underlying38 (by kernel_rfl) (.inl ⟨_, _, rfl, rfl⟩) (.inr ⟨rfl, rfl⟩) hRpa_Frames h02 h12 h22 rfl (pa_Frames.drop (Int.toNat 1)) (by simp) fun a2 c2 hR2 => ?_)
              refine Ok.batch 2 [(1, .pointer (some ⟨b1, 0, none⟩)), (53, .slice a2 (pa_Frames.drop (Int.toNat 1)).length c2), (54, .int .i64 ((pa_Frames.drop (Int.toNat 1)).length : Int)), (55, .int .i64 0)] (by kernel_rfl) ?_
              refine Ok.nil ?_
              refine Ok.thenN ?_
              refine Ok.block ?_
              obtain ⟨k, hF⟩ := hF
              refine Ok.loop (fun k a W => ∃ (x55l41 : Int), StA 70 [(1, .pointer (some ⟨b1, 0, none⟩)), (53, .slice a2 (pa_Frames.drop (Int.toNat 1)).length c2), (54, .int .i64 ((pa_Frames.drop (Int.toNat 1)).length : Int)), (55, .int .i64 x55l41)] a ∧ StW w0 [.blk b1 (.cells #[.int .i64 pa_From, .int .i64 pa_Length, .int .i64 pa_Times, .bool pa_Turn, .bool pa_Stays, .int .i64 pa_Ease_Kind, .int .i64 pa_Ease_Curve_0, .int .i64 pa_Ease_Curve_1, .int .i64 pa_Ease_Curve_2, .int .i64 pa_Ease_Curve_3, .int .i64 pa_Ease_N, .slice apa_Frames pa_Frames.length cpa_Frames] 40)] g W ∧ checkl41 pa_Frames K k x55l41) k ?_ ?_
              ·
                exact fun a W hA hW => ⟨0, hA.sub (by kernel_rfl), hW, hF⟩
              ·
                rintro k41 a W ⟨x55l41, hA, hW, hF⟩
                cases k41 with
                | zero => exact (hF : False).elim
                | succ k41 =>
                  refine (?_ : Ok _ _ _ _ _ _) a W hA hW
                  clear hA hW
                  refine Ok.seq ?_
                  refine Ok.region ?_
                  refine Ok.batch 1 [(1, .pointer (some ⟨b1, 0, none⟩)), (53, .slice a2 (pa_Frames.drop (Int.toNat 1)).length c2), (54, .int .i64 ((pa_Frames.drop (Int.toNat 1)).length : Int)), (55, .int .i64 x55l41), (56, .bool (decide (x55l41 < ((pa_Frames.drop (Int.toNat 1)).length : Int))))] (by kernel_rfl) ?_
                  refine Ok.nil ?_
                  refine Ok.thenN ?_
                  refine Ok.seq ?_
                  refine Ok.cond (b := decide (x55l41 < ((pa_Frames.drop (Int.toNat 1)).length : Int))) rfl (fun hc => ?_) (fun hc => ?_)
                  · replace hF := hF.1 hc
                    refine Ok.skip ?_
                    refine Ok.thenN ?_
                    refine Ok.seq ?_
                    refine Ok.block ?_
                    refine Ok.seq ?_
                    refine Ok.region ?_
                    refine Ok.batch 1 [(1, .pointer (some ⟨b1, 0, none⟩)), (53, .slice a2 (pa_Frames.drop (Int.toNat 1)).length c2), (54, .int .i64 ((pa_Frames.drop (Int.toNat 1)).length : Int)), (55, .int .i64 x55l41), (57, .int .i64 x55l41)] (by kernel_rfl) ?_
                    obtain ⟨e3, h03, he3, hF⟩ := hF
                    refine Ok.op rfl (OpOk.indexRo (e := .pair (.int .i64) (.pair (.int .i64) (.int .i64))) (i := x55l41) (el := e3) rfl rfl Try.underlying38 (by kernel_rfl) hR2 h03 he3 rfl fun q3 o3 cs3 _ hat3 hr3 => ?_)
                    obtain ⟨_, _, rfl, ⟨rfl, _⟩, ⟨_, _, rfl, ⟨rfl, _⟩, ⟨rfl, _⟩⟩⟩ := hr3
                    replace hat3 : At g q3 o3 [.int .i64 e3.1, .int .i64 e3.2.1, .int .i64 e3.2.2] := hat3
                    refine Ok.op rfl (OpOk.step (v := .agg #[.int .i64 e3.1, .int .i64 e3.2.1, .int .i64 e3.2.2]) (Yields.loadAggRo 0 3 #[.int .i64 e3.1, .int .i64 e3.2.1, .int .i64 e3.2.2] hat3 (by kernel_rfl) Try.underlying78 rfl (by kernel_rfl) (by kernel_rfl) (by kernel_rfl)) rfl rfl ?_)
                    refine Ok.op rfl (OpOk.alloc (z := .agg #[.int .i64 0, .int .i64 0, .int .i64 0]) (cs := #[.int .i64 0, .int .i64 0, .int .i64 0]) (by kernel_rfl) (by kernel_rfl) rfl fun b4 => ?_)
                    refine Ok.batch 1 [(1, .pointer (some ⟨b1, 0, none⟩)), (4, .int .i64 x55l41), (5, .pointer (some ⟨b4, 0, none⟩)), (53, .slice a2 (pa_Frames.drop (Int.toNat 1)).length c2), (54, .int .i64 ((pa_Frames.drop (Int.toNat 1)).length : Int)), (55, .int .i64 x55l41), (59, .agg #[.int .i64 e3.1, .int .i64 e3.2.1, .int .i64 e3.2.2])] (by kernel_rfl) ?_
                    refine Ok.op rfl (OpOk.store (k := 3) (v := .agg #[.int .i64 e3.1, .int .i64 e3.2.1, .int .i64 e3.2.2]) (H' := [.blk b4 (.cells #[.int .i64 e3.1, .int .i64 e3.2.1, .int .i64 e3.2.2] 78), .blk b1 (.cells #[.int .i64 pa_From, .int .i64 pa_Length, .int .i64 pa_Times, .bool pa_Turn, .bool pa_Stays, .int .i64 pa_Ease_Kind, .int .i64 pa_Ease_Curve_0, .int .i64 pa_Ease_Curve_1, .int .i64 pa_Ease_Curve_2, .int .i64 pa_Ease_Curve_3, .int .i64 pa_Ease_N, .slice apa_Frames pa_Frames.length cpa_Frames] 40)]) 0 rfl rfl rfl (by kernel_rfl) (by kernel_rfl) (by kernel_rfl) (by kernel_rfl) (by kernel_rfl) ?_)
                    refine Ok.nil ?_
                    refine Ok.thenN ?_
                    refine Ok.seq ?_
                    refine Ok.quiet' (by kernel_rfl) (by kernel_rfl) ?_
                    refine OkQ.batch 1 [(1, .pointer (some ⟨b1, 0, none⟩)), (4, .int .i64 x55l41), (53, .slice a2 (pa_Frames.drop (Int.toNat 1)).length c2), (54, .int .i64 ((pa_Frames.drop (Int.toNat 1)).length : Int)), (55, .int .i64 x55l41), (60, .pointer (some ⟨b4, 0, none⟩))] (by kernel_rfl) ?_
                    refine OkQ.op rfl (OpQ.step (v := .int .i64 e3.1) (Yields.load 0 rfl rfl Try.underlying3 rfl (by kernel_rfl)) rfl rfl ?_)
                    refine OkQ.batch 1 [(1, .pointer (some ⟨b1, 0, none⟩)), (4, .int .i64 x55l41), (53, .slice a2 (pa_Frames.drop (Int.toNat 1)).length c2), (54, .int .i64 ((pa_Frames.drop (Int.toNat 1)).length : Int)), (55, .int .i64 x55l41), (61, .int .i64 e3.1), (62, .pointer (some ⟨b1, 11, none⟩))] (by kernel_rfl) ?_
                    refine OkQ.op rfl (OpQ.step (v := .slice apa_Frames pa_Frames.length cpa_Frames) (Yields.load 1 rfl rfl Try.underlying38 rfl (by kernel_rfl)) rfl rfl ?_)
                    refine OkQ.batch 1 [(1, .pointer (some ⟨b1, 0, none⟩)), (53, .slice a2 (pa_Frames.drop (Int.toNat 1)).length c2), (54, .int .i64 ((pa_Frames.drop (Int.toNat 1)).length : Int)), (55, .int .i64 x55l41), (61, .int .i64 e3.1), (63, .slice apa_Frames pa_Frames.length cpa_Frames), (64, .int .i64 x55l41)] (by kernel_rfl) ?_
                    obtain ⟨e5, h05, he5, hF⟩ := hF
                    refine OkQ.op rfl (OpQ.indexRo (e := .pair (.int .i64) (.pair (.int .i64) (.int .i64))) (i := x55l41) (el := e5) rfl rfl Try.underlying38 (by kernel_rfl) hRpa_Frames h05 he5 rfl fun q5 o5 cs5 _ hat5 hr5 => ?_)
                    obtain ⟨_, _, rfl, ⟨rfl, _⟩, ⟨_, _, rfl, ⟨rfl, _⟩, ⟨rfl, _⟩⟩⟩ := hr5
                    replace hat5 : At g q5 o5 [.int .i64 e5.1, .int .i64 e5.2.1, .int .i64 e5.2.2] := hat5
                    refine OkQ.batch 1 [(1, .pointer (some ⟨b1, 0, none⟩)), (53, .slice a2 (pa_Frames.drop (Int.toNat 1)).length c2), (54, .int .i64 ((pa_Frames.drop (Int.toNat 1)).length : Int)), (55, .int .i64 x55l41), (61, .int .i64 e3.1), (66, .pointer (some ⟨q5, o5, none⟩))] (by kernel_rfl) ?_
                    refine OkQ.op rfl (OpQ.step (v := .int .i64 e5.1) (Yields.loadRo 0 hat5 (by kernel_rfl) Try.underlying3 rfl (by kernel_rfl)) rfl rfl ?_)
                    refine OkQ.batch 1 [(1, .pointer (some ⟨b1, 0, none⟩)), (53, .slice a2 (pa_Frames.drop (Int.toNat 1)).length c2), (54, .int .i64 ((pa_Frames.drop (Int.toNat 1)).length : Int)), (55, .int .i64 x55l41), (68, .bool (decide (e3.1 ≤ e5.1)))] (by kernel_rfl) ?_
                    refine OkQ.nil ?_
                    refine Ok.thenN ?_
                    refine Ok.cond (b := decide (e3.1 ≤ e5.1)) rfl (fun hc => ?_) (fun hc => ?_)
                    · replace hF := hF.1 hc
                      refine Ok.seq ?_
                      refine Ok.region ?_
                      refine Ok.batch 1 [(2, .int .i64 3)] (by kernel_rfl) ?_
                      refine Ok.nil ?_
                      refine Ok.thenN ?_
                      refine Ok.ret ?_
                      refine Ok.blockR ?_
                      refine Ok.thenR ?_
                      refine Ok.thenR ?_
                      refine Ok.blockR ?_
                      refine Ok.thenR ?_
                      exact Ok.res1 (.inl rfl) rfl (.tmp rfl) ⟨3, rfl, hF⟩
                    · replace hF := hF.2 hc
                      refine Ok.skip ?_
                      refine Ok.blockN ?_
                      refine Ok.thenN ?_
                      refine Ok.region ?_
                      refine Ok.batch 2 [(1, .pointer (some ⟨b1, 0, none⟩)), (53, .slice a2 (pa_Frames.drop (Int.toNat 1)).length c2), (54, .int .i64 ((pa_Frames.drop (Int.toNat 1)).length : Int)), (55, .int .i64 (IntKind.wrap .i64 (x55l41 + 1)))] (by kernel_rfl) ?_
                      refine Ok.nil ?_
                      refine Ok.thenN ?_
                      exact fun a W hA hW => ⟨k41, Nat.lt_succ_self _, (IntKind.wrap .i64 (x55l41 + 1)), hA.sub (by kernel_rfl), hW.sub (.cons _ (.cons_cons _ .slnil)), hF⟩
                  · replace hF := hF.2 hc
                    refine Ok.exit ?_
                    refine Ok.thenE ?_
                    refine Ok.thenE ?_
                    refine Ok.blockHit ?_
                    refine Ok.thenN ?_
                    refine Ok.seq ?_
                    refine Ok.region ?_
                    refine Ok.batch 1 [(2, .int .i64 0)] (by kernel_rfl) ?_
                    refine Ok.nil ?_
                    refine Ok.thenN ?_
                    refine Ok.ret ?_
                    exact Ok.res1 (.inl rfl) rfl (.tmp rfl) ⟨0, rfl, hF⟩
theorem check_loop {l : List (Int × Int × Int)} {K : Int → Prop} (hl : (l.length : Int) ≤ 10) :
    ∀ (n k : Nat), l.length < n + k → k + 1 ≤ l.length → K (if rising (l.drop k) = true then 0 else 3) → checkl41 l K n k := by
  intro n
  induction n with
  | zero => intro k h1 h2; omega
  | succ n ih =>
    intro k h1 h2 hK
    show checkl41b l K k _
    unfold checkl41b
    have e1 : ((k : Int).toNat) = k := by omega
    have e2 : ((1 : Int).toNat) = 1 := rfl
    have hlen : ((l.drop 1).length : Int) = l.length - 1 := by simp; omega
    simp only [e1, e2, hlen]
    refine ⟨fun h => ?_, fun h => ?_⟩
    · have h := of_decide_eq_true h
      obtain ⟨x, hx⟩ := get_some (l := l) (i := k) (by omega)
      obtain ⟨y, hy⟩ := get_some (l := l) (i := k + 1) (by omega)
      have hr := rising_drop hx hy
      refine ⟨y, by omega, by rw [List.getElem?_drop, Nat.add_comm]; exact hy, x, by omega, hx, fun h3 => ?_, fun h3 => ?_⟩
      · have h3 := of_decide_eq_true h3
        rw [hr, show decide (x.1 < y.1) = false from by simp; omega] at hK
        exact hK
      · have h3 := of_decide_eq_false h3
        rw [hr, show decide (x.1 < y.1) = true from by simp; omega, Bool.true_and] at hK
        rw [i64_in _ (by omega), show (k : Int) + 1 = ((k + 1 : Nat) : Int) from by omega]
        exact ih (k + 1) (by omega) (by omega) hK
    · have h := of_decide_eq_false h
      rw [rising_end (by omega), if_pos rfl] at hK
      exact hK
theorem check30 {l : List (Int × Int × Int)} {K : Int → Prop} {x : Bool} (hl : (l.length : Int) ≤ 10) (ht : x = true → K 3) (hf : x = false → 2 ≤ l.length ∧ K (if rising l = true then 0 else 3)) : checkj30 l K x := by
  unfold checkj30
  refine ⟨ht, fun h => ?_⟩
  obtain ⟨h2, h3⟩ := hf h
  exact ⟨by omega, by omega, by omega, l.length + 1, check_loop hl (l.length + 1) 0 (by omega) (by omega) h3⟩
theorem check4 (e : E) (l : List (Int × Int × Int)) (b : Bool) : checkj4 e.1 e.2.1.1 e.2.1.2.1 e.2.1.2.2.1 e.2.1.2.2.2 e.2.2 l (fun r => r = tailI e l b) b := by
  unfold checkj4 tailI
  refine ⟨fun h => by rw [if_pos h], fun h => ⟨fun h1 => ?_, fun h1 => ⟨fun h2 => ?_, fun h2 => ⟨fun h3 => ?_, fun h3 => ?_⟩⟩⟩⟩
  all_goals rw [if_neg (by simp [h])]
  · have h1 : mayB e = false := by simpa using h1
    rw [if_pos h1]
  all_goals
    have h1 : mayB e = true := by simpa using h1
    rw [if_neg (by simp [h1])]
  · rw [if_pos (of_decide_eq_true h2)]
  all_goals
    have h2 := of_decide_eq_false h2
    rw [if_neg h2]
  · rw [if_pos (of_decide_eq_true h3)]
    exact check30 (by omega) (fun _ => rfl) fun h => by cases h
  · have h3 := of_decide_eq_false h3
    rw [if_neg h3]
    obtain ⟨x, hx⟩ := get_some (l := l) (i := 0) (by omega)
    obtain ⟨y, hy⟩ := get_some (l := l) (i := l.length - 1) (by omega)
    refine ⟨x, by omega, hx, fun h4 => ?_, fun h4 => ⟨y, ?_, ?_, ?_⟩⟩
    · rw [if_pos (by rw [head_of hx]; simpa using h4)]
      exact check30 (by omega) (fun _ => rfl) fun h => by cases h
    · rw [i64_in _ (by omega)]; omega
    · rw [i64_in _ (by omega), show ((l.length : Int) - 1).toNat = l.length - 1 from by omega]; exact hy
    · rw [if_neg (by rw [head_of hx]; simpa using h4)]
      refine check30 (by omega) (fun h5 => ?_) fun h5 => ⟨by omega, ?_⟩
      · rw [if_pos (by rw [last_of hy]; simpa using h5)]
      · rw [if_neg (show ¬ ¬ (l.getLastD (0, 0, 0)).1 = 1000 from by rw [last_of hy]; simpa using h5)]
theorem check_F (a : A) : checkF a.1 a.2.1 a.2.2.1 a.2.2.2.2.2.1.1 a.2.2.2.2.2.1.2.1.1 a.2.2.2.2.2.1.2.1.2.1 a.2.2.2.2.2.1.2.1.2.2.1 a.2.2.2.2.2.1.2.1.2.2.2 a.2.2.2.2.2.1.2.2 a.2.2.2.2.2.2 (fun r => r = faultI a) := by
  unfold checkF faultI
  refine ⟨fun h => ?_, fun h => ⟨fun h2 => ?_, fun h2 => ?_⟩⟩
  · have h1 : inB a.1 0 100000000 = false := by simpa using h
    rw [h1]; exact check4 _ _ _
  · have h1 : inB a.1 0 100000000 = true := by simpa using h
    have h2 : inB a.2.1 1 100000000 = false := by simpa using h2
    rw [h1, h2]; exact check4 _ _ _
  · have h1 : inB a.1 0 100000000 = true := by simpa using h
    have h2 : inB a.2.1 1 100000000 = true := by simpa using h2
    rw [h1, h2]; exact check4 _ _ _
set_option linter.unusedVariables false in
theorem check_c {g : Ghost} (xa : Int × Int × Int × Bool × Bool × (Int × (Int × Int × Int × Int) × Int) × List (Int × Int × Int)) {a0 : Option Addr} {c0 : Nat} (hR0 : Rep g (.slice (.pair (.int .i64) (.pair (.int .i64) (.int .i64)))) [.slice a0 xa.2.2.2.2.2.2.length c0] xa.2.2.2.2.2.2) : CallsG Try.prog 21 #[.agg #[.int .i64 xa.1, .int .i64 xa.2.1, .int .i64 xa.2.2.1, .bool xa.2.2.2.1, .bool xa.2.2.2.2.1, .int .i64 xa.2.2.2.2.2.1.1, .int .i64 xa.2.2.2.2.2.1.2.1.1, .int .i64 xa.2.2.2.2.2.1.2.1.2.1, .int .i64 xa.2.2.2.2.2.1.2.1.2.2.1, .int .i64 xa.2.2.2.2.2.1.2.1.2.2.2, .int .i64 xa.2.2.2.2.2.1.2.2, .slice a0 xa.2.2.2.2.2.2.length c0]] g (.int .i64 (faultI xa)) :=
  (check_ok xa.1 xa.2.1 xa.2.2.1 xa.2.2.2.1 xa.2.2.2.2.1 xa.2.2.2.2.2.1.1 xa.2.2.2.2.2.1.2.1.1 xa.2.2.2.2.2.1.2.1.2.1 xa.2.2.2.2.2.1.2.1.2.2.1 xa.2.2.2.2.2.1.2.1.2.2.2 xa.2.2.2.2.2.1.2.2 xa.2.2.2.2.2.2 hR0 _ (check_F xa)).gives (by rintro _ ⟨_, rfl, rfl⟩; rfl)
def faultl41b (pa_Frames : List (Int × Int × Int)) (K : Int → Prop) (x4l41 : Int) (C41 : Int → Prop) : Prop :=
  ((decide (x4l41 < (pa_Frames.length : Int))) = true → ∃ e2 : Int × Int × Int, (0 : Int) ≤ IntKind.wrap .i64 (x4l41 - 1) ∧ pa_Frames[Int.toNat (IntKind.wrap .i64 (x4l41 - 1))]? = some e2 ∧ ∃ e3 : Int × Int × Int, (0 : Int) ≤ x4l41 ∧ pa_Frames[Int.toNat x4l41]? = some e3 ∧ ((decide (e2.1 ≥ e3.1)) = true → K 3) ∧ ((decide (e2.1 ≥ e3.1)) = false → C41 (IntKind.wrap .i64 (x4l41 + 1)))) ∧ ((decide (x4l41 < (pa_Frames.length : Int))) = false → K 0)
def faultl41 (pa_Frames : List (Int × Int × Int)) (K : Int → Prop) : Nat → Int → Prop
  | 0, _ => False
  | k + 1, x4l41 => faultl41b pa_Frames K x4l41 (faultl41 pa_Frames K k)
def faultj30 (pa_Frames : List (Int × Int × Int)) (K : Int → Prop) (x61j30 : Bool) : Prop :=
  ((x61j30) = true → K 3) ∧ ((x61j30) = false → ∃ k, faultl41 pa_Frames K k 1)
def faultj4 (pa_Ease_Kind : Int) (pa_Ease_Curve_0 : Int) (pa_Ease_Curve_1 : Int) (pa_Ease_Curve_2 : Int) (pa_Ease_Curve_3 : Int) (pa_Ease_N : Int) (pa_Frames : List (Int × Int × Int)) (K : Int → Prop) (x32j4 : Bool) : Prop :=
  ((x32j4) = true → K 1) ∧ ((x32j4) = false → ((!(mayB (pa_Ease_Kind, (pa_Ease_Curve_0, pa_Ease_Curve_1, pa_Ease_Curve_2, pa_Ease_Curve_3), pa_Ease_N))) = true → K 3) ∧ ((!(mayB (pa_Ease_Kind, (pa_Ease_Curve_0, pa_Ease_Curve_1, pa_Ease_Curve_2, pa_Ease_Curve_3), pa_Ease_N))) = false → ((decide ((pa_Frames.length : Int) > 10)) = true → K 2) ∧ ((decide ((pa_Frames.length : Int) > 10)) = false → ((decide ((pa_Frames.length : Int) < 2)) = true → faultj30 pa_Frames K true) ∧ ((decide ((pa_Frames.length : Int) < 2)) = false → ∃ e4 : Int × Int × Int, (0 : Int) ≤ 0 ∧ pa_Frames[Int.toNat 0]? = some e4 ∧ (((e4.1 != 0)) = true → faultj30 pa_Frames K true) ∧ (((e4.1 != 0)) = false → ∃ e5 : Int × Int × Int, (0 : Int) ≤ IntKind.wrap .i64 ((pa_Frames.length : Int) - 1) ∧ pa_Frames[Int.toNat (IntKind.wrap .i64 ((pa_Frames.length : Int) - 1))]? = some e5 ∧ faultj30 pa_Frames K (e5.1 != 1000))))))
def faultF (pa_From : Int) (pa_Length : Int) (pa_Times : Int) (pa_Ease_Kind : Int) (pa_Ease_Curve_0 : Int) (pa_Ease_Curve_1 : Int) (pa_Ease_Curve_2 : Int) (pa_Ease_Curve_3 : Int) (pa_Ease_N : Int) (pa_Frames : List (Int × Int × Int)) (K : Int → Prop) : Prop :=
  ((decide (pa_From < 0)) = true → faultj4 pa_Ease_Kind pa_Ease_Curve_0 pa_Ease_Curve_1 pa_Ease_Curve_2 pa_Ease_Curve_3 pa_Ease_N pa_Frames K true) ∧ ((decide (pa_From < 0)) = false → ((decide (pa_From > 100000000)) = true → faultj4 pa_Ease_Kind pa_Ease_Curve_0 pa_Ease_Curve_1 pa_Ease_Curve_2 pa_Ease_Curve_3 pa_Ease_N pa_Frames K true) ∧ ((decide (pa_From > 100000000)) = false → ((decide (pa_Length < 1)) = true → faultj4 pa_Ease_Kind pa_Ease_Curve_0 pa_Ease_Curve_1 pa_Ease_Curve_2 pa_Ease_Curve_3 pa_Ease_N pa_Frames K true) ∧ ((decide (pa_Length < 1)) = false → ((decide (pa_Length > 100000000)) = true → faultj4 pa_Ease_Kind pa_Ease_Curve_0 pa_Ease_Curve_1 pa_Ease_Curve_2 pa_Ease_Curve_3 pa_Ease_N pa_Frames K true) ∧ ((decide (pa_Length > 100000000)) = false → ((decide (pa_Times < 1)) = true → faultj4 pa_Ease_Kind pa_Ease_Curve_0 pa_Ease_Curve_1 pa_Ease_Curve_2 pa_Ease_Curve_3 pa_Ease_N pa_Frames K true) ∧ ((decide (pa_Times < 1)) = false → faultj4 pa_Ease_Kind pa_Ease_Curve_0 pa_Ease_Curve_1 pa_Ease_Curve_2 pa_Ease_Curve_3 pa_Ease_N pa_Frames K (decide (pa_Times > 1000)))))))
set_option maxHeartbeats 4000000 in
set_option maxRecDepth 100000 in
set_option linter.unusedVariables false in
theorem fault_ok {g : Ghost} (pa_From : Int) (pa_Length : Int) (pa_Times : Int) (pa_Turn : Bool) (pa_Stays : Bool) (pa_Ease_Kind : Int) (pa_Ease_Curve_0 : Int) (pa_Ease_Curve_1 : Int) (pa_Ease_Curve_2 : Int) (pa_Ease_Curve_3 : Int) (pa_Ease_N : Int) {apa_Frames : Option Addr} {cpa_Frames : Nat} (pa_Frames : List (Int × Int × Int)) (hRpa_Frames : Rep g (.slice (.pair (.int .i64) (.pair (.int .i64) (.int .i64)))) [.slice apa_Frames pa_Frames.length cpa_Frames] pa_Frames) (K : Int → Prop)
    (hF : faultF pa_From pa_Length pa_Times pa_Ease_Kind pa_Ease_Curve_0 pa_Ease_Curve_1 pa_Ease_Curve_2 pa_Ease_Curve_3 pa_Ease_N pa_Frames K) : CallsK Try.prog 22 #[.agg #[.int .i64 pa_From, .int .i64 pa_Length, .int .i64 pa_Times, .bool pa_Turn, .bool pa_Stays, .int .i64 pa_Ease_Kind, .int .i64 pa_Ease_Curve_0, .int .i64 pa_Ease_Curve_1, .int .i64 pa_Ease_Curve_2, .int .i64 pa_Ease_Curve_3, .int .i64 pa_Ease_N, .slice apa_Frames pa_Frames.length cpa_Frames]] g (fun v => ∃ r0 : Int, v = .int .i64 r0 ∧ K r0) := by
  refine CallsK.enter 81 [(0, .agg #[.int .i64 pa_From, .int .i64 pa_Length, .int .i64 pa_Times, .bool pa_Turn, .bool pa_Stays, .int .i64 pa_Ease_Kind, .int .i64 pa_Ease_Curve_0, .int .i64 pa_Ease_Curve_1, .int .i64 pa_Ease_Curve_2, .int .i64 pa_Ease_Curve_3, .int .i64 pa_Ease_N, .slice apa_Frames pa_Frames.length cpa_Frames])] Try.func22 rfl (by kernel_rfl) (by kernel_rfl) (by kernel_rfl) fun w0 => ?_
  refine Ok.seq ?_
  refine Ok.region ?_
  refine Ok.op rfl (OpOk.box (v := .agg #[.int .i64 pa_From, .int .i64 pa_Length, .int .i64 pa_Times, .bool pa_Turn, .bool pa_Stays, .int .i64 pa_Ease_Kind, .int .i64 pa_Ease_Curve_0, .int .i64 pa_Ease_Curve_1, .int .i64 pa_Ease_Curve_2, .int .i64 pa_Ease_Curve_3, .int .i64 pa_Ease_N, .slice apa_Frames pa_Frames.length cpa_Frames]) (cs := #[.int .i64 pa_From, .int .i64 pa_Length, .int .i64 pa_Times, .bool pa_Turn, .bool pa_Stays, .int .i64 pa_Ease_Kind, .int .i64 pa_Ease_Curve_0, .int .i64 pa_Ease_Curve_1, .int .i64 pa_Ease_Curve_2, .int .i64 pa_Ease_Curve_3, .int .i64 pa_Ease_N, .slice apa_Frames pa_Frames.length cpa_Frames]) rfl (by kernel_rfl) rfl fun b1 => ?_)
  refine Ok.batch 1 [(1, .pointer (some ⟨b1, 0, none⟩))] (by kernel_rfl) ?_
  refine Ok.nil ?_
  refine Ok.thenN ?_
  refine Ok.seq ?_
  refine Ok.cut (fun a W => ∃ (x32j4 : Bool), StA 81 [(1, .pointer (some ⟨b1, 0, none⟩)), (32, .bool x32j4)] a ∧ StW w0 [.blk b1 (.cells #[.int .i64 pa_From, .int .i64 pa_Length, .int .i64 pa_Times, .bool pa_Turn, .bool pa_Stays, .int .i64 pa_Ease_Kind, .int .i64 pa_Ease_Curve_0, .int .i64 pa_Ease_Curve_1, .int .i64 pa_Ease_Curve_2, .int .i64 pa_Ease_Curve_3, .int .i64 pa_Ease_N, .slice apa_Frames pa_Frames.length cpa_Frames] 40)] g W ∧ faultj4 pa_Ease_Kind pa_Ease_Curve_0 pa_Ease_Curve_1 pa_Ease_Curve_2 pa_Ease_Curve_3 pa_Ease_N pa_Frames K x32j4) ?_ ?_
  ·
    refine Ok.region ?_
    refine Ok.batch 1 [(1, .pointer (some ⟨b1, 0, none⟩)), (5, .pointer (some ⟨b1, 0, none⟩))] (by kernel_rfl) ?_
    refine Ok.op rfl (OpOk.step (v := .int .i64 pa_From) (Yields.load 0 rfl rfl Try.underlying3 rfl (by kernel_rfl)) rfl rfl ?_)
    refine Ok.batch 2 [(1, .pointer (some ⟨b1, 0, none⟩)), (8, .bool (decide (pa_From < 0)))] (by kernel_rfl) ?_
    refine Ok.boolAt 8 (decide (pa_From < 0)) rfl (fun hc => ?_) (fun hc => ?_)
    · replace hF := hF.1 hc
      refine Ok.batch 24 [(1, .pointer (some ⟨b1, 0, none⟩)), (32, .bool true)] (by kernel_rfl) ?_
      refine Ok.nil ?_
      refine Ok.thenN ?_
      exact fun a W hA hW => ⟨true, hA.sub (by kernel_rfl), hW, hF⟩
    · replace hF := hF.2 hc
      refine Ok.batch 1 [(1, .pointer (some ⟨b1, 0, none⟩)), (8, .bool false), (9, .pointer (some ⟨b1, 0, none⟩))] (by kernel_rfl) ?_
      refine Ok.opYes (j := 3) (d := 8) (want := false) (b := false) rfl (by kernel_rfl) (by kernel_rfl) rfl (OpOk.step (v := .int .i64 pa_From) (Yields.load 0 rfl rfl Try.underlying3 rfl (by kernel_rfl)) rfl rfl ?_)
      refine Ok.batch 3 [(1, .pointer (some ⟨b1, 0, none⟩)), (13, .bool (decide (pa_From > 100000000)))] (by kernel_rfl) ?_
      refine Ok.boolAt 13 (decide (pa_From > 100000000)) rfl (fun hc => ?_) (fun hc => ?_)
      · replace hF := hF.1 hc
        refine Ok.batch 19 [(1, .pointer (some ⟨b1, 0, none⟩)), (32, .bool true)] (by kernel_rfl) ?_
        refine Ok.nil ?_
        refine Ok.thenN ?_
        exact fun a W hA hW => ⟨true, hA.sub (by kernel_rfl), hW, hF⟩
      · replace hF := hF.2 hc
        refine Ok.batch 1 [(1, .pointer (some ⟨b1, 0, none⟩)), (13, .bool false), (14, .pointer (some ⟨b1, 1, none⟩))] (by kernel_rfl) ?_
        refine Ok.opYes (j := 8) (d := 13) (want := false) (b := false) rfl (by kernel_rfl) (by kernel_rfl) rfl (OpOk.step (v := .int .i64 pa_Length) (Yields.load 0 rfl rfl Try.underlying3 rfl (by kernel_rfl)) rfl rfl ?_)
        refine Ok.batch 3 [(1, .pointer (some ⟨b1, 0, none⟩)), (18, .bool (decide (pa_Length < 1)))] (by kernel_rfl) ?_
        refine Ok.boolAt 18 (decide (pa_Length < 1)) rfl (fun hc => ?_) (fun hc => ?_)
        · replace hF := hF.1 hc
          refine Ok.batch 14 [(1, .pointer (some ⟨b1, 0, none⟩)), (32, .bool true)] (by kernel_rfl) ?_
          refine Ok.nil ?_
          refine Ok.thenN ?_
          exact fun a W hA hW => ⟨true, hA.sub (by kernel_rfl), hW, hF⟩
        · replace hF := hF.2 hc
          refine Ok.batch 1 [(1, .pointer (some ⟨b1, 0, none⟩)), (18, .bool false), (19, .pointer (some ⟨b1, 1, none⟩))] (by kernel_rfl) ?_
          refine Ok.opYes (j := 13) (d := 18) (want := false) (b := false) rfl (by kernel_rfl) (by kernel_rfl) rfl (OpOk.step (v := .int .i64 pa_Length) (Yields.load 0 rfl rfl Try.underlying3 rfl (by kernel_rfl)) rfl rfl ?_)
          refine Ok.batch 3 [(1, .pointer (some ⟨b1, 0, none⟩)), (23, .bool (decide (pa_Length > 100000000)))] (by kernel_rfl) ?_
          refine Ok.boolAt 23 (decide (pa_Length > 100000000)) rfl (fun hc => ?_) (fun hc => ?_)
          · replace hF := hF.1 hc
            refine Ok.batch 9 [(1, .pointer (some ⟨b1, 0, none⟩)), (32, .bool true)] (by kernel_rfl) ?_
            refine Ok.nil ?_
            refine Ok.thenN ?_
            exact fun a W hA hW => ⟨true, hA.sub (by kernel_rfl), hW, hF⟩
          · replace hF := hF.2 hc
            refine Ok.batch 1 [(1, .pointer (some ⟨b1, 0, none⟩)), (23, .bool false), (24, .pointer (some ⟨b1, 2, none⟩))] (by kernel_rfl) ?_
            refine Ok.opYes (j := 18) (d := 23) (want := false) (b := false) rfl (by kernel_rfl) (by kernel_rfl) rfl (OpOk.step (v := .int .i64 pa_Times) (Yields.load 0 rfl rfl Try.underlying3 rfl (by kernel_rfl)) rfl rfl ?_)
            refine Ok.batch 3 [(1, .pointer (some ⟨b1, 0, none⟩)), (28, .bool (decide (pa_Times < 1)))] (by kernel_rfl) ?_
            refine Ok.boolAt 28 (decide (pa_Times < 1)) rfl (fun hc => ?_) (fun hc => ?_)
            · replace hF := hF.1 hc
              refine Ok.batch 4 [(1, .pointer (some ⟨b1, 0, none⟩)), (32, .bool true)] (by kernel_rfl) ?_
              refine Ok.nil ?_
              refine Ok.thenN ?_
              exact fun a W hA hW => ⟨true, hA.sub (by kernel_rfl), hW, hF⟩
            · replace hF := hF.2 hc
              refine Ok.batch 1 [(1, .pointer (some ⟨b1, 0, none⟩)), (28, .bool false), (29, .pointer (some ⟨b1, 2, none⟩))] (by kernel_rfl) ?_
              refine Ok.opYes (j := 23) (d := 28) (want := false) (b := false) rfl (by kernel_rfl) (by kernel_rfl) rfl (OpOk.step (v := .int .i64 pa_Times) (Yields.load 0 rfl rfl Try.underlying3 rfl (by kernel_rfl)) rfl rfl ?_)
              refine Ok.batch 2 [(1, .pointer (some ⟨b1, 0, none⟩)), (32, .bool (decide (pa_Times > 1000)))] (by kernel_rfl) ?_
              refine Ok.nil ?_
              refine Ok.thenN ?_
              exact fun a W hA hW => ⟨(decide (pa_Times > 1000)), hA.sub (by kernel_rfl), hW, hF⟩
  ·
    rintro a W ⟨x32j4, hA, hW, hF⟩
    refine (?_ : Ok _ _ _ _ _ _) a W hA hW
    clear hA hW
    refine Ok.cond (b := x32j4) rfl (fun hc => ?_) (fun hc => ?_)
    · replace hF := hF.1 hc
      refine Ok.seq ?_
      refine Ok.region ?_
      refine Ok.batch 1 [(2, .int .i64 1)] (by kernel_rfl) ?_
      refine Ok.nil ?_
      refine Ok.thenN ?_
      refine Ok.ret ?_
      refine Ok.thenR ?_
      exact Ok.res1 (.inl rfl) rfl (.tmp rfl) ⟨1, rfl, hF⟩
    · replace hF := hF.2 hc
      refine Ok.skip ?_
      refine Ok.thenN ?_
      refine Ok.seq ?_
      refine Ok.seq ?_
      refine Ok.region ?_
      refine Ok.batch 1 [(1, .pointer (some ⟨b1, 0, none⟩)), (33, .pointer (some ⟨b1, 5, none⟩))] (by kernel_rfl) ?_
      refine Ok.op rfl (OpOk.step (v := .agg #[.int .i64 pa_Ease_Kind, .int .i64 pa_Ease_Curve_0, .int .i64 pa_Ease_Curve_1, .int .i64 pa_Ease_Curve_2, .int .i64 pa_Ease_Curve_3, .int .i64 pa_Ease_N]) (Yields.loadAgg 0 6 #[.int .i64 pa_Ease_Kind, .int .i64 pa_Ease_Curve_0, .int .i64 pa_Ease_Curve_1, .int .i64 pa_Ease_Curve_2, .int .i64 pa_Ease_Curve_3, .int .i64 pa_Ease_N] rfl rfl Try.underlying25 rfl (by kernel_rfl) (by kernel_rfl) (by kernel_rfl)) rfl rfl ?_)
      refine Ok.op rfl (OpOk.call (v := .bool (mayB (pa_Ease_Kind, (pa_Ease_Curve_0, pa_Ease_Curve_1, pa_Ease_Curve_2, pa_Ease_Curve_3), pa_Ease_N))) (enters (by kernel_rfl) (fun _ => by kernel_rfl)) (rmay_c (pa_Ease_Kind, (pa_Ease_Curve_0, pa_Ease_Curve_1, pa_Ease_Curve_2, pa_Ease_Curve_3), pa_Ease_N)) rfl rfl ?_)
      refine Ok.batch 1 [(1, .pointer (some ⟨b1, 0, none⟩)), (36, .bool (!(mayB (pa_Ease_Kind, (pa_Ease_Curve_0, pa_Ease_Curve_1, pa_Ease_Curve_2, pa_Ease_Curve_3), pa_Ease_N))))] (by kernel_rfl) ?_
      refine Ok.nil ?_
      refine Ok.thenN ?_
      refine Ok.cond (b := !(mayB (pa_Ease_Kind, (pa_Ease_Curve_0, pa_Ease_Curve_1, pa_Ease_Curve_2, pa_Ease_Curve_3), pa_Ease_N))) rfl (fun hc => ?_) (fun hc => ?_)
      · replace hF := hF.1 hc
        refine Ok.seq ?_
        refine Ok.region ?_
        refine Ok.batch 1 [(2, .int .i64 3)] (by kernel_rfl) ?_
        refine Ok.nil ?_
        refine Ok.thenN ?_
        refine Ok.ret ?_
        refine Ok.thenR ?_
        exact Ok.res1 (.inl rfl) rfl (.tmp rfl) ⟨3, rfl, hF⟩
      · replace hF := hF.2 hc
        refine Ok.skip ?_
        refine Ok.thenN ?_
        refine Ok.seq ?_
        refine Ok.region ?_
        refine Ok.batch 1 [(1, .pointer (some ⟨b1, 0, none⟩)), (37, .pointer (some ⟨b1, 11, none⟩))] (by kernel_rfl) ?_
        refine Ok.op rfl (OpOk.step (v := .slice apa_Frames pa_Frames.length cpa_Frames) (Yields.load 0 rfl rfl Try.underlying38 rfl (by kernel_rfl)) rfl rfl ?_)
        refine Ok.batch 2 [(1, .pointer (some ⟨b1, 0, none⟩)), (3, .int .i64 (pa_Frames.length : Int))] (by kernel_rfl) ?_
        refine Ok.nil ?_
        refine Ok.thenN ?_
        refine Ok.seq ?_
        refine Ok.seq ?_
        refine Ok.region ?_
        refine Ok.batch 2 [(1, .pointer (some ⟨b1, 0, none⟩)), (3, .int .i64 (pa_Frames.length : Int)), (41, .bool (decide ((pa_Frames.length : Int) > 10)))] (by kernel_rfl) ?_
        refine Ok.nil ?_
        refine Ok.thenN ?_
        refine Ok.cond (b := decide ((pa_Frames.length : Int) > 10)) rfl (fun hc => ?_) (fun hc => ?_)
        · replace hF := hF.1 hc
          refine Ok.seq ?_
          refine Ok.region ?_
          refine Ok.batch 1 [(2, .int .i64 2)] (by kernel_rfl) ?_
          refine Ok.nil ?_
          refine Ok.thenN ?_
          refine Ok.ret ?_
          refine Ok.thenR ?_
          exact Ok.res1 (.inl rfl) rfl (.tmp rfl) ⟨2, rfl, hF⟩
        · replace hF := hF.2 hc
          refine Ok.skip ?_
          refine Ok.thenN ?_
          refine Ok.seq ?_
          refine Ok.cut (fun a W => ∃ (x61j30 : Bool), StA 81 [(1, .pointer (some ⟨b1, 0, none⟩)), (3, .int .i64 (pa_Frames.length : Int)), (61, .bool x61j30)] a ∧ StW w0 [.blk b1 (.cells #[.int .i64 pa_From, .int .i64 pa_Length, .int .i64 pa_Times, .bool pa_Turn, .bool pa_Stays, .int .i64 pa_Ease_Kind, .int .i64 pa_Ease_Curve_0, .int .i64 pa_Ease_Curve_1, .int .i64 pa_Ease_Curve_2, .int .i64 pa_Ease_Curve_3, .int .i64 pa_Ease_N, .slice apa_Frames pa_Frames.length cpa_Frames] 40)] g W ∧ faultj30 pa_Frames K x61j30) ?_ ?_
          ·
            refine Ok.region ?_
            refine Ok.batch 3 [(1, .pointer (some ⟨b1, 0, none⟩)), (3, .int .i64 (pa_Frames.length : Int)), (44, .bool (decide ((pa_Frames.length : Int) < 2)))] (by kernel_rfl) ?_
            refine Ok.boolAt 44 (decide ((pa_Frames.length : Int) < 2)) rfl (fun hc => ?_) (fun hc => ?_)
            · replace hF := hF.1 hc
              refine Ok.batch 17 [(1, .pointer (some ⟨b1, 0, none⟩)), (3, .int .i64 (pa_Frames.length : Int)), (61, .bool true)] (by kernel_rfl) ?_
              refine Ok.nil ?_
              refine Ok.thenN ?_
              exact fun a W hA hW => ⟨true, hA.sub (by kernel_rfl), hW, hF⟩
            · replace hF := hF.2 hc
              refine Ok.batch 1 [(1, .pointer (some ⟨b1, 0, none⟩)), (3, .int .i64 (pa_Frames.length : Int)), (44, .bool false), (45, .pointer (some ⟨b1, 11, none⟩))] (by kernel_rfl) ?_
              refine Ok.opYes (j := 2) (d := 44) (want := false) (b := false) rfl (by kernel_rfl) (by kernel_rfl) rfl (OpOk.step (v := .slice apa_Frames pa_Frames.length cpa_Frames) (Yields.load 0 rfl rfl Try.underlying38 rfl (by kernel_rfl)) rfl rfl ?_)
              obtain ⟨e4, h04, he4, hF⟩ := hF
              refine Ok.opYes (j := 2) (d := 44) (want := false) (b := false) rfl (by kernel_rfl) (by kernel_rfl) rfl (OpOk.indexRo (e := .pair (.int .i64) (.pair (.int .i64) (.int .i64))) (i := 0) (el := e4) rfl rfl Try.underlying38 (by kernel_rfl) hRpa_Frames h04 he4 rfl fun q4 o4 cs4 _ hat4 hr4 => ?_)
              obtain ⟨_, _, rfl, ⟨rfl, _⟩, ⟨_, _, rfl, ⟨rfl, _⟩, ⟨rfl, _⟩⟩⟩ := hr4
              replace hat4 : At g q4 o4 [.int .i64 e4.1, .int .i64 e4.2.1, .int .i64 e4.2.2] := hat4
              refine Ok.batch 1 [(1, .pointer (some ⟨b1, 0, none⟩)), (3, .int .i64 (pa_Frames.length : Int)), (44, .bool false), (48, .pointer (some ⟨q4, o4, none⟩))] (by kernel_rfl) ?_
              refine Ok.opYes (j := 2) (d := 44) (want := false) (b := false) rfl (by kernel_rfl) (by kernel_rfl) rfl (OpOk.step (v := .int .i64 e4.1) (Yields.loadRo 0 hat4 (by kernel_rfl) Try.underlying3 rfl (by kernel_rfl)) rfl rfl ?_)
              refine Ok.batch 3 [(1, .pointer (some ⟨b1, 0, none⟩)), (3, .int .i64 (pa_Frames.length : Int)), (52, .bool (e4.1 != 0))] (by kernel_rfl) ?_
              refine Ok.boolAt 52 ((e4.1 != 0)) rfl (fun hc => ?_) (fun hc => ?_)
              · replace hF := hF.1 hc
                refine Ok.batch 9 [(1, .pointer (some ⟨b1, 0, none⟩)), (3, .int .i64 (pa_Frames.length : Int)), (61, .bool true)] (by kernel_rfl) ?_
                refine Ok.nil ?_
                refine Ok.thenN ?_
                exact fun a W hA hW => ⟨true, hA.sub (by kernel_rfl), hW, hF⟩
              · replace hF := hF.2 hc
                refine Ok.batch 1 [(1, .pointer (some ⟨b1, 0, none⟩)), (3, .int .i64 (pa_Frames.length : Int)), (52, .bool false), (53, .pointer (some ⟨b1, 11, none⟩))] (by kernel_rfl) ?_
                refine Ok.opYes (j := 10) (d := 52) (want := false) (b := false) rfl (by kernel_rfl) (by kernel_rfl) rfl (OpOk.step (v := .slice apa_Frames pa_Frames.length cpa_Frames) (Yields.load 0 rfl rfl Try.underlying38 rfl (by kernel_rfl)) rfl rfl ?_)
                refine Ok.batch 2 [(1, .pointer (some ⟨b1, 0, none⟩)), (3, .int .i64 (pa_Frames.length : Int)), (52, .bool false), (54, .slice apa_Frames pa_Frames.length cpa_Frames), (56, .int .i64 (IntKind.wrap .i64 ((pa_Frames.length : Int) - 1)))] (by kernel_rfl) ?_
                obtain ⟨e5, h05, he5, hF⟩ := hF
                refine Ok.opYes (j := 10) (d := 52) (want := false) (b := false) rfl (by kernel_rfl) (by kernel_rfl) rfl (OpOk.indexRo (e := .pair (.int .i64) (.pair (.int .i64) (.int .i64))) (i := IntKind.wrap .i64 ((pa_Frames.length : Int) - 1)) (el := e5) rfl rfl Try.underlying38 (by kernel_rfl) hRpa_Frames h05 he5 rfl fun q5 o5 cs5 _ hat5 hr5 => ?_)
                obtain ⟨_, _, rfl, ⟨rfl, _⟩, ⟨_, _, rfl, ⟨rfl, _⟩, ⟨rfl, _⟩⟩⟩ := hr5
                replace hat5 : At g q5 o5 [.int .i64 e5.1, .int .i64 e5.2.1, .int .i64 e5.2.2] := hat5
                refine Ok.batch 1 [(1, .pointer (some ⟨b1, 0, none⟩)), (3, .int .i64 (pa_Frames.length : Int)), (52, .bool false), (58, .pointer (some ⟨q5, o5, none⟩))] (by kernel_rfl) ?_
                refine Ok.opYes (j := 10) (d := 52) (want := false) (b := false) rfl (by kernel_rfl) (by kernel_rfl) rfl (OpOk.step (v := .int .i64 e5.1) (Yields.loadRo 0 hat5 (by kernel_rfl) Try.underlying3 rfl (by kernel_rfl)) rfl rfl ?_)
                refine Ok.batch 2 [(1, .pointer (some ⟨b1, 0, none⟩)), (3, .int .i64 (pa_Frames.length : Int)), (61, .bool (e5.1 != 1000))] (by kernel_rfl) ?_
                refine Ok.nil ?_
                refine Ok.thenN ?_
                exact fun a W hA hW => ⟨(e5.1 != 1000), hA.sub (by kernel_rfl), hW, hF⟩
          ·
            rintro a W ⟨x61j30, hA, hW, hF⟩
            refine (?_ : Ok _ _ _ _ _ _) a W hA hW
            clear hA hW
            refine Ok.cond (b := x61j30) rfl (fun hc => ?_) (fun hc => ?_)
            · replace hF := hF.1 hc
              refine Ok.seq ?_
              refine Ok.region ?_
              refine Ok.batch 1 [(2, .int .i64 3)] (by kernel_rfl) ?_
              refine Ok.nil ?_
              refine Ok.thenN ?_
              refine Ok.ret ?_
              refine Ok.thenR ?_
              exact Ok.res1 (.inl rfl) rfl (.tmp rfl) ⟨3, rfl, hF⟩
            · replace hF := hF.2 hc
              refine Ok.skip ?_
              refine Ok.thenN ?_
              refine Ok.seq ?_
              refine Ok.seq ?_
              refine Ok.region ?_
              refine Ok.batch 1 [(1, .pointer (some ⟨b1, 0, none⟩)), (3, .int .i64 (pa_Frames.length : Int)), (4, .int .i64 1)] (by kernel_rfl) ?_
              refine Ok.nil ?_
              refine Ok.thenN ?_
              refine Ok.block ?_
              obtain ⟨k, hF⟩ := hF
              refine Ok.loop (fun k a W => ∃ (x4l41 : Int), StA 81 [(1, .pointer (some ⟨b1, 0, none⟩)), (3, .int .i64 (pa_Frames.length : Int)), (4, .int .i64 x4l41)] a ∧ StW w0 [.blk b1 (.cells #[.int .i64 pa_From, .int .i64 pa_Length, .int .i64 pa_Times, .bool pa_Turn, .bool pa_Stays, .int .i64 pa_Ease_Kind, .int .i64 pa_Ease_Curve_0, .int .i64 pa_Ease_Curve_1, .int .i64 pa_Ease_Curve_2, .int .i64 pa_Ease_Curve_3, .int .i64 pa_Ease_N, .slice apa_Frames pa_Frames.length cpa_Frames] 40)] g W ∧ faultl41 pa_Frames K k x4l41) k ?_ ?_
              ·
                exact fun a W hA hW => ⟨1, hA.sub (by kernel_rfl), hW, hF⟩
              ·
                rintro k41 a W ⟨x4l41, hA, hW, hF⟩
                cases k41 with
                | zero => exact (hF : False).elim
                | succ k41 =>
                  refine (?_ : Ok _ _ _ _ _ _) a W hA hW
                  clear hA hW
                  refine Ok.seq ?_
                  refine Ok.seq ?_
                  refine Ok.region ?_
                  refine Ok.batch 3 [(1, .pointer (some ⟨b1, 0, none⟩)), (3, .int .i64 (pa_Frames.length : Int)), (4, .int .i64 x4l41), (64, .bool (decide (x4l41 < (pa_Frames.length : Int))))] (by kernel_rfl) ?_
                  refine Ok.nil ?_
                  refine Ok.thenN ?_
                  refine Ok.cond (b := decide (x4l41 < (pa_Frames.length : Int))) rfl (fun hc => ?_) (fun hc => ?_)
                  · replace hF := hF.1 hc
                    refine Ok.skip ?_
                    refine Ok.thenN ?_
                    refine Ok.seq ?_
                    refine Ok.block ?_
                    refine Ok.seq ?_
                    refine Ok.quiet' (by kernel_rfl) (by kernel_rfl) ?_
                    refine OkQ.batch 1 [(1, .pointer (some ⟨b1, 0, none⟩)), (3, .int .i64 (pa_Frames.length : Int)), (4, .int .i64 x4l41), (67, .pointer (some ⟨b1, 11, none⟩))] (by kernel_rfl) ?_
                    refine OkQ.op rfl (OpQ.step (v := .slice apa_Frames pa_Frames.length cpa_Frames) (Yields.load 0 rfl rfl Try.underlying38 rfl (by kernel_rfl)) rfl rfl ?_)
                    refine OkQ.batch 2 [(1, .pointer (some ⟨b1, 0, none⟩)), (3, .int .i64 (pa_Frames.length : Int)), (4, .int .i64 x4l41), (68, .slice apa_Frames pa_Frames.length cpa_Frames), (70, .int .i64 (IntKind.wrap .i64 (x4l41 - 1)))] (by kernel_rfl) ?_
                    obtain ⟨e2, h02, he2, hF⟩ := hF
                    refine OkQ.op rfl (OpQ.indexRo (e := .pair (.int .i64) (.pair (.int .i64) (.int .i64))) (i := IntKind.wrap .i64 (x4l41 - 1)) (el := e2) rfl rfl Try.underlying38 (by kernel_rfl) hRpa_Frames h02 he2 rfl fun q2 o2 cs2 _ hat2 hr2 => ?_)
                    obtain ⟨_, _, rfl, ⟨rfl, _⟩, ⟨_, _, rfl, ⟨rfl, _⟩, ⟨rfl, _⟩⟩⟩ := hr2
                    replace hat2 : At g q2 o2 [.int .i64 e2.1, .int .i64 e2.2.1, .int .i64 e2.2.2] := hat2
                    refine OkQ.batch 1 [(1, .pointer (some ⟨b1, 0, none⟩)), (3, .int .i64 (pa_Frames.length : Int)), (4, .int .i64 x4l41), (72, .pointer (some ⟨q2, o2, none⟩))] (by kernel_rfl) ?_
                    refine OkQ.op rfl (OpQ.step (v := .int .i64 e2.1) (Yields.loadRo 0 hat2 (by kernel_rfl) Try.underlying3 rfl (by kernel_rfl)) rfl rfl ?_)
                    refine OkQ.batch 1 [(1, .pointer (some ⟨b1, 0, none⟩)), (3, .int .i64 (pa_Frames.length : Int)), (4, .int .i64 x4l41), (73, .int .i64 e2.1), (74, .pointer (some ⟨b1, 11, none⟩))] (by kernel_rfl) ?_
                    refine OkQ.op rfl (OpQ.step (v := .slice apa_Frames pa_Frames.length cpa_Frames) (Yields.load 0 rfl rfl Try.underlying38 rfl (by kernel_rfl)) rfl rfl ?_)
                    refine OkQ.batch 1 [(1, .pointer (some ⟨b1, 0, none⟩)), (3, .int .i64 (pa_Frames.length : Int)), (4, .int .i64 x4l41), (73, .int .i64 e2.1), (75, .slice apa_Frames pa_Frames.length cpa_Frames), (76, .int .i64 x4l41)] (by kernel_rfl) ?_
                    obtain ⟨e3, h03, he3, hF⟩ := hF
                    refine OkQ.op rfl (OpQ.indexRo (e := .pair (.int .i64) (.pair (.int .i64) (.int .i64))) (i := x4l41) (el := e3) rfl rfl Try.underlying38 (by kernel_rfl) hRpa_Frames h03 he3 rfl fun q3 o3 cs3 _ hat3 hr3 => ?_)
                    obtain ⟨_, _, rfl, ⟨rfl, _⟩, ⟨_, _, rfl, ⟨rfl, _⟩, ⟨rfl, _⟩⟩⟩ := hr3
                    replace hat3 : At g q3 o3 [.int .i64 e3.1, .int .i64 e3.2.1, .int .i64 e3.2.2] := hat3
                    refine OkQ.batch 1 [(1, .pointer (some ⟨b1, 0, none⟩)), (3, .int .i64 (pa_Frames.length : Int)), (4, .int .i64 x4l41), (73, .int .i64 e2.1), (78, .pointer (some ⟨q3, o3, none⟩))] (by kernel_rfl) ?_
                    refine OkQ.op rfl (OpQ.step (v := .int .i64 e3.1) (Yields.loadRo 0 hat3 (by kernel_rfl) Try.underlying3 rfl (by kernel_rfl)) rfl rfl ?_)
                    refine OkQ.batch 1 [(1, .pointer (some ⟨b1, 0, none⟩)), (3, .int .i64 (pa_Frames.length : Int)), (4, .int .i64 x4l41), (80, .bool (decide (e2.1 ≥ e3.1)))] (by kernel_rfl) ?_
                    refine OkQ.nil ?_
                    refine Ok.thenN ?_
                    refine Ok.cond (b := decide (e2.1 ≥ e3.1)) rfl (fun hc => ?_) (fun hc => ?_)
                    · replace hF := hF.1 hc
                      refine Ok.seq ?_
                      refine Ok.region ?_
                      refine Ok.batch 1 [(2, .int .i64 3)] (by kernel_rfl) ?_
                      refine Ok.nil ?_
                      refine Ok.thenN ?_
                      refine Ok.ret ?_
                      refine Ok.blockR ?_
                      refine Ok.thenR ?_
                      refine Ok.thenR ?_
                      refine Ok.blockR ?_
                      refine Ok.thenR ?_
                      exact Ok.res1 (.inl rfl) rfl (.tmp rfl) ⟨3, rfl, hF⟩
                    · replace hF := hF.2 hc
                      refine Ok.skip ?_
                      refine Ok.blockN ?_
                      refine Ok.thenN ?_
                      refine Ok.region ?_
                      refine Ok.batch 3 [(1, .pointer (some ⟨b1, 0, none⟩)), (3, .int .i64 (pa_Frames.length : Int)), (4, .int .i64 (IntKind.wrap .i64 (x4l41 + 1)))] (by kernel_rfl) ?_
                      refine Ok.nil ?_
                      refine Ok.thenN ?_
                      exact fun a W hA hW => ⟨k41, Nat.lt_succ_self _, (IntKind.wrap .i64 (x4l41 + 1)), hA.sub (by kernel_rfl), hW, hF⟩
                  · replace hF := hF.2 hc
                    refine Ok.exit ?_
                    refine Ok.thenE ?_
                    refine Ok.thenE ?_
                    refine Ok.blockHit ?_
                    refine Ok.thenN ?_
                    refine Ok.seq ?_
                    refine Ok.region ?_
                    refine Ok.batch 1 [(2, .int .i64 0)] (by kernel_rfl) ?_
                    refine Ok.nil ?_
                    refine Ok.thenN ?_
                    refine Ok.ret ?_
                    exact Ok.res1 (.inl rfl) rfl (.tmp rfl) ⟨0, rfl, hF⟩
theorem fault_loop {l : List (Int × Int × Int)} {K : Int → Prop} (hl : (l.length : Int) ≤ 10) :
    ∀ (n k : Nat), l.length < n + k → k + 1 ≤ l.length → K (if rising (l.drop k) = true then 0 else 3) → faultl41 l K n ((k : Int) + 1) := by
  intro n
  induction n with
  | zero => intro k h1 h2; omega
  | succ n ih =>
    intro k h1 h2 hK
    show faultl41b l K ((k : Int) + 1) _
    unfold faultl41b
    have e0 : IntKind.wrap .i64 ((k : Int) + 1 - 1) = k := by rw [i64_in _ (by omega)]; omega
    have e1 : ((k : Int).toNat) = k := by omega
    have e2 : (((k : Int) + 1).toNat) = k + 1 := by omega
    simp only [e0, e1, e2]
    refine ⟨fun h => ?_, fun h => ?_⟩
    · have h := of_decide_eq_true h
      obtain ⟨x, hx⟩ := get_some (l := l) (i := k) (by omega)
      obtain ⟨y, hy⟩ := get_some (l := l) (i := k + 1) (by omega)
      have hr := rising_drop hx hy
      refine ⟨x, by omega, hx, y, by omega, hy, fun h3 => ?_, fun h3 => ?_⟩
      · have h3 := of_decide_eq_true h3
        rw [hr, show decide (x.1 < y.1) = false from by simp; omega] at hK
        exact hK
      · have h3 := of_decide_eq_false h3
        rw [hr, show decide (x.1 < y.1) = true from by simp; omega, Bool.true_and] at hK
        rw [i64_in _ (by omega), show (k : Int) + 1 = ((k + 1 : Nat) : Int) from by omega]
        exact ih (k + 1) (by omega) (by omega) hK
    · have h := of_decide_eq_false h
      rw [rising_end (by omega), if_pos rfl] at hK
      exact hK
theorem fault30 {l : List (Int × Int × Int)} {K : Int → Prop} {x : Bool} (hl : (l.length : Int) ≤ 10) (ht : x = true → K 3) (hf : x = false → 2 ≤ l.length ∧ K (if rising l = true then 0 else 3)) : faultj30 l K x := by
  unfold faultj30
  refine ⟨ht, fun h => ?_⟩
  obtain ⟨h2, h3⟩ := hf h
  exact ⟨l.length + 1, fault_loop hl (l.length + 1) 0 (by omega) (by omega) h3⟩
theorem fault4 (e : E) (l : List (Int × Int × Int)) (b : Bool) : faultj4 e.1 e.2.1.1 e.2.1.2.1 e.2.1.2.2.1 e.2.1.2.2.2 e.2.2 l (fun r => r = tailI e l b) b := by
  unfold faultj4 tailI
  refine ⟨fun h => by rw [if_pos h], fun h => ⟨fun h1 => ?_, fun h1 => ⟨fun h2 => ?_, fun h2 => ⟨fun h3 => ?_, fun h3 => ?_⟩⟩⟩⟩
  all_goals rw [if_neg (by simp [h])]
  · have h1 : mayB e = false := by simpa using h1
    rw [if_pos h1]
  all_goals
    have h1 : mayB e = true := by simpa using h1
    rw [if_neg (by simp [h1])]
  · rw [if_pos (of_decide_eq_true h2)]
  all_goals
    have h2 := of_decide_eq_false h2
    rw [if_neg h2]
  · rw [if_pos (of_decide_eq_true h3)]
    exact fault30 (by omega) (fun _ => rfl) fun h => by cases h
  · have h3 := of_decide_eq_false h3
    rw [if_neg h3]
    obtain ⟨x, hx⟩ := get_some (l := l) (i := 0) (by omega)
    obtain ⟨y, hy⟩ := get_some (l := l) (i := l.length - 1) (by omega)
    refine ⟨x, by omega, hx, fun h4 => ?_, fun h4 => ⟨y, ?_, ?_, ?_⟩⟩
    · rw [if_pos (by rw [head_of hx]; simpa using h4)]
      exact fault30 (by omega) (fun _ => rfl) fun h => by cases h
    · rw [i64_in _ (by omega)]; omega
    · rw [i64_in _ (by omega), show ((l.length : Int) - 1).toNat = l.length - 1 from by omega]; exact hy
    · rw [if_neg (by rw [head_of hx]; simpa using h4)]
      refine fault30 (by omega) (fun h5 => ?_) fun h5 => ⟨by omega, ?_⟩
      · rw [if_pos (by rw [last_of hy]; simpa using h5)]
      · rw [if_neg (show ¬ ¬ (l.getLastD (0, 0, 0)).1 = 1000 from by rw [last_of hy]; simpa using h5)]
theorem fault_F (a : A) : faultF a.1 a.2.1 a.2.2.1 a.2.2.2.2.2.1.1 a.2.2.2.2.2.1.2.1.1 a.2.2.2.2.2.1.2.1.2.1 a.2.2.2.2.2.1.2.1.2.2.1 a.2.2.2.2.2.1.2.1.2.2.2 a.2.2.2.2.2.1.2.2 a.2.2.2.2.2.2 (fun r => r = faultI a) := by
  have key : ∀ b : Bool, (!(inB a.1 0 100000000 && inB a.2.1 1 100000000 && inB a.2.2.1 1 1000)) = b → faultj4 a.2.2.2.2.2.1.1 a.2.2.2.2.2.1.2.1.1 a.2.2.2.2.2.1.2.1.2.1 a.2.2.2.2.2.1.2.1.2.2.1 a.2.2.2.2.2.1.2.1.2.2.2 a.2.2.2.2.2.1.2.2 a.2.2.2.2.2.2 (fun r => r = faultI a) b := fun b hb => by
    unfold faultI; rw [hb]; exact fault4 _ _ _
  unfold faultF
  refine ⟨fun h => key _ ?_, fun h => ⟨fun h2 => key _ ?_, fun h2 => ⟨fun h3 => key _ ?_, fun h3 => ⟨fun h4 => key _ ?_, fun h4 => ⟨fun h5 => key _ ?_, fun h5 => key _ ?_⟩⟩⟩⟩⟩
  all_goals simp only [decide_eq_true_eq, decide_eq_false_iff_not, gt_iff_lt] at *
  · rw [inB_false.2 (by omega)]; rfl
  · rw [inB_false.2 (by omega)]; rfl
  · rw [inB_true.2 (by omega), inB_false.2 (by omega)]; rfl
  · rw [inB_true.2 (by omega), inB_false.2 (by omega)]; rfl
  · rw [inB_true.2 (by omega), inB_true.2 (by omega), inB_false.2 (by omega)]; rfl
  · rw [inB_true.2 (by omega), inB_true.2 (by omega)]
    by_cases h6 : 1000 < a.2.2.1
    · rw [inB_false.2 (by omega)]; simp [h6]
    · rw [inB_true.2 (by omega)]; simp [h6]
set_option linter.unusedVariables false in
theorem fault_c {g : Ghost} (xa : Int × Int × Int × Bool × Bool × (Int × (Int × Int × Int × Int) × Int) × List (Int × Int × Int)) {a0 : Option Addr} {c0 : Nat} (hR0 : Rep g (.slice (.pair (.int .i64) (.pair (.int .i64) (.int .i64)))) [.slice a0 xa.2.2.2.2.2.2.length c0] xa.2.2.2.2.2.2) : CallsG Try.prog 22 #[.agg #[.int .i64 xa.1, .int .i64 xa.2.1, .int .i64 xa.2.2.1, .bool xa.2.2.2.1, .bool xa.2.2.2.2.1, .int .i64 xa.2.2.2.2.2.1.1, .int .i64 xa.2.2.2.2.2.1.2.1.1, .int .i64 xa.2.2.2.2.2.1.2.1.2.1, .int .i64 xa.2.2.2.2.2.1.2.1.2.2.1, .int .i64 xa.2.2.2.2.2.1.2.1.2.2.2, .int .i64 xa.2.2.2.2.2.1.2.2, .slice a0 xa.2.2.2.2.2.2.length c0]] g (.int .i64 (faultI xa)) :=
  (fault_ok xa.1 xa.2.1 xa.2.2.1 xa.2.2.2.1 xa.2.2.2.2.1 xa.2.2.2.2.2.1.1 xa.2.2.2.2.2.1.2.1.1 xa.2.2.2.2.2.1.2.1.2.1 xa.2.2.2.2.2.1.2.1.2.2.1 xa.2.2.2.2.2.1.2.1.2.2.2 xa.2.2.2.2.2.1.2.2 xa.2.2.2.2.2.2 hR0 _ (fault_F xa)).gives (by rintro _ ⟨_, rfl, rfl⟩; rfl)
def checksj5 (K : Bool → Prop) (x2j5 : Bool) : Prop :=
  K x2j5
def checksF (pa_From : Int) (pa_Length : Int) (pa_Times : Int) (pa_Turn : Bool) (pa_Stays : Bool) (pa_Ease_Kind : Int) (pa_Ease_Curve_0 : Int) (pa_Ease_Curve_1 : Int) (pa_Ease_Curve_2 : Int) (pa_Ease_Curve_3 : Int) (pa_Ease_N : Int) (pa_Frames : List (Int × Int × Int)) (K : Bool → Prop) : Prop :=
  ((true) = true → checksj5 K ((faultI (pa_From, pa_Length, pa_Times, pa_Turn, pa_Stays, (pa_Ease_Kind, (pa_Ease_Curve_0, pa_Ease_Curve_1, pa_Ease_Curve_2, pa_Ease_Curve_3), pa_Ease_N), pa_Frames)) == (faultI (pa_From, pa_Length, pa_Times, pa_Turn, pa_Stays, (pa_Ease_Kind, (pa_Ease_Curve_0, pa_Ease_Curve_1, pa_Ease_Curve_2, pa_Ease_Curve_3), pa_Ease_N), pa_Frames)))) ∧ ((true) = false → checksj5 K false)
set_option maxHeartbeats 4000000 in
set_option maxRecDepth 100000 in
set_option linter.unusedVariables false in
theorem checks_ok {g : Ghost} (pa_From : Int) (pa_Length : Int) (pa_Times : Int) (pa_Turn : Bool) (pa_Stays : Bool) (pa_Ease_Kind : Int) (pa_Ease_Curve_0 : Int) (pa_Ease_Curve_1 : Int) (pa_Ease_Curve_2 : Int) (pa_Ease_Curve_3 : Int) (pa_Ease_N : Int) {apa_Frames : Option Addr} {cpa_Frames : Nat} (pa_Frames : List (Int × Int × Int)) (hRpa_Frames : Rep g (.slice (.pair (.int .i64) (.pair (.int .i64) (.int .i64)))) [.slice apa_Frames pa_Frames.length cpa_Frames] pa_Frames) (K : Bool → Prop)
    (hF : checksF pa_From pa_Length pa_Times pa_Turn pa_Stays pa_Ease_Kind pa_Ease_Curve_0 pa_Ease_Curve_1 pa_Ease_Curve_2 pa_Ease_Curve_3 pa_Ease_N pa_Frames K) : CallsK Try.prog 6 #[.agg #[.int .i64 pa_From, .int .i64 pa_Length, .int .i64 pa_Times, .bool pa_Turn, .bool pa_Stays, .int .i64 pa_Ease_Kind, .int .i64 pa_Ease_Curve_0, .int .i64 pa_Ease_Curve_1, .int .i64 pa_Ease_Curve_2, .int .i64 pa_Ease_Curve_3, .int .i64 pa_Ease_N, .slice apa_Frames pa_Frames.length cpa_Frames]] g (fun v => ∃ r0 : Bool, v = .bool r0 ∧ K r0) := by
  refine CallsK.enter 13 [(0, .agg #[.int .i64 pa_From, .int .i64 pa_Length, .int .i64 pa_Times, .bool pa_Turn, .bool pa_Stays, .int .i64 pa_Ease_Kind, .int .i64 pa_Ease_Curve_0, .int .i64 pa_Ease_Curve_1, .int .i64 pa_Ease_Curve_2, .int .i64 pa_Ease_Curve_3, .int .i64 pa_Ease_N, .slice apa_Frames pa_Frames.length cpa_Frames])] Try.func6 rfl (by kernel_rfl) (by kernel_rfl) (by kernel_rfl) fun w0 => ?_
  refine Ok.seq ?_
  refine Ok.region ?_
  refine Ok.op rfl (OpOk.box (v := .agg #[.int .i64 pa_From, .int .i64 pa_Length, .int .i64 pa_Times, .bool pa_Turn, .bool pa_Stays, .int .i64 pa_Ease_Kind, .int .i64 pa_Ease_Curve_0, .int .i64 pa_Ease_Curve_1, .int .i64 pa_Ease_Curve_2, .int .i64 pa_Ease_Curve_3, .int .i64 pa_Ease_N, .slice apa_Frames pa_Frames.length cpa_Frames]) (cs := #[.int .i64 pa_From, .int .i64 pa_Length, .int .i64 pa_Times, .bool pa_Turn, .bool pa_Stays, .int .i64 pa_Ease_Kind, .int .i64 pa_Ease_Curve_0, .int .i64 pa_Ease_Curve_1, .int .i64 pa_Ease_Curve_2, .int .i64 pa_Ease_Curve_3, .int .i64 pa_Ease_N, .slice apa_Frames pa_Frames.length cpa_Frames]) rfl (by kernel_rfl) rfl fun b1 => ?_)
  refine Ok.batch 1 [(1, .pointer (some ⟨b1, 0, none⟩))] (by kernel_rfl) ?_
  refine Ok.nil ?_
  refine Ok.thenN ?_
  refine Ok.seq ?_
  refine Ok.region ?_
  refine Ok.op rfl (OpOk.call (v := .bool true) (enters (by kernel_rfl) (fun _ => by kernel_rfl)) (stepped_c ) rfl rfl ?_)
  refine Ok.batch 1 [(1, .pointer (some ⟨b1, 0, none⟩)), (3, .bool true)] (by kernel_rfl) ?_
  refine Ok.nil ?_
  refine Ok.thenN ?_
  refine Ok.cut (fun a W => ∃ (x2j5 : Bool), StA 13 [(2, .bool x2j5)] a ∧ StW w0 [] g W ∧ checksj5 K x2j5) ?_ ?_
  ·
    refine Ok.quiet' (by kernel_rfl) (by kernel_rfl) ?_
    refine OkQ.batch 2 [(1, .pointer (some ⟨b1, 0, none⟩)), (6, .bool true)] (by kernel_rfl) ?_
    refine OkQ.boolAt 6 (true) rfl (fun hc => ?_) (fun hc => ?_)
    · replace hF := hF.1 hc
      refine OkQ.opYes (j := 1) (d := 6) (want := true) (b := true) rfl (by kernel_rfl) (by kernel_rfl) rfl (OpQ.step (v := .agg #[.int .i64 pa_From, .int .i64 pa_Length, .int .i64 pa_Times, .bool pa_Turn, .bool pa_Stays, .int .i64 pa_Ease_Kind, .int .i64 pa_Ease_Curve_0, .int .i64 pa_Ease_Curve_1, .int .i64 pa_Ease_Curve_2, .int .i64 pa_Ease_Curve_3, .int .i64 pa_Ease_N, .slice apa_Frames pa_Frames.length cpa_Frames]) (Yields.loadAgg 0 12 #[.int .i64 pa_From, .int .i64 pa_Length, .int .i64 pa_Times, .bool pa_Turn, .bool pa_Stays, .int .i64 pa_Ease_Kind, .int .i64 pa_Ease_Curve_0, .int .i64 pa_Ease_Curve_1, .int .i64 pa_Ease_Curve_2, .int .i64 pa_Ease_Curve_3, .int .i64 pa_Ease_N, .slice apa_Frames pa_Frames.length cpa_Frames] rfl rfl Try.underlying40 rfl (by kernel_rfl) (by kernel_rfl) (by kernel_rfl)) rfl rfl ?_)
      refine OkQ.opYes (j := 1) (d := 6) (want := true) (b := true) rfl (by kernel_rfl) (by kernel_rfl) rfl (OpQ.call (v := .int .i64 (faultI (pa_From, pa_Length, pa_Times, pa_Turn, pa_Stays, (pa_Ease_Kind, (pa_Ease_Curve_0, pa_Ease_Curve_1, pa_Ease_Curve_2, pa_Ease_Curve_3), pa_Ease_N), pa_Frames))) (enters (by kernel_rfl) (fun _ => by kernel_rfl)) (check_c (pa_From, pa_Length, pa_Times, pa_Turn, pa_Stays, (pa_Ease_Kind, (pa_Ease_Curve_0, pa_Ease_Curve_1, pa_Ease_Curve_2, pa_Ease_Curve_3), pa_Ease_N), pa_Frames) hRpa_Frames) rfl rfl ?_)
      refine OkQ.opYes (j := 1) (d := 6) (want := true) (b := true) rfl (by kernel_rfl) (by kernel_rfl) rfl (OpQ.step (v := .agg #[.int .i64 pa_From, .int .i64 pa_Length, .int .i64 pa_Times, .bool pa_Turn, .bool pa_Stays, .int .i64 pa_Ease_Kind, .int .i64 pa_Ease_Curve_0, .int .i64 pa_Ease_Curve_1, .int .i64 pa_Ease_Curve_2, .int .i64 pa_Ease_Curve_3, .int .i64 pa_Ease_N, .slice apa_Frames pa_Frames.length cpa_Frames]) (Yields.loadAgg 0 12 #[.int .i64 pa_From, .int .i64 pa_Length, .int .i64 pa_Times, .bool pa_Turn, .bool pa_Stays, .int .i64 pa_Ease_Kind, .int .i64 pa_Ease_Curve_0, .int .i64 pa_Ease_Curve_1, .int .i64 pa_Ease_Curve_2, .int .i64 pa_Ease_Curve_3, .int .i64 pa_Ease_N, .slice apa_Frames pa_Frames.length cpa_Frames] rfl rfl Try.underlying40 rfl (by kernel_rfl) (by kernel_rfl) (by kernel_rfl)) rfl rfl ?_)
      refine OkQ.opYes (j := 1) (d := 6) (want := true) (b := true) rfl (by kernel_rfl) (by kernel_rfl) rfl (OpQ.call (v := .int .i64 (faultI (pa_From, pa_Length, pa_Times, pa_Turn, pa_Stays, (pa_Ease_Kind, (pa_Ease_Curve_0, pa_Ease_Curve_1, pa_Ease_Curve_2, pa_Ease_Curve_3), pa_Ease_N), pa_Frames))) (enters (by kernel_rfl) (fun _ => by kernel_rfl)) (fault_c (pa_From, pa_Length, pa_Times, pa_Turn, pa_Stays, (pa_Ease_Kind, (pa_Ease_Curve_0, pa_Ease_Curve_1, pa_Ease_Curve_2, pa_Ease_Curve_3), pa_Ease_N), pa_Frames) hRpa_Frames) rfl rfl ?_)
      refine OkQ.batch 3 [(2, .bool ((faultI (pa_From, pa_Length, pa_Times, pa_Turn, pa_Stays, (pa_Ease_Kind, (pa_Ease_Curve_0, pa_Ease_Curve_1, pa_Ease_Curve_2, pa_Ease_Curve_3), pa_Ease_N), pa_Frames)) == (faultI (pa_From, pa_Length, pa_Times, pa_Turn, pa_Stays, (pa_Ease_Kind, (pa_Ease_Curve_0, pa_Ease_Curve_1, pa_Ease_Curve_2, pa_Ease_Curve_3), pa_Ease_N), pa_Frames))))] (by kernel_rfl) ?_
      refine OkQ.nil ?_
      refine Ok.thenN ?_
      exact fun a W hA hW => ⟨((faultI (pa_From, pa_Length, pa_Times, pa_Turn, pa_Stays, (pa_Ease_Kind, (pa_Ease_Curve_0, pa_Ease_Curve_1, pa_Ease_Curve_2, pa_Ease_Curve_3), pa_Ease_N), pa_Frames)) == (faultI (pa_From, pa_Length, pa_Times, pa_Turn, pa_Stays, (pa_Ease_Kind, (pa_Ease_Curve_0, pa_Ease_Curve_1, pa_Ease_Curve_2, pa_Ease_Curve_3), pa_Ease_N), pa_Frames))), hA.sub (by kernel_rfl), hW.sub (.cons _ .slnil), hF⟩
    · replace hF := hF.2 hc
      refine OkQ.batch 7 [(2, .bool false)] (by kernel_rfl) ?_
      refine OkQ.nil ?_
      refine Ok.thenN ?_
      exact fun a W hA hW => ⟨false, hA.sub (by kernel_rfl), hW.sub (.cons _ .slnil), hF⟩
  ·
    rintro a W ⟨x2j5, hA, hW, hF⟩
    refine (?_ : Ok _ _ _ _ _ _) a W hA hW
    clear hA hW
    refine Ok.ret ?_
    exact Ok.res1 (.inl rfl) rfl (.tmp rfl) ⟨x2j5, rfl, hF⟩
theorem checks_F (a : A) : checksF a.1 a.2.1 a.2.2.1 a.2.2.2.1 a.2.2.2.2.1 a.2.2.2.2.2.1.1 a.2.2.2.2.2.1.2.1.1 a.2.2.2.2.2.1.2.1.2.1 a.2.2.2.2.2.1.2.1.2.2.1 a.2.2.2.2.2.1.2.1.2.2.2 a.2.2.2.2.2.1.2.2 a.2.2.2.2.2.2 (fun r => r = true) := by
  unfold checksF checksj5
  exact ⟨fun _ => by simp, fun h => by cases h⟩
set_option linter.unusedVariables false in
theorem checks_c {g : Ghost} (xa : Int × Int × Int × Bool × Bool × (Int × (Int × Int × Int × Int) × Int) × List (Int × Int × Int)) {a0 : Option Addr} {c0 : Nat} (hR0 : Rep g (.slice (.pair (.int .i64) (.pair (.int .i64) (.int .i64)))) [.slice a0 xa.2.2.2.2.2.2.length c0] xa.2.2.2.2.2.2) : CallsG Try.prog 6 #[.agg #[.int .i64 xa.1, .int .i64 xa.2.1, .int .i64 xa.2.2.1, .bool xa.2.2.2.1, .bool xa.2.2.2.2.1, .int .i64 xa.2.2.2.2.2.1.1, .int .i64 xa.2.2.2.2.2.1.2.1.1, .int .i64 xa.2.2.2.2.2.1.2.1.2.1, .int .i64 xa.2.2.2.2.2.1.2.1.2.2.1, .int .i64 xa.2.2.2.2.2.1.2.1.2.2.2, .int .i64 xa.2.2.2.2.2.1.2.2, .slice a0 xa.2.2.2.2.2.2.length c0]] g (.bool true) :=
  (checks_ok xa.1 xa.2.1 xa.2.2.1 xa.2.2.2.1 xa.2.2.2.2.1 xa.2.2.2.2.2.1.1 xa.2.2.2.2.2.1.2.1.1 xa.2.2.2.2.2.1.2.1.2.1 xa.2.2.2.2.2.1.2.1.2.2.1 xa.2.2.2.2.2.1.2.1.2.2.2 xa.2.2.2.2.2.1.2.2 xa.2.2.2.2.2.2 hR0 _ (checks_F xa)).gives (by rintro _ ⟨_, rfl, rfl⟩; rfl)
end Go.Proofs.Ytejkloinamgpaaa.An
