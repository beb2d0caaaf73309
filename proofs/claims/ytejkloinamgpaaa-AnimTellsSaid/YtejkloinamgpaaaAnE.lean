/-
  AnimTells: the functions of its law.
-/
import Derived.Test.YtejkloinamgpaaaAnD
namespace Go.Proofs.Ytejkloinamgpaaa.An
open Go.Eng IntWalk
set_option linter.unusedVariables false
abbrev Fr := Int × Int × Int
def between (e : E) (x y : Fr) (r : Int) : V := mixV x.2 y.2 (easeI e ((r - x.1) * 1000 / (y.1 - x.1)))
def fvalL (e : E) : List Fr → Int → V
  | [], _ => (0, 0)
  | [x], _ => x.2
  | x :: y :: l, r => if y.1 ≤ r then fvalL e (y :: l) r else between e x y r
def fval (a : A) (r : Int) : V := fvalL a.2.2.2.2.2.1 a.2.2.2.2.2.2 r
def fvalP (a : A) (r : Int) : Prop := faultI a = 0 ∧ 0 ≤ r ∧ r ≤ 1000
def endI (a : A) : Int := a.1 + a.2.2.1 * a.2.1
def endP (a : A) : Prop := faultI a = 0
def placeI (a : A) (now : Int) : Int := if a.2.2.2.1 = true ∧ (now - a.1) / a.2.1 % 2 = 1 then 1000 - (now - a.1) % a.2.1 * 1000 / a.2.1 else (now - a.1) % a.2.1 * 1000 / a.2.1
def tellV (a : A) (now : Int) : V := if now < endI a then fval a (placeI a now) else if a.2.2.2.1 = true ∧ a.2.2.1 % 2 = 0 then (a.2.2.2.2.2.2.headD (0, 0, 0)).2 else (a.2.2.2.2.2.2.getLastD (0, 0, 0)).2
def tellB (a : A) (now : Int) : Bool := decide (a.1 ≤ now) && (decide (now < endI a) || a.2.2.2.2.1)
def tellR (a : A) (now : Int) : V × Bool := (if now < a.1 then (0, 0) else tellV a now, tellB a now)
def rtellR (a : A) (now : Int) : V × Bool := (if tellB a now = true then tellV a now else (0, 0), tellB a now)
def tellP (a : A) (now : Int) : Prop := faultI a = 0 ∧ 0 ≤ now ∧ now ≤ 200000000000
def firstFault : List A → Int
  | [] => 0
  | a :: l => if faultI a = 0 then firstFault l else faultI a
def rightI (l : List A) (now : Int) : Int := if 10 < (l.length : Int) then 2 else if ¬ firstFault l = 0 then firstFault l else if inB now 0 200000000000 = true then 0 else 1
def foldV (l : List A) (base : V) (now : Int) : V := l.foldl (fun b a => if tellB a now = true then tellV a now else b) base
def atR (l : List A) (base : V) (now : Int) : V × Int := if rightI l now = 0 then (foldV l base now, 0) else ((0, 0), rightI l now)
theorem drop_of_get {α : Type} {l : List α} {k : Nat} {x : α} (h : l[k]? = some x) : l.drop k = x :: l.drop (k + 1) := by
  obtain ⟨hk, rfl⟩ := List.getElem?_eq_some_iff.1 h
  exact List.drop_eq_getElem_cons hk
theorem fval_step {e : E} {l : List Fr} {r : Int} {k : Nat} {x y : Fr} (hx : l[k]? = some x) (hy : l[k + 1]? = some y) : fvalL e (l.drop k) r = if y.1 ≤ r then fvalL e (l.drop (k + 1)) r else between e x y r := by
  rw [drop_of_get hx, drop_of_get hy]; rfl
theorem fval_last {e : E} {l : List Fr} {r : Int} {k : Nat} {x : Fr} (hx : l[k]? = some x) (hk : l.length = k + 1) : fvalL e (l.drop k) r = x.2 := by
  rw [drop_of_get hx, List.drop_eq_nil_of_le (by omega)]; rfl
theorem rising_all {l : List Fr} (h : rising l = true) : ∀ k, rising (l.drop k) = true
  | 0 => by simpa using h
  | k + 1 => by
    have ih := rising_all h k
    by_cases hk : k + 1 < l.length
    · obtain ⟨x, hx⟩ := get_some (l := l) (i := k) (by omega)
      obtain ⟨y, hy⟩ := get_some (l := l) (i := k + 1) hk
      rw [rising_drop hx hy, Bool.and_eq_true] at ih
      exact ih.2
    · exact rising_end (by omega)
theorem rising_lt {l : List Fr} (h : rising l = true) {k : Nat} {x y : Fr} (hx : l[k]? = some x) (hy : l[k + 1]? = some y) : x.1 < y.1 := by
  have := rising_all h k
  rw [rising_drop hx hy, Bool.and_eq_true] at this
  exact of_decide_eq_true this.1
theorem rising_le {l : List Fr} (h : rising l = true) {k : Nat} {x : Fr} (hx : l[k]? = some x) : ∀ (n : Nat) (y : Fr), l[k + n]? = some y → x.1 ≤ y.1
  | 0, y, hy => by rw [Nat.add_zero, hx] at hy; cases hy; omega
  | n + 1, y, hy => by
    have hl : k + (n + 1) < l.length := (List.getElem?_eq_some_iff.1 hy).1
    obtain ⟨z, hz⟩ := get_some (l := l) (i := k + n) (by omega)
    have h1 := rising_le h hx n z hz
    have h2 := rising_lt h hz hy
    omega
theorem right_of {a : A} (h : faultI a = 0) : (0 ≤ a.1 ∧ a.1 ≤ 100000000) ∧ (1 ≤ a.2.1 ∧ a.2.1 ≤ 100000000) ∧ (1 ≤ a.2.2.1 ∧ a.2.2.1 ≤ 1000) ∧ mayB a.2.2.2.2.2.1 = true ∧
    2 ≤ a.2.2.2.2.2.2.length ∧ a.2.2.2.2.2.2.length ≤ 10 ∧ (a.2.2.2.2.2.2.headD (0, 0, 0)).1 = 0 ∧ (a.2.2.2.2.2.2.getLastD (0, 0, 0)).1 = 1000 ∧ rising a.2.2.2.2.2.2 = true := by
  unfold faultI tailI at h
  split at h
  · cases h
  · rename_i hb
    simp only [Bool.not_eq_true', Bool.and_eq_false_iff, not_or, Bool.not_eq_false] at hb
    obtain ⟨⟨b1, b2⟩, b3⟩ := hb
    split at h
    · cases h
    · rename_i g1
      split at h
      · cases h
      · rename_i g2
        split at h
        · cases h
        · rename_i g3
          split at h
          · cases h
          · rename_i g4
            split at h
            · cases h
            · rename_i g5
              split at h
              · rename_i g6
                exact ⟨inB_true.1 b1, inB_true.1 b2, inB_true.1 b3, by simpa using g1, by omega, by omega, by simpa using g4, by simpa using g5, g6⟩
              · cases h
theorem at_bd {l : List Fr} (h0 : (l.headD (0, 0, 0)).1 = 0) (h1 : (l.getLastD (0, 0, 0)).1 = 1000) (h : rising l = true) {k : Nat} {x : Fr} (hx : l[k]? = some x) : 0 ≤ x.1 ∧ x.1 ≤ 1000 := by
  have hl : k < l.length := (List.getElem?_eq_some_iff.1 hx).1
  obtain ⟨y, hy⟩ := get_some (l := l) (i := 0) (by omega)
  obtain ⟨z, hz⟩ := get_some (l := l) (i := l.length - 1) (by omega)
  rw [head_of hy] at h0
  rw [last_of hz] at h1
  have g0 := rising_le h hy k x (by rw [Nat.zero_add]; exact hx)
  have g1 := rising_le h hx (l.length - 1 - k) z (by rw [show k + (l.length - 1 - k) = l.length - 1 by omega]; exact hz)
  omega
theorem place_eq {x r y : Int} (h0 : 0 ≤ x) (h1 : x ≤ r) (h2 : r < y) (h3 : y ≤ 1000) :
    IntKind.wrap .i64 (Int.tdiv (IntKind.wrap .i64 ((IntKind.wrap .i64 (r - x)) * 1000)) (IntKind.wrap .i64 (y - x))) = (r - x) * 1000 / (y - x) ∧ 0 ≤ (r - x) * 1000 / (y - x) ∧ (r - x) * 1000 / (y - x) ≤ 1000 := by
  have g0 : 0 ≤ (r - x) * 1000 / (y - x) := Int.ediv_nonneg (by omega) (by omega)
  have g1 : (r - x) * 1000 / (y - x) ≤ 1000 := Int.ediv_le_of_le_mul (by omega) (by omega)
  rw [i64_in (r - x) (by omega), i64_in (_ * 1000) (by omega), i64_in (y - x) (by omega), Int.tdiv_eq_ediv_of_nonneg (by omega), i64_in (_ / _) (by omega)]
  exact ⟨rfl, g0, g1⟩
def rfvall7b (pa_Ease_Kind : Int) (pa_Ease_Curve_0 : Int) (pa_Ease_Curve_1 : Int) (pa_Ease_Curve_2 : Int) (pa_Ease_Curve_3 : Int) (pa_Ease_N : Int) (pa_Frames : List (Int × Int × Int)) (pr : Int) (K : Int → Int → Prop) (x5l7 : Int) (C7 : Int → Prop) : Prop :=
  ((decide (x5l7 ≥ 0)) = true → ∃ e3 : Int × Int × Int, (0 : Int) ≤ x5l7 ∧ pa_Frames[Int.toNat x5l7]? = some e3 ∧ ((decide (e3.1 > pr)) = true → C7 (IntKind.wrap .i64 (x5l7 - 1))) ∧ ((decide (e3.1 > pr)) = false → (((x5l7 == (IntKind.wrap .i64 ((pa_Frames.length : Int) - 1)))) = true → K e3.2.1 e3.2.2) ∧ (((x5l7 == (IntKind.wrap .i64 ((pa_Frames.length : Int) - 1)))) = false → ∃ e5 : Int × Int × Int, (0 : Int) ≤ IntKind.wrap .i64 (x5l7 + 1) ∧ pa_Frames[Int.toNat (IntKind.wrap .i64 (x5l7 + 1))]? = some e5 ∧ (IntKind.wrap .i64 (e5.1 - e3.1)) ≠ 0 ∧ easeP (pa_Ease_Kind, (pa_Ease_Curve_0, pa_Ease_Curve_1, pa_Ease_Curve_2, pa_Ease_Curve_3), pa_Ease_N) (IntKind.wrap .i64 (Int.tdiv (IntKind.wrap .i64 ((IntKind.wrap .i64 (pr - e3.1)) * 1000)) (IntKind.wrap .i64 (e5.1 - e3.1)))) ∧ K ((mixV e3.2 e5.2 (easeI (pa_Ease_Kind, (pa_Ease_Curve_0, pa_Ease_Curve_1, pa_Ease_Curve_2, pa_Ease_Curve_3), pa_Ease_N) (IntKind.wrap .i64 (Int.tdiv (IntKind.wrap .i64 ((IntKind.wrap .i64 (pr - e3.1)) * 1000)) (IntKind.wrap .i64 (e5.1 - e3.1)))))).1) ((mixV e3.2 e5.2 (easeI (pa_Ease_Kind, (pa_Ease_Curve_0, pa_Ease_Curve_1, pa_Ease_Curve_2, pa_Ease_Curve_3), pa_Ease_N) (IntKind.wrap .i64 (Int.tdiv (IntKind.wrap .i64 ((IntKind.wrap .i64 (pr - e3.1)) * 1000)) (IntKind.wrap .i64 (e5.1 - e3.1)))))).2)))) ∧ ((decide (x5l7 ≥ 0)) = false → K 0 0)
def rfvall7 (pa_Ease_Kind : Int) (pa_Ease_Curve_0 : Int) (pa_Ease_Curve_1 : Int) (pa_Ease_Curve_2 : Int) (pa_Ease_Curve_3 : Int) (pa_Ease_N : Int) (pa_Frames : List (Int × Int × Int)) (pr : Int) (K : Int → Int → Prop) : Nat → Int → Prop
  | 0, _ => False
  | k + 1, x5l7 => rfvall7b pa_Ease_Kind pa_Ease_Curve_0 pa_Ease_Curve_1 pa_Ease_Curve_2 pa_Ease_Curve_3 pa_Ease_N pa_Frames pr K x5l7 (rfvall7 pa_Ease_Kind pa_Ease_Curve_0 pa_Ease_Curve_1 pa_Ease_Curve_2 pa_Ease_Curve_3 pa_Ease_N pa_Frames pr K k)
def rfvalF (pa_Ease_Kind : Int) (pa_Ease_Curve_0 : Int) (pa_Ease_Curve_1 : Int) (pa_Ease_Curve_2 : Int) (pa_Ease_Curve_3 : Int) (pa_Ease_N : Int) (pa_Frames : List (Int × Int × Int)) (pr : Int) (K : Int → Int → Prop) : Prop :=
  ∃ k, rfvall7 pa_Ease_Kind pa_Ease_Curve_0 pa_Ease_Curve_1 pa_Ease_Curve_2 pa_Ease_Curve_3 pa_Ease_N pa_Frames pr K k (IntKind.wrap .i64 ((pa_Frames.length : Int) - 1))
set_option maxHeartbeats 4000000 in
set_option maxRecDepth 100000 in
set_option linter.unusedVariables false in
theorem rfval_ok {g : Ghost} (pa_From : Int) (pa_Length : Int) (pa_Times : Int) (pa_Turn : Bool) (pa_Stays : Bool) (pa_Ease_Kind : Int) (pa_Ease_Curve_0 : Int) (pa_Ease_Curve_1 : Int) (pa_Ease_Curve_2 : Int) (pa_Ease_Curve_3 : Int) (pa_Ease_N : Int) {apa_Frames : Option Addr} {cpa_Frames : Nat} (pa_Frames : List (Int × Int × Int)) (pr : Int) (hRpa_Frames : Rep g (.slice (.pair (.int .i64) (.pair (.int .i64) (.int .i64)))) [.slice apa_Frames pa_Frames.length cpa_Frames] pa_Frames) (K : Int → Int → Prop)
    (hF : rfvalF pa_Ease_Kind pa_Ease_Curve_0 pa_Ease_Curve_1 pa_Ease_Curve_2 pa_Ease_Curve_3 pa_Ease_N pa_Frames pr K) : CallsK Try.prog 51 #[.agg #[.int .i64 pa_From, .int .i64 pa_Length, .int .i64 pa_Times, .bool pa_Turn, .bool pa_Stays, .int .i64 pa_Ease_Kind, .int .i64 pa_Ease_Curve_0, .int .i64 pa_Ease_Curve_1, .int .i64 pa_Ease_Curve_2, .int .i64 pa_Ease_Curve_3, .int .i64 pa_Ease_N, .slice apa_Frames pa_Frames.length cpa_Frames], .int .i64 pr] g (fun v => ∃ r0 : Int, ∃ r1 : Int, v = .agg #[.int .i64 r0, .int .i64 r1] ∧ K r0 r1) := by
  refine CallsK.enter 59 [(0, .agg #[.int .i64 pa_From, .int .i64 pa_Length, .int .i64 pa_Times, .bool pa_Turn, .bool pa_Stays, .int .i64 pa_Ease_Kind, .int .i64 pa_Ease_Curve_0, .int .i64 pa_Ease_Curve_1, .int .i64 pa_Ease_Curve_2, .int .i64 pa_Ease_Curve_3, .int .i64 pa_Ease_N, .slice apa_Frames pa_Frames.length cpa_Frames]), (1, .int .i64 pr)] Try.func51 rfl (by kernel_rfl) (by kernel_rfl) (by kernel_rfl) fun w0 => ?_
  refine Ok.seq ?_
  refine Ok.region ?_
  refine Ok.op rfl (OpOk.box (v := .agg #[.int .i64 pa_From, .int .i64 pa_Length, .int .i64 pa_Times, .bool pa_Turn, .bool pa_Stays, .int .i64 pa_Ease_Kind, .int .i64 pa_Ease_Curve_0, .int .i64 pa_Ease_Curve_1, .int .i64 pa_Ease_Curve_2, .int .i64 pa_Ease_Curve_3, .int .i64 pa_Ease_N, .slice apa_Frames pa_Frames.length cpa_Frames]) (cs := #[.int .i64 pa_From, .int .i64 pa_Length, .int .i64 pa_Times, .bool pa_Turn, .bool pa_Stays, .int .i64 pa_Ease_Kind, .int .i64 pa_Ease_Curve_0, .int .i64 pa_Ease_Curve_1, .int .i64 pa_Ease_Curve_2, .int .i64 pa_Ease_Curve_3, .int .i64 pa_Ease_N, .slice apa_Frames pa_Frames.length cpa_Frames]) rfl (by kernel_rfl) rfl fun b1 => ?_)
  refine Ok.op rfl (OpOk.alloc (z := .agg #[.int .i64 0, .int .i64 0]) (cs := #[.int .i64 0, .int .i64 0]) (by kernel_rfl) (by kernel_rfl) rfl fun b2 => ?_)
  refine Ok.nil ?_
  refine Ok.thenN ?_
  refine Ok.seq ?_
  refine Ok.seq ?_
  refine Ok.region ?_
  refine Ok.batch 1 [(1, .int .i64 pr), (2, .pointer (some ⟨b1, 0, none⟩)), (4, .pointer (some ⟨b2, 0, none⟩)), (8, .pointer (some ⟨b1, 11, none⟩))] (by kernel_rfl) ?_
  refine Ok.op rfl (OpOk.step (v := .slice apa_Frames pa_Frames.length cpa_Frames) (Yields.load 1 rfl rfl Try.underlying38 rfl (by kernel_rfl)) rfl rfl ?_)
  refine Ok.batch 3 [(1, .int .i64 pr), (2, .pointer (some ⟨b1, 0, none⟩)), (4, .pointer (some ⟨b2, 0, none⟩)), (5, .int .i64 (IntKind.wrap .i64 ((pa_Frames.length : Int) - 1)))] (by kernel_rfl) ?_
  refine Ok.nil ?_
  refine Ok.thenN ?_
  refine Ok.block ?_
  obtain ⟨k, hF⟩ := hF
  refine Ok.loop (fun k a W => ∃ (x5l7 : Int), StA 59 [(1, .int .i64 pr), (2, .pointer (some ⟨b1, 0, none⟩)), (4, .pointer (some ⟨b2, 0, none⟩)), (5, .int .i64 x5l7)] a ∧ StW w0 [.blk b2 (.cells #[.int .i64 0, .int .i64 0] 44), .blk b1 (.cells #[.int .i64 pa_From, .int .i64 pa_Length, .int .i64 pa_Times, .bool pa_Turn, .bool pa_Stays, .int .i64 pa_Ease_Kind, .int .i64 pa_Ease_Curve_0, .int .i64 pa_Ease_Curve_1, .int .i64 pa_Ease_Curve_2, .int .i64 pa_Ease_Curve_3, .int .i64 pa_Ease_N, .slice apa_Frames pa_Frames.length cpa_Frames] 40)] g W ∧ rfvall7 pa_Ease_Kind pa_Ease_Curve_0 pa_Ease_Curve_1 pa_Ease_Curve_2 pa_Ease_Curve_3 pa_Ease_N pa_Frames pr K k x5l7) k ?_ ?_
  ·
    exact fun a W hA hW => ⟨(IntKind.wrap .i64 ((pa_Frames.length : Int) - 1)), hA.sub (by kernel_rfl), hW, hF⟩
  ·
    rintro k7 a W ⟨x5l7, hA, hW, hF⟩
    cases k7 with
    | zero => exact (hF : False).elim
    | succ k7 =>
      refine (?_ : Ok _ _ _ _ _ _) a W hA hW
      clear hA hW
      refine Ok.seq ?_
      refine Ok.seq ?_
      refine Ok.region ?_
      refine Ok.batch 2 [(1, .int .i64 pr), (2, .pointer (some ⟨b1, 0, none⟩)), (4, .pointer (some ⟨b2, 0, none⟩)), (5, .int .i64 x5l7), (13, .bool (decide (x5l7 ≥ 0)))] (by kernel_rfl) ?_
      refine Ok.nil ?_
      refine Ok.thenN ?_
      refine Ok.cond (b := decide (x5l7 ≥ 0)) rfl (fun hc => ?_) (fun hc => ?_)
      · replace hF := hF.1 hc
        refine Ok.skip ?_
        refine Ok.thenN ?_
        refine Ok.seq ?_
        refine Ok.block ?_
        refine Ok.seq ?_
        refine Ok.region ?_
        refine Ok.batch 1 [(1, .int .i64 pr), (2, .pointer (some ⟨b1, 0, none⟩)), (4, .pointer (some ⟨b2, 0, none⟩)), (5, .int .i64 x5l7), (16, .pointer (some ⟨b1, 11, none⟩))] (by kernel_rfl) ?_
        refine Ok.op rfl (OpOk.step (v := .slice apa_Frames pa_Frames.length cpa_Frames) (Yields.load 1 rfl rfl Try.underlying38 rfl (by kernel_rfl)) rfl rfl ?_)
        refine Ok.batch 1 [(1, .int .i64 pr), (2, .pointer (some ⟨b1, 0, none⟩)), (4, .pointer (some ⟨b2, 0, none⟩)), (5, .int .i64 x5l7), (17, .slice apa_Frames pa_Frames.length cpa_Frames), (18, .int .i64 x5l7)] (by kernel_rfl) ?_
        obtain ⟨e3, h03, he3, hF⟩ := hF
        refine Ok.op rfl (OpOk.indexRo (e := .pair (.int .i64) (.pair (.int .i64) (.int .i64))) (i := x5l7) (el := e3) rfl rfl Try.underlying38 (by kernel_rfl) hRpa_Frames h03 he3 rfl fun q3 o3 cs3 _ hat3 hr3 => ?_)
        obtain ⟨_, _, rfl, ⟨rfl, _⟩, ⟨_, _, rfl, ⟨rfl, _⟩, ⟨rfl, _⟩⟩⟩ := hr3
        replace hat3 : At g q3 o3 [.int .i64 e3.1, .int .i64 e3.2.1, .int .i64 e3.2.2] := hat3
        refine Ok.op rfl (OpOk.step (v := .agg #[.int .i64 e3.1, .int .i64 e3.2.1, .int .i64 e3.2.2]) (Yields.loadAggRo 0 3 #[.int .i64 e3.1, .int .i64 e3.2.1, .int .i64 e3.2.2] hat3 (by kernel_rfl) Try.underlying78 rfl (by kernel_rfl) (by kernel_rfl) (by kernel_rfl)) rfl rfl ?_)
        refine Ok.op rfl (OpOk.alloc (z := .agg #[.int .i64 0, .int .i64 0, .int .i64 0]) (cs := #[.int .i64 0, .int .i64 0, .int .i64 0]) (by kernel_rfl) (by kernel_rfl) rfl fun b4 => ?_)
        refine Ok.op rfl (OpOk.store (k := 3) (v := .agg #[.int .i64 e3.1, .int .i64 e3.2.1, .int .i64 e3.2.2]) (H' := [.blk b4 (.cells #[.int .i64 e3.1, .int .i64 e3.2.1, .int .i64 e3.2.2] 78), .blk b2 (.cells #[.int .i64 0, .int .i64 0] 44), .blk b1 (.cells #[.int .i64 pa_From, .int .i64 pa_Length, .int .i64 pa_Times, .bool pa_Turn, .bool pa_Stays, .int .i64 pa_Ease_Kind, .int .i64 pa_Ease_Curve_0, .int .i64 pa_Ease_Curve_1, .int .i64 pa_Ease_Curve_2, .int .i64 pa_Ease_Curve_3, .int .i64 pa_Ease_N, .slice apa_Frames pa_Frames.length cpa_Frames] 40)]) 0 rfl rfl rfl (by kernel_rfl) (by kernel_rfl) (by kernel_rfl) (by kernel_rfl) (by kernel_rfl) ?_)
        refine Ok.nil ?_
        refine Ok.thenN ?_
        refine Ok.seq ?_
        refine Ok.seq ?_
        refine Ok.region ?_
        refine Ok.batch 1 [(1, .int .i64 pr), (2, .pointer (some ⟨b1, 0, none⟩)), (4, .pointer (some ⟨b2, 0, none⟩)), (5, .int .i64 x5l7), (6, .pointer (some ⟨b4, 0, none⟩)), (21, .pointer (some ⟨b4, 0, none⟩))] (by kernel_rfl) ?_
        refine Ok.op rfl (OpOk.step (v := .int .i64 e3.1) (Yields.load 0 rfl rfl Try.underlying3 rfl (by kernel_rfl)) rfl rfl ?_)
        refine Ok.batch 2 [(1, .int .i64 pr), (2, .pointer (some ⟨b1, 0, none⟩)), (4, .pointer (some ⟨b2, 0, none⟩)), (5, .int .i64 x5l7), (6, .pointer (some ⟨b4, 0, none⟩)), (24, .bool (decide (e3.1 > pr)))] (by kernel_rfl) ?_
        refine Ok.nil ?_
        refine Ok.thenN ?_
        refine Ok.cond (b := decide (e3.1 > pr)) rfl (fun hc => ?_) (fun hc => ?_)
        · replace hF := hF.1 hc
          refine Ok.exit ?_
          refine Ok.thenE ?_
          refine Ok.blockHit ?_
          refine Ok.thenN ?_
          refine Ok.region ?_
          refine Ok.batch 3 [(1, .int .i64 pr), (2, .pointer (some ⟨b1, 0, none⟩)), (4, .pointer (some ⟨b2, 0, none⟩)), (5, .int .i64 (IntKind.wrap .i64 (x5l7 - 1)))] (by kernel_rfl) ?_
          refine Ok.nil ?_
          refine Ok.thenN ?_
          exact fun a W hA hW => ⟨k7, Nat.lt_succ_self _, (IntKind.wrap .i64 (x5l7 - 1)), hA.sub (by kernel_rfl), hW.sub (.cons _ (.cons_cons _ (.cons_cons _ .slnil))), hF⟩
        · replace hF := hF.2 hc
          refine Ok.skip ?_
          refine Ok.thenN ?_
          refine Ok.seq ?_
          refine Ok.seq ?_
          refine Ok.region ?_
          refine Ok.batch 2 [(1, .int .i64 pr), (2, .pointer (some ⟨b1, 0, none⟩)), (4, .pointer (some ⟨b2, 0, none⟩)), (5, .int .i64 x5l7), (6, .pointer (some ⟨b4, 0, none⟩)), (25, .int .i64 x5l7), (26, .pointer (some ⟨b1, 11, none⟩))] (by kernel_rfl) ?_
          refine Ok.op rfl (OpOk.step (v := .slice apa_Frames pa_Frames.length cpa_Frames) (Yields.load 2 rfl rfl Try.underlying38 rfl (by kernel_rfl)) rfl rfl ?_)
          refine Ok.batch 3 [(1, .int .i64 pr), (2, .pointer (some ⟨b1, 0, none⟩)), (4, .pointer (some ⟨b2, 0, none⟩)), (5, .int .i64 x5l7), (6, .pointer (some ⟨b4, 0, none⟩)), (30, .bool (x5l7 == (IntKind.wrap .i64 ((pa_Frames.length : Int) - 1))))] (by kernel_rfl) ?_
          refine Ok.nil ?_
          refine Ok.thenN ?_
          refine Ok.cond (b := (x5l7 == (IntKind.wrap .i64 ((pa_Frames.length : Int) - 1)))) rfl (fun hc => ?_) (fun hc => ?_)
          · replace hF := hF.1 hc
            refine Ok.seq ?_
            refine Ok.region ?_
            refine Ok.batch 1 [(4, .pointer (some ⟨b2, 0, none⟩)), (31, .pointer (some ⟨b4, 1, none⟩))] (by kernel_rfl) ?_
            refine Ok.op rfl (OpOk.step (v := .agg #[.int .i64 e3.2.1, .int .i64 e3.2.2]) (Yields.loadAgg 0 2 #[.int .i64 e3.2.1, .int .i64 e3.2.2] rfl rfl Try.underlying44 rfl (by kernel_rfl) (by kernel_rfl) (by kernel_rfl)) rfl rfl ?_)
            refine Ok.op rfl (OpOk.store (k := 2) (v := .agg #[.int .i64 e3.2.1, .int .i64 e3.2.2]) (H' := [.blk b4 (.cells #[.int .i64 e3.1, .int .i64 e3.2.1, .int .i64 e3.2.2] 78), .blk b2 (.cells #[.int .i64 e3.2.1, .int .i64 e3.2.2] 44), .blk b1 (.cells #[.int .i64 pa_From, .int .i64 pa_Length, .int .i64 pa_Times, .bool pa_Turn, .bool pa_Stays, .int .i64 pa_Ease_Kind, .int .i64 pa_Ease_Curve_0, .int .i64 pa_Ease_Curve_1, .int .i64 pa_Ease_Curve_2, .int .i64 pa_Ease_Curve_3, .int .i64 pa_Ease_N, .slice apa_Frames pa_Frames.length cpa_Frames] 40)]) 1 rfl rfl rfl (by kernel_rfl) (by kernel_rfl) (by kernel_rfl) (by kernel_rfl) (by kernel_rfl) ?_)
            refine Ok.nil ?_
            refine Ok.thenN ?_
            refine Ok.ret ?_
            refine Ok.thenR ?_
            refine Ok.blockR ?_
            refine Ok.thenR ?_
            refine Ok.thenR ?_
            refine Ok.blockR ?_
            refine Ok.thenR ?_
            exact Ok.res1 (.inl rfl) rfl (.cellAgg 1 2 #[.int .i64 e3.2.1, .int .i64 e3.2.2] rfl rfl Try.underlying44 rfl (by kernel_rfl) (by kernel_rfl) (by kernel_rfl)) ⟨e3.2.1, e3.2.2, rfl, hF⟩
          · replace hF := hF.2 hc
            refine Ok.skip ?_
            refine Ok.thenN ?_
            refine Ok.seq ?_
            refine Ok.region ?_
            refine Ok.batch 1 [(1, .int .i64 pr), (2, .pointer (some ⟨b1, 0, none⟩)), (4, .pointer (some ⟨b2, 0, none⟩)), (5, .int .i64 x5l7), (6, .pointer (some ⟨b4, 0, none⟩)), (33, .pointer (some ⟨b1, 11, none⟩))] (by kernel_rfl) ?_
            refine Ok.op rfl (OpOk.step (v := .slice apa_Frames pa_Frames.length cpa_Frames) (Yields.load 2 rfl rfl Try.underlying38 rfl (by kernel_rfl)) rfl rfl ?_)
            refine Ok.batch 2 [(1, .int .i64 pr), (2, .pointer (some ⟨b1, 0, none⟩)), (4, .pointer (some ⟨b2, 0, none⟩)), (6, .pointer (some ⟨b4, 0, none⟩)), (34, .slice apa_Frames pa_Frames.length cpa_Frames), (36, .int .i64 (IntKind.wrap .i64 (x5l7 + 1)))] (by kernel_rfl) ?_
            obtain ⟨e5, h05, he5, hF⟩ := hF
            refine Ok.op rfl (OpOk.indexRo (e := .pair (.int .i64) (.pair (.int .i64) (.int .i64))) (i := IntKind.wrap .i64 (x5l7 + 1)) (el := e5) rfl rfl Try.underlying38 (by kernel_rfl) hRpa_Frames h05 he5 rfl fun q5 o5 cs5 _ hat5 hr5 => ?_)
            obtain ⟨_, _, rfl, ⟨rfl, _⟩, ⟨_, _, rfl, ⟨rfl, _⟩, ⟨rfl, _⟩⟩⟩ := hr5
            replace hat5 : At g q5 o5 [.int .i64 e5.1, .int .i64 e5.2.1, .int .i64 e5.2.2] := hat5
            refine Ok.op rfl (OpOk.step (v := .agg #[.int .i64 e5.1, .int .i64 e5.2.1, .int .i64 e5.2.2]) (Yields.loadAggRo 0 3 #[.int .i64 e5.1, .int .i64 e5.2.1, .int .i64 e5.2.2] hat5 (by kernel_rfl) Try.underlying78 rfl (by kernel_rfl) (by kernel_rfl) (by kernel_rfl)) rfl rfl ?_)
            refine Ok.op rfl (OpOk.alloc (z := .agg #[.int .i64 0, .int .i64 0, .int .i64 0]) (cs := #[.int .i64 0, .int .i64 0, .int .i64 0]) (by kernel_rfl) (by kernel_rfl) rfl fun b6 => ?_)
            refine Ok.op rfl (OpOk.store (k := 3) (v := .agg #[.int .i64 e5.1, .int .i64 e5.2.1, .int .i64 e5.2.2]) (H' := [.blk b6 (.cells #[.int .i64 e5.1, .int .i64 e5.2.1, .int .i64 e5.2.2] 78), .blk b4 (.cells #[.int .i64 e3.1, .int .i64 e3.2.1, .int .i64 e3.2.2] 78), .blk b2 (.cells #[.int .i64 0, .int .i64 0] 44), .blk b1 (.cells #[.int .i64 pa_From, .int .i64 pa_Length, .int .i64 pa_Times, .bool pa_Turn, .bool pa_Stays, .int .i64 pa_Ease_Kind, .int .i64 pa_Ease_Curve_0, .int .i64 pa_Ease_Curve_1, .int .i64 pa_Ease_Curve_2, .int .i64 pa_Ease_Curve_3, .int .i64 pa_Ease_N, .slice apa_Frames pa_Frames.length cpa_Frames] 40)]) 0 rfl rfl rfl (by kernel_rfl) (by kernel_rfl) (by kernel_rfl) (by kernel_rfl) (by kernel_rfl) ?_)
            refine Ok.nil ?_
            refine Ok.thenN ?_
            refine Ok.seq ?_
            refine Ok.mix [.blk b6 (.cells #[.int .i64 e5.1, .int .i64 e5.2.1, .int .i64 e5.2.2] 78), .blk b4 (.cells #[.int .i64 e3.1, .int .i64 e3.2.1, .int .i64 e3.2.2] 78), .blk b1 (.cells #[.int .i64 pa_From, .int .i64 pa_Length, .int .i64 pa_Times, .bool pa_Turn, .bool pa_Stays, .int .i64 pa_Ease_Kind, .int .i64 pa_Ease_Curve_0, .int .i64 pa_Ease_Curve_1, .int .i64 pa_Ease_Curve_2, .int .i64 pa_Ease_Curve_3, .int .i64 pa_Ease_N, .slice apa_Frames pa_Frames.length cpa_Frames] 40)] [(0, true), (1, true), (2, true), (3, true), (4, true), (5, true), (6, true), (7, true), (8, true), (9, true), (10, true), (11, true), (12, true), (13, true), (14, true), (15, true), (16, true), (17, true), (18, true), (19, false)] (by kernel_rfl) (by kernel_rfl) (.cons_cons _ (.cons_cons _ (.cons _ (.cons_cons _ .slnil)))) ?_
            refine OkM.batch 1 [(1, .int .i64 pr), (2, .pointer (some ⟨b1, 0, none⟩)), (4, .pointer (some ⟨b2, 0, none⟩)), (6, .pointer (some ⟨b4, 0, none⟩)), (7, .pointer (some ⟨b6, 0, none⟩)), (39, .pointer (some ⟨b4, 1, none⟩))] (by kernel_rfl) ?_
            refine OkM.head rfl rfl (OpQ.step (v := .agg #[.int .i64 e3.2.1, .int .i64 e3.2.2]) (Yields.loadAgg 1 2 #[.int .i64 e3.2.1, .int .i64 e3.2.2] rfl rfl Try.underlying44 rfl (by kernel_rfl) (by kernel_rfl) (by kernel_rfl)) rfl rfl ?_)
            refine OkM.batch 1 [(1, .int .i64 pr), (2, .pointer (some ⟨b1, 0, none⟩)), (4, .pointer (some ⟨b2, 0, none⟩)), (6, .pointer (some ⟨b4, 0, none⟩)), (7, .pointer (some ⟨b6, 0, none⟩)), (40, .agg #[.int .i64 e3.2.1, .int .i64 e3.2.2]), (41, .pointer (some ⟨b6, 1, none⟩))] (by kernel_rfl) ?_
            refine OkM.head rfl rfl (OpQ.step (v := .agg #[.int .i64 e5.2.1, .int .i64 e5.2.2]) (Yields.loadAgg 0 2 #[.int .i64 e5.2.1, .int .i64 e5.2.2] rfl rfl Try.underlying44 rfl (by kernel_rfl) (by kernel_rfl) (by kernel_rfl)) rfl rfl ?_)
            refine OkM.batch 1 [(1, .int .i64 pr), (4, .pointer (some ⟨b2, 0, none⟩)), (6, .pointer (some ⟨b4, 0, none⟩)), (7, .pointer (some ⟨b6, 0, none⟩)), (40, .agg #[.int .i64 e3.2.1, .int .i64 e3.2.2]), (42, .agg #[.int .i64 e5.2.1, .int .i64 e5.2.2]), (43, .pointer (some ⟨b1, 5, none⟩))] (by kernel_rfl) ?_
            refine OkM.head rfl rfl (OpQ.step (v := .agg #[.int .i64 pa_Ease_Kind, .int .i64 pa_Ease_Curve_0, .int .i64 pa_Ease_Curve_1, .int .i64 pa_Ease_Curve_2, .int .i64 pa_Ease_Curve_3, .int .i64 pa_Ease_N]) (Yields.loadAgg 2 6 #[.int .i64 pa_Ease_Kind, .int .i64 pa_Ease_Curve_0, .int .i64 pa_Ease_Curve_1, .int .i64 pa_Ease_Curve_2, .int .i64 pa_Ease_Curve_3, .int .i64 pa_Ease_N] rfl rfl Try.underlying25 rfl (by kernel_rfl) (by kernel_rfl) (by kernel_rfl)) rfl rfl ?_)
            refine OkM.batch 2 [(4, .pointer (some ⟨b2, 0, none⟩)), (6, .pointer (some ⟨b4, 0, none⟩)), (7, .pointer (some ⟨b6, 0, none⟩)), (40, .agg #[.int .i64 e3.2.1, .int .i64 e3.2.2]), (42, .agg #[.int .i64 e5.2.1, .int .i64 e5.2.2]), (44, .agg #[.int .i64 pa_Ease_Kind, .int .i64 pa_Ease_Curve_0, .int .i64 pa_Ease_Curve_1, .int .i64 pa_Ease_Curve_2, .int .i64 pa_Ease_Curve_3, .int .i64 pa_Ease_N]), (45, .int .i64 pr), (46, .pointer (some ⟨b4, 0, none⟩))] (by kernel_rfl) ?_
            refine OkM.head rfl rfl (OpQ.step (v := .int .i64 e3.1) (Yields.load 1 rfl rfl Try.underlying3 rfl (by kernel_rfl)) rfl rfl ?_)
            refine OkM.batch 3 [(4, .pointer (some ⟨b2, 0, none⟩)), (6, .pointer (some ⟨b4, 0, none⟩)), (40, .agg #[.int .i64 e3.2.1, .int .i64 e3.2.2]), (42, .agg #[.int .i64 e5.2.1, .int .i64 e5.2.2]), (44, .agg #[.int .i64 pa_Ease_Kind, .int .i64 pa_Ease_Curve_0, .int .i64 pa_Ease_Curve_1, .int .i64 pa_Ease_Curve_2, .int .i64 pa_Ease_Curve_3, .int .i64 pa_Ease_N]), (49, .int .i64 (IntKind.wrap .i64 ((IntKind.wrap .i64 (pr - e3.1)) * 1000))), (50, .pointer (some ⟨b6, 0, none⟩))] (by kernel_rfl) ?_
            refine OkM.head rfl rfl (OpQ.step (v := .int .i64 e5.1) (Yields.load 0 rfl rfl Try.underlying3 rfl (by kernel_rfl)) rfl rfl ?_)
            refine OkM.batch 1 [(4, .pointer (some ⟨b2, 0, none⟩)), (40, .agg #[.int .i64 e3.2.1, .int .i64 e3.2.2]), (42, .agg #[.int .i64 e5.2.1, .int .i64 e5.2.2]), (44, .agg #[.int .i64 pa_Ease_Kind, .int .i64 pa_Ease_Curve_0, .int .i64 pa_Ease_Curve_1, .int .i64 pa_Ease_Curve_2, .int .i64 pa_Ease_Curve_3, .int .i64 pa_Ease_N]), (49, .int .i64 (IntKind.wrap .i64 ((IntKind.wrap .i64 (pr - e3.1)) * 1000))), (51, .int .i64 e5.1), (52, .pointer (some ⟨b4, 0, none⟩))] (by kernel_rfl) ?_
            refine OkM.head rfl rfl (OpQ.step (v := .int .i64 e3.1) (Yields.load 1 rfl rfl Try.underlying3 rfl (by kernel_rfl)) rfl rfl ?_)
            refine OkM.batch 1 [(4, .pointer (some ⟨b2, 0, none⟩)), (40, .agg #[.int .i64 e3.2.1, .int .i64 e3.2.2]), (42, .agg #[.int .i64 e5.2.1, .int .i64 e5.2.2]), (44, .agg #[.int .i64 pa_Ease_Kind, .int .i64 pa_Ease_Curve_0, .int .i64 pa_Ease_Curve_1, .int .i64 pa_Ease_Curve_2, .int .i64 pa_Ease_Curve_3, .int .i64 pa_Ease_N]), (49, .int .i64 (IntKind.wrap .i64 ((IntKind.wrap .i64 (pr - e3.1)) * 1000))), (54, .int .i64 (IntKind.wrap .i64 (e5.1 - e3.1)))] (by kernel_rfl) ?_
            obtain ⟨hv, hF⟩ := hF
            refine OkM.head rfl rfl (OpQ.step (v := .int .i64 (IntKind.wrap .i64 (Int.tdiv (IntKind.wrap .i64 ((IntKind.wrap .i64 (pr - e3.1)) * 1000)) (IntKind.wrap .i64 (e5.1 - e3.1))))) (Yields.quo rfl rfl hv) rfl rfl ?_)
            obtain ⟨hp, hF⟩ := hF
            refine OkM.head rfl rfl (OpQ.call (v := .int .i64 (easeI (pa_Ease_Kind, (pa_Ease_Curve_0, pa_Ease_Curve_1, pa_Ease_Curve_2, pa_Ease_Curve_3), pa_Ease_N) (IntKind.wrap .i64 (Int.tdiv (IntKind.wrap .i64 ((IntKind.wrap .i64 (pr - e3.1)) * 1000)) (IntKind.wrap .i64 (e5.1 - e3.1)))))) (enters (by kernel_rfl) (fun _ => by kernel_rfl)) (rease_c (pa_Ease_Kind, (pa_Ease_Curve_0, pa_Ease_Curve_1, pa_Ease_Curve_2, pa_Ease_Curve_3), pa_Ease_N) (IntKind.wrap .i64 (Int.tdiv (IntKind.wrap .i64 ((IntKind.wrap .i64 (pr - e3.1)) * 1000)) (IntKind.wrap .i64 (e5.1 - e3.1)))) hp) rfl rfl ?_)
            refine OkM.head rfl rfl (OpQ.call (v := .agg #[.int .i64 ((mixV e3.2 e5.2 (easeI (pa_Ease_Kind, (pa_Ease_Curve_0, pa_Ease_Curve_1, pa_Ease_Curve_2, pa_Ease_Curve_3), pa_Ease_N) (IntKind.wrap .i64 (Int.tdiv (IntKind.wrap .i64 ((IntKind.wrap .i64 (pr - e3.1)) * 1000)) (IntKind.wrap .i64 (e5.1 - e3.1)))))).1), .int .i64 ((mixV e3.2 e5.2 (easeI (pa_Ease_Kind, (pa_Ease_Curve_0, pa_Ease_Curve_1, pa_Ease_Curve_2, pa_Ease_Curve_3), pa_Ease_N) (IntKind.wrap .i64 (Int.tdiv (IntKind.wrap .i64 ((IntKind.wrap .i64 (pr - e3.1)) * 1000)) (IntKind.wrap .i64 (e5.1 - e3.1)))))).2)]) (enters (by kernel_rfl) (fun _ => by kernel_rfl)) (rmix_c e3.2 e5.2 (easeI (pa_Ease_Kind, (pa_Ease_Curve_0, pa_Ease_Curve_1, pa_Ease_Curve_2, pa_Ease_Curve_3), pa_Ease_N) (IntKind.wrap .i64 (Int.tdiv (IntKind.wrap .i64 ((IntKind.wrap .i64 (pr - e3.1)) * 1000)) (IntKind.wrap .i64 (e5.1 - e3.1)))))) rfl rfl ?_)
            refine OkM.tail rfl rfl (OpOk.store (k := 2) (v := .agg #[.int .i64 ((mixV e3.2 e5.2 (easeI (pa_Ease_Kind, (pa_Ease_Curve_0, pa_Ease_Curve_1, pa_Ease_Curve_2, pa_Ease_Curve_3), pa_Ease_N) (IntKind.wrap .i64 (Int.tdiv (IntKind.wrap .i64 ((IntKind.wrap .i64 (pr - e3.1)) * 1000)) (IntKind.wrap .i64 (e5.1 - e3.1)))))).1), .int .i64 ((mixV e3.2 e5.2 (easeI (pa_Ease_Kind, (pa_Ease_Curve_0, pa_Ease_Curve_1, pa_Ease_Curve_2, pa_Ease_Curve_3), pa_Ease_N) (IntKind.wrap .i64 (Int.tdiv (IntKind.wrap .i64 ((IntKind.wrap .i64 (pr - e3.1)) * 1000)) (IntKind.wrap .i64 (e5.1 - e3.1)))))).2)]) (H' := [.blk b6 (.cells #[.int .i64 e5.1, .int .i64 e5.2.1, .int .i64 e5.2.2] 78), .blk b4 (.cells #[.int .i64 e3.1, .int .i64 e3.2.1, .int .i64 e3.2.2] 78), .blk b2 (.cells #[.int .i64 ((mixV e3.2 e5.2 (easeI (pa_Ease_Kind, (pa_Ease_Curve_0, pa_Ease_Curve_1, pa_Ease_Curve_2, pa_Ease_Curve_3), pa_Ease_N) (IntKind.wrap .i64 (Int.tdiv (IntKind.wrap .i64 ((IntKind.wrap .i64 (pr - e3.1)) * 1000)) (IntKind.wrap .i64 (e5.1 - e3.1)))))).1), .int .i64 ((mixV e3.2 e5.2 (easeI (pa_Ease_Kind, (pa_Ease_Curve_0, pa_Ease_Curve_1, pa_Ease_Curve_2, pa_Ease_Curve_3), pa_Ease_N) (IntKind.wrap .i64 (Int.tdiv (IntKind.wrap .i64 ((IntKind.wrap .i64 (pr - e3.1)) * 1000)) (IntKind.wrap .i64 (e5.1 - e3.1)))))).2)] 44), .blk b1 (.cells #[.int .i64 pa_From, .int .i64 pa_Length, .int .i64 pa_Times, .bool pa_Turn, .bool pa_Stays, .int .i64 pa_Ease_Kind, .int .i64 pa_Ease_Curve_0, .int .i64 pa_Ease_Curve_1, .int .i64 pa_Ease_Curve_2, .int .i64 pa_Ease_Curve_3, .int .i64 pa_Ease_N, .slice apa_Frames pa_Frames.length cpa_Frames] 40)]) 2 rfl rfl rfl (by kernel_rfl) (by kernel_rfl) (by kernel_rfl) (by kernel_rfl) (by kernel_rfl) ?_)
            refine OkM.leaf (.cons_cons _ (.cons_cons _ (.cons _ (.cons_cons _ .slnil)))) ?_
            refine OkM.nil ?_
            refine Ok.thenN ?_
            refine Ok.ret ?_
            refine Ok.blockR ?_
            refine Ok.thenR ?_
            refine Ok.thenR ?_
            refine Ok.blockR ?_
            refine Ok.thenR ?_
            exact Ok.res1 (.inl rfl) rfl (.cellAgg 2 2 #[.int .i64 ((mixV e3.2 e5.2 (easeI (pa_Ease_Kind, (pa_Ease_Curve_0, pa_Ease_Curve_1, pa_Ease_Curve_2, pa_Ease_Curve_3), pa_Ease_N) (IntKind.wrap .i64 (Int.tdiv (IntKind.wrap .i64 ((IntKind.wrap .i64 (pr - e3.1)) * 1000)) (IntKind.wrap .i64 (e5.1 - e3.1)))))).1), .int .i64 ((mixV e3.2 e5.2 (easeI (pa_Ease_Kind, (pa_Ease_Curve_0, pa_Ease_Curve_1, pa_Ease_Curve_2, pa_Ease_Curve_3), pa_Ease_N) (IntKind.wrap .i64 (Int.tdiv (IntKind.wrap .i64 ((IntKind.wrap .i64 (pr - e3.1)) * 1000)) (IntKind.wrap .i64 (e5.1 - e3.1)))))).2)] rfl rfl Try.underlying44 rfl (by kernel_rfl) (by kernel_rfl) (by kernel_rfl)) ⟨(mixV e3.2 e5.2 (easeI (pa_Ease_Kind, (pa_Ease_Curve_0, pa_Ease_Curve_1, pa_Ease_Curve_2, pa_Ease_Curve_3), pa_Ease_N) (IntKind.wrap .i64 (Int.tdiv (IntKind.wrap .i64 ((IntKind.wrap .i64 (pr - e3.1)) * 1000)) (IntKind.wrap .i64 (e5.1 - e3.1)))))).1, (mixV e3.2 e5.2 (easeI (pa_Ease_Kind, (pa_Ease_Curve_0, pa_Ease_Curve_1, pa_Ease_Curve_2, pa_Ease_Curve_3), pa_Ease_N) (IntKind.wrap .i64 (Int.tdiv (IntKind.wrap .i64 ((IntKind.wrap .i64 (pr - e3.1)) * 1000)) (IntKind.wrap .i64 (e5.1 - e3.1)))))).2, rfl, hF⟩
      · replace hF := hF.2 hc
        refine Ok.exit ?_
        refine Ok.thenE ?_
        refine Ok.thenE ?_
        refine Ok.blockHit ?_
        refine Ok.thenN ?_
        refine Ok.seq ?_
        refine Ok.region ?_
        refine Ok.batch 1 [(4, .pointer (some ⟨b2, 0, none⟩)), (58, .agg #[.int .i64 0, .int .i64 0])] (by kernel_rfl) ?_
        refine Ok.op rfl (OpOk.store (k := 2) (v := .agg #[.int .i64 0, .int .i64 0]) (H' := [.blk b2 (.cells #[.int .i64 0, .int .i64 0] 44), .blk b1 (.cells #[.int .i64 pa_From, .int .i64 pa_Length, .int .i64 pa_Times, .bool pa_Turn, .bool pa_Stays, .int .i64 pa_Ease_Kind, .int .i64 pa_Ease_Curve_0, .int .i64 pa_Ease_Curve_1, .int .i64 pa_Ease_Curve_2, .int .i64 pa_Ease_Curve_3, .int .i64 pa_Ease_N, .slice apa_Frames pa_Frames.length cpa_Frames] 40)]) 0 rfl rfl rfl (by kernel_rfl) (by kernel_rfl) (by kernel_rfl) (by kernel_rfl) (by kernel_rfl) ?_)
        refine Ok.nil ?_
        refine Ok.thenN ?_
        refine Ok.ret ?_
        exact Ok.res1 (.inl rfl) rfl (.cellAgg 0 2 #[.int .i64 0, .int .i64 0] rfl rfl Try.underlying44 rfl (by kernel_rfl) (by kernel_rfl) (by kernel_rfl)) ⟨0, 0, rfl, hF⟩
theorem fval_to {e : E} {l : List Fr} {r : Int} (hr : rising l = true) : ∀ (k : Nat) (x : Fr), l[k]? = some x → x.1 ≤ r → fvalL e l r = fvalL e (l.drop k) r
  | 0, _, _, _ => by rw [List.drop_zero]
  | k + 1, x, hx, h => by
    have hl : k + 1 < l.length := (List.getElem?_eq_some_iff.1 hx).1
    obtain ⟨z, hz⟩ := get_some (l := l) (i := k) (by omega)
    have h1 := rising_lt hr hz hx
    rw [fval_to hr k z hz (by omega), fval_step hz hx, if_pos h]
theorem rfval_body {e : E} {l : List Fr} {r : Int} {K : Int → Int → Prop} {C : Int → Prop} (hm : mayB e = true) (hl : l.length ≤ 10) (h0 : (l.headD (0, 0, 0)).1 = 0) (h1 : (l.getLastD (0, 0, 0)).1 = 1000) (hr : rising l = true) (hr1 : r ≤ 1000)
    (hK : K (fvalL e l r).1 (fvalL e l r).2) {k : Nat} {x : Fr} (hx : l[k]? = some x) (hab : ∀ y, l[k + 1]? = some y → r < y.1) (hC : r < x.1 → C ((k : Int) - 1)) : rfvall7b e.1 e.2.1.1 e.2.1.2.1 e.2.1.2.2.1 e.2.1.2.2.2 e.2.2 l r K k C := by
  have hk : k < l.length := (List.getElem?_eq_some_iff.1 hx).1
  have hb := at_bd h0 h1 hr hx
  unfold rfvall7b
  refine ⟨fun _ => ⟨x, by omega, by rw [show ((k : Int).toNat) = k by omega]; exact hx, fun h => ?_, fun h => ?_⟩, fun h => by have := of_decide_eq_false h; omega⟩
  · rw [i64_in _ (by omega)]; exact hC (of_decide_eq_true h)
  · have h := of_decide_eq_false h
    rw [fval_to hr k x hx (by omega)] at hK
    rw [i64_in ((l.length : Int) - 1) (by omega), i64_in ((k : Int) + 1) (by omega)]
    refine ⟨fun h2 => ?_, fun h2 => ?_⟩
    · have h2 : (k : Int) = (l.length : Int) - 1 := by simpa using h2
      rw [fval_last hx (by omega)] at hK; exact hK
    · have h2 : ¬ (k : Int) = (l.length : Int) - 1 := by simpa using h2
      obtain ⟨y, hy⟩ := get_some (l := l) (i := k + 1) (by omega)
      have hb2 := at_bd h0 h1 hr hy
      have hlt := hab y hy
      obtain ⟨p1, p2, p3⟩ := place_eq hb.1 (show x.1 ≤ r by omega) hlt hb2.2
      rw [fval_step hx hy, if_neg (by omega)] at hK
      refine ⟨y, by omega, by rw [show ((k : Int) + 1).toNat = k + 1 by omega]; exact hy, by rw [i64_in _ (by omega)]; omega, ?_, ?_⟩
      · rw [p1]; exact ⟨hm, p2, p3⟩
      · rw [p1]; exact hK
theorem rfval_loop {e : E} {l : List Fr} {r : Int} {K : Int → Int → Prop} (hm : mayB e = true) (hl : l.length ≤ 10) (h0 : (l.headD (0, 0, 0)).1 = 0) (h1 : (l.getLastD (0, 0, 0)).1 = 1000) (hr : rising l = true) (hr0 : 0 ≤ r) (hr1 : r ≤ 1000)
    (hK : K (fvalL e l r).1 (fvalL e l r).2) : ∀ (k : Nat), k < l.length → (∀ y, l[k + 1]? = some y → r < y.1) → rfvall7 e.1 e.2.1.1 e.2.1.2.1 e.2.1.2.2.1 e.2.1.2.2.2 e.2.2 l r K (k + 1) k := by
  intro k
  induction k with
  | zero =>
    intro hk hab
    obtain ⟨x, hx⟩ := get_some hk
    have : x.1 = 0 := by rw [head_of hx] at h0; exact h0
    exact rfval_body hm hl h0 h1 hr hr1 hK hx hab (fun h => by omega)
  | succ k ih =>
    intro hk hab
    obtain ⟨x, hx⟩ := get_some hk
    refine rfval_body hm hl h0 h1 hr hr1 hK hx hab (fun h => ?_)
    rw [show ((k + 1 : Nat) : Int) - 1 = (k : Int) by omega]
    exact ih (by omega) fun y hy => by rw [hx] at hy; cases hy; exact h
theorem rfval_F (a : A) (r : Int) (hp : fvalP a r) : rfvalF a.2.2.2.2.2.1.1 a.2.2.2.2.2.1.2.1.1 a.2.2.2.2.2.1.2.1.2.1 a.2.2.2.2.2.1.2.1.2.2.1 a.2.2.2.2.2.1.2.1.2.2.2 a.2.2.2.2.2.1.2.2 a.2.2.2.2.2.2 r (fun x y => x = (fval a r).1 ∧ y = (fval a r).2) := by
  obtain ⟨hp, hr0, hr1⟩ := hp
  obtain ⟨-, -, -, hm, hl2, hl, h0, h1, hr⟩ := right_of hp
  unfold rfvalF
  refine ⟨a.2.2.2.2.2.2.length - 1 + 1, ?_⟩
  rw [i64_in _ (by omega), show ((a.2.2.2.2.2.2.length : Int) - 1) = ((a.2.2.2.2.2.2.length - 1 : Nat) : Int) by omega]
  refine rfval_loop (K := fun x y => x = (fval a r).1 ∧ y = (fval a r).2) hm hl h0 h1 hr hr0 hr1 ⟨rfl, rfl⟩ _ (by omega) fun y hy => ?_
  have := (List.getElem?_eq_some_iff.1 hy).1
  omega
set_option linter.unusedVariables false in
theorem rfval_c {g : Ghost} (xa : Int × Int × Int × Bool × Bool × (Int × (Int × Int × Int × Int) × Int) × List (Int × Int × Int)) {a0 : Option Addr} {c0 : Nat} (xr : Int) (hR0 : Rep g (.slice (.pair (.int .i64) (.pair (.int .i64) (.int .i64)))) [.slice a0 xa.2.2.2.2.2.2.length c0] xa.2.2.2.2.2.2) (hp : fvalP xa xr) : CallsG Try.prog 51 #[.agg #[.int .i64 xa.1, .int .i64 xa.2.1, .int .i64 xa.2.2.1, .bool xa.2.2.2.1, .bool xa.2.2.2.2.1, .int .i64 xa.2.2.2.2.2.1.1, .int .i64 xa.2.2.2.2.2.1.2.1.1, .int .i64 xa.2.2.2.2.2.1.2.1.2.1, .int .i64 xa.2.2.2.2.2.1.2.1.2.2.1, .int .i64 xa.2.2.2.2.2.1.2.1.2.2.2, .int .i64 xa.2.2.2.2.2.1.2.2, .slice a0 xa.2.2.2.2.2.2.length c0], .int .i64 xr] g (.agg #[.int .i64 ((fval xa xr).1), .int .i64 ((fval xa xr).2)]) :=
  (rfval_ok xa.1 xa.2.1 xa.2.2.1 xa.2.2.2.1 xa.2.2.2.2.1 xa.2.2.2.2.2.1.1 xa.2.2.2.2.2.1.2.1.1 xa.2.2.2.2.2.1.2.1.2.1 xa.2.2.2.2.2.1.2.1.2.2.1 xa.2.2.2.2.2.1.2.1.2.2.2 xa.2.2.2.2.2.1.2.2 xa.2.2.2.2.2.2 xr hR0 _ (rfval_F xa xr hp)).gives (by rintro _ ⟨_, _, rfl, rfl, rfl⟩; rfl)
def rtellj26 (pa_Frames : List (Int × Int × Int)) (K : Int → Int → Bool → Prop) (x37j26 : Bool) : Prop :=
  ((x37j26) = true → ∃ e3 : Int × Int × Int, (0 : Int) ≤ 0 ∧ pa_Frames[Int.toNat 0]? = some e3 ∧ K e3.2.1 e3.2.2 true) ∧ ((x37j26) = false → ∃ e4 : Int × Int × Int, (0 : Int) ≤ IntKind.wrap .i64 ((pa_Frames.length : Int) - 1) ∧ pa_Frames[Int.toNat (IntKind.wrap .i64 ((pa_Frames.length : Int) - 1))]? = some e4 ∧ K e4.2.1 e4.2.2 true)
def rtellj56 (pa_From : Int) (pa_Length : Int) (pa_Times : Int) (pa_Turn : Bool) (pa_Stays : Bool) (pa_Ease_Kind : Int) (pa_Ease_Curve_0 : Int) (pa_Ease_Curve_1 : Int) (pa_Ease_Curve_2 : Int) (pa_Ease_Curve_3 : Int) (pa_Ease_N : Int) (pa_Frames : List (Int × Int × Int)) (K : Int → Int → Bool → Prop) (x9j56 : Int) : Prop :=
  fvalP (pa_From, pa_Length, pa_Times, pa_Turn, pa_Stays, (pa_Ease_Kind, (pa_Ease_Curve_0, pa_Ease_Curve_1, pa_Ease_Curve_2, pa_Ease_Curve_3), pa_Ease_N), pa_Frames) x9j56 ∧ K ((fval (pa_From, pa_Length, pa_Times, pa_Turn, pa_Stays, (pa_Ease_Kind, (pa_Ease_Curve_0, pa_Ease_Curve_1, pa_Ease_Curve_2, pa_Ease_Curve_3), pa_Ease_N), pa_Frames) x9j56).1) ((fval (pa_From, pa_Length, pa_Times, pa_Turn, pa_Stays, (pa_Ease_Kind, (pa_Ease_Curve_0, pa_Ease_Curve_1, pa_Ease_Curve_2, pa_Ease_Curve_3), pa_Ease_N), pa_Frames) x9j56).2) true
def rtellj57 (pa_From : Int) (pa_Length : Int) (pa_Times : Int) (pa_Turn : Bool) (pa_Stays : Bool) (pa_Ease_Kind : Int) (pa_Ease_Curve_0 : Int) (pa_Ease_Curve_1 : Int) (pa_Ease_Curve_2 : Int) (pa_Ease_Curve_3 : Int) (pa_Ease_N : Int) (pa_Frames : List (Int × Int × Int)) (K : Int → Int → Bool → Prop) (x7l43 : Int) (x81j57 : Bool) : Prop :=
  ((x81j57) = true → rtellj56 pa_From pa_Length pa_Times pa_Turn pa_Stays pa_Ease_Kind pa_Ease_Curve_0 pa_Ease_Curve_1 pa_Ease_Curve_2 pa_Ease_Curve_3 pa_Ease_N pa_Frames K (IntKind.wrap .i64 (1000 - (IntKind.wrap .i64 (Int.tdiv (IntKind.wrap .i64 (x7l43 * 1000)) pa_Length))))) ∧ ((x81j57) = false → rtellj56 pa_From pa_Length pa_Times pa_Turn pa_Stays pa_Ease_Kind pa_Ease_Curve_0 pa_Ease_Curve_1 pa_Ease_Curve_2 pa_Ease_Curve_3 pa_Ease_N pa_Frames K (IntKind.wrap .i64 (Int.tdiv (IntKind.wrap .i64 (x7l43 * 1000)) pa_Length)))
def rtellj45 (pa_From : Int) (pa_Length : Int) (pa_Times : Int) (pa_Turn : Bool) (pa_Stays : Bool) (pa_Ease_Kind : Int) (pa_Ease_Curve_0 : Int) (pa_Ease_Curve_1 : Int) (pa_Ease_Curve_2 : Int) (pa_Ease_Curve_3 : Int) (pa_Ease_N : Int) (pa_Frames : List (Int × Int × Int)) (K : Int → Int → Bool → Prop) (x63j45 : Bool) (x7l43 : Int) (x8l43 : Int) (C43 : Int → Int → Prop) : Prop :=
  ((x63j45) = true → C43 (IntKind.wrap .i64 (x7l43 - pa_Length)) (IntKind.wrap .i64 (x8l43 + 1))) ∧ ((x63j45) = false → pa_Length ≠ 0 ∧ ((pa_Turn) = true → rtellj57 pa_From pa_Length pa_Times pa_Turn pa_Stays pa_Ease_Kind pa_Ease_Curve_0 pa_Ease_Curve_1 pa_Ease_Curve_2 pa_Ease_Curve_3 pa_Ease_N pa_Frames K x7l43 ((Int.tmod x8l43 2) == 1)) ∧ ((pa_Turn) = false → rtellj57 pa_From pa_Length pa_Times pa_Turn pa_Stays pa_Ease_Kind pa_Ease_Curve_0 pa_Ease_Curve_1 pa_Ease_Curve_2 pa_Ease_Curve_3 pa_Ease_N pa_Frames K x7l43 false))
def rtelll43b (pa_From : Int) (pa_Length : Int) (pa_Times : Int) (pa_Turn : Bool) (pa_Stays : Bool) (pa_Ease_Kind : Int) (pa_Ease_Curve_0 : Int) (pa_Ease_Curve_1 : Int) (pa_Ease_Curve_2 : Int) (pa_Ease_Curve_3 : Int) (pa_Ease_N : Int) (pa_Frames : List (Int × Int × Int)) (K : Int → Int → Bool → Prop) (x7l43 : Int) (x8l43 : Int) (C43 : Int → Int → Prop) : Prop :=
  ((decide (x7l43 ≥ pa_Length)) = true → rtellj45 pa_From pa_Length pa_Times pa_Turn pa_Stays pa_Ease_Kind pa_Ease_Curve_0 pa_Ease_Curve_1 pa_Ease_Curve_2 pa_Ease_Curve_3 pa_Ease_N pa_Frames K (decide (x8l43 < 1000)) x7l43 x8l43 C43) ∧ ((decide (x7l43 ≥ pa_Length)) = false → rtellj45 pa_From pa_Length pa_Times pa_Turn pa_Stays pa_Ease_Kind pa_Ease_Curve_0 pa_Ease_Curve_1 pa_Ease_Curve_2 pa_Ease_Curve_3 pa_Ease_N pa_Frames K false x7l43 x8l43 C43)
def rtelll43 (pa_From : Int) (pa_Length : Int) (pa_Times : Int) (pa_Turn : Bool) (pa_Stays : Bool) (pa_Ease_Kind : Int) (pa_Ease_Curve_0 : Int) (pa_Ease_Curve_1 : Int) (pa_Ease_Curve_2 : Int) (pa_Ease_Curve_3 : Int) (pa_Ease_N : Int) (pa_Frames : List (Int × Int × Int)) (K : Int → Int → Bool → Prop) : Nat → Int → Int → Prop
  | 0, _, _ => False
  | k + 1, x7l43, x8l43 => rtelll43b pa_From pa_Length pa_Times pa_Turn pa_Stays pa_Ease_Kind pa_Ease_Curve_0 pa_Ease_Curve_1 pa_Ease_Curve_2 pa_Ease_Curve_3 pa_Ease_N pa_Frames K x7l43 x8l43 (rtelll43 pa_From pa_Length pa_Times pa_Turn pa_Stays pa_Ease_Kind pa_Ease_Curve_0 pa_Ease_Curve_1 pa_Ease_Curve_2 pa_Ease_Curve_3 pa_Ease_N pa_Frames K k)
def rtellF (pa_From : Int) (pa_Length : Int) (pa_Times : Int) (pa_Turn : Bool) (pa_Stays : Bool) (pa_Ease_Kind : Int) (pa_Ease_Curve_0 : Int) (pa_Ease_Curve_1 : Int) (pa_Ease_Curve_2 : Int) (pa_Ease_Curve_3 : Int) (pa_Ease_N : Int) (pa_Frames : List (Int × Int × Int)) (pnow : Int) (K : Int → Int → Bool → Prop) : Prop :=
  ((decide (pnow < pa_From)) = true → K 0 0 false) ∧ ((decide (pnow < pa_From)) = false → ((decide (pnow ≥ (IntKind.wrap .i64 (pa_From + (IntKind.wrap .i64 (pa_Times * pa_Length)))))) = true → ((!pa_Stays) = true → K 0 0 false) ∧ ((!pa_Stays) = false → ((pa_Turn) = true → rtellj26 pa_Frames K ((Int.tmod pa_Times 2) == 0)) ∧ ((pa_Turn) = false → rtellj26 pa_Frames K false))) ∧ ((decide (pnow ≥ (IntKind.wrap .i64 (pa_From + (IntKind.wrap .i64 (pa_Times * pa_Length)))))) = false → ∃ k, rtelll43 pa_From pa_Length pa_Times pa_Turn pa_Stays pa_Ease_Kind pa_Ease_Curve_0 pa_Ease_Curve_1 pa_Ease_Curve_2 pa_Ease_Curve_3 pa_Ease_N pa_Frames K k (IntKind.wrap .i64 (pnow - pa_From)) 0))
set_option maxHeartbeats 4000000 in
set_option maxRecDepth 100000 in
set_option linter.unusedVariables false in
theorem rtell_ok {g : Ghost} (pa_From : Int) (pa_Length : Int) (pa_Times : Int) (pa_Turn : Bool) (pa_Stays : Bool) (pa_Ease_Kind : Int) (pa_Ease_Curve_0 : Int) (pa_Ease_Curve_1 : Int) (pa_Ease_Curve_2 : Int) (pa_Ease_Curve_3 : Int) (pa_Ease_N : Int) {apa_Frames : Option Addr} {cpa_Frames : Nat} (pa_Frames : List (Int × Int × Int)) (pnow : Int) (hRpa_Frames : Rep g (.slice (.pair (.int .i64) (.pair (.int .i64) (.int .i64)))) [.slice apa_Frames pa_Frames.length cpa_Frames] pa_Frames) (K : Int → Int → Bool → Prop)
    (hF : rtellF pa_From pa_Length pa_Times pa_Turn pa_Stays pa_Ease_Kind pa_Ease_Curve_0 pa_Ease_Curve_1 pa_Ease_Curve_2 pa_Ease_Curve_3 pa_Ease_N pa_Frames pnow K) : CallsK Try.prog 29 #[.agg #[.int .i64 pa_From, .int .i64 pa_Length, .int .i64 pa_Times, .bool pa_Turn, .bool pa_Stays, .int .i64 pa_Ease_Kind, .int .i64 pa_Ease_Curve_0, .int .i64 pa_Ease_Curve_1, .int .i64 pa_Ease_Curve_2, .int .i64 pa_Ease_Curve_3, .int .i64 pa_Ease_N, .slice apa_Frames pa_Frames.length cpa_Frames], .int .i64 pnow] g (fun v => ∃ r0 : Int, ∃ r1 : Int, ∃ r2 : Bool, v = .tuple #[.agg #[.int .i64 r0, .int .i64 r1], .bool r2] ∧ K r0 r1 r2) := by
  refine CallsK.enter 87 [(0, .agg #[.int .i64 pa_From, .int .i64 pa_Length, .int .i64 pa_Times, .bool pa_Turn, .bool pa_Stays, .int .i64 pa_Ease_Kind, .int .i64 pa_Ease_Curve_0, .int .i64 pa_Ease_Curve_1, .int .i64 pa_Ease_Curve_2, .int .i64 pa_Ease_Curve_3, .int .i64 pa_Ease_N, .slice apa_Frames pa_Frames.length cpa_Frames]), (1, .int .i64 pnow)] Try.func29 rfl (by kernel_rfl) (by kernel_rfl) (by kernel_rfl) fun w0 => ?_
  refine Ok.seq ?_
  refine Ok.region ?_
  refine Ok.op rfl (OpOk.box (v := .agg #[.int .i64 pa_From, .int .i64 pa_Length, .int .i64 pa_Times, .bool pa_Turn, .bool pa_Stays, .int .i64 pa_Ease_Kind, .int .i64 pa_Ease_Curve_0, .int .i64 pa_Ease_Curve_1, .int .i64 pa_Ease_Curve_2, .int .i64 pa_Ease_Curve_3, .int .i64 pa_Ease_N, .slice apa_Frames pa_Frames.length cpa_Frames]) (cs := #[.int .i64 pa_From, .int .i64 pa_Length, .int .i64 pa_Times, .bool pa_Turn, .bool pa_Stays, .int .i64 pa_Ease_Kind, .int .i64 pa_Ease_Curve_0, .int .i64 pa_Ease_Curve_1, .int .i64 pa_Ease_Curve_2, .int .i64 pa_Ease_Curve_3, .int .i64 pa_Ease_N, .slice apa_Frames pa_Frames.length cpa_Frames]) rfl (by kernel_rfl) rfl fun b1 => ?_)
  refine Ok.op rfl (OpOk.alloc (z := .agg #[.int .i64 0, .int .i64 0]) (cs := #[.int .i64 0, .int .i64 0]) (by kernel_rfl) (by kernel_rfl) rfl fun b2 => ?_)
  refine Ok.batch 1 [(1, .int .i64 pnow), (2, .pointer (some ⟨b1, 0, none⟩)), (4, .pointer (some ⟨b2, 0, none⟩))] (by kernel_rfl) ?_
  refine Ok.nil ?_
  refine Ok.thenN ?_
  refine Ok.seq ?_
  refine Ok.seq ?_
  refine Ok.region ?_
  refine Ok.batch 2 [(1, .int .i64 pnow), (2, .pointer (some ⟨b1, 0, none⟩)), (4, .pointer (some ⟨b2, 0, none⟩)), (10, .int .i64 pnow), (11, .pointer (some ⟨b1, 0, none⟩))] (by kernel_rfl) ?_
  refine Ok.op rfl (OpOk.step (v := .int .i64 pa_From) (Yields.load 1 rfl rfl Try.underlying3 rfl (by kernel_rfl)) rfl rfl ?_)
  refine Ok.batch 1 [(1, .int .i64 pnow), (2, .pointer (some ⟨b1, 0, none⟩)), (4, .pointer (some ⟨b2, 0, none⟩)), (13, .bool (decide (pnow < pa_From)))] (by kernel_rfl) ?_
  refine Ok.nil ?_
  refine Ok.thenN ?_
  refine Ok.cond (b := decide (pnow < pa_From)) rfl (fun hc => ?_) (fun hc => ?_)
  · replace hF := hF.1 hc
    refine Ok.seq ?_
    refine Ok.region ?_
    refine Ok.batch 1 [(4, .pointer (some ⟨b2, 0, none⟩)), (14, .agg #[.int .i64 0, .int .i64 0])] (by kernel_rfl) ?_
    refine Ok.op rfl (OpOk.store (k := 2) (v := .agg #[.int .i64 0, .int .i64 0]) (H' := [.blk b2 (.cells #[.int .i64 0, .int .i64 0] 44), .blk b1 (.cells #[.int .i64 pa_From, .int .i64 pa_Length, .int .i64 pa_Times, .bool pa_Turn, .bool pa_Stays, .int .i64 pa_Ease_Kind, .int .i64 pa_Ease_Curve_0, .int .i64 pa_Ease_Curve_1, .int .i64 pa_Ease_Curve_2, .int .i64 pa_Ease_Curve_3, .int .i64 pa_Ease_N, .slice apa_Frames pa_Frames.length cpa_Frames] 40)]) 0 rfl rfl rfl (by kernel_rfl) (by kernel_rfl) (by kernel_rfl) (by kernel_rfl) (by kernel_rfl) ?_)
    refine Ok.batch 1 [(4, .pointer (some ⟨b2, 0, none⟩)), (5, .bool false)] (by kernel_rfl) ?_
    refine Ok.nil ?_
    refine Ok.thenN ?_
    refine Ok.ret ?_
    refine Ok.thenR ?_
    exact Ok.res2 (.inl rfl) rfl (.cellAgg 0 2 #[.int .i64 0, .int .i64 0] rfl rfl Try.underlying44 rfl (by kernel_rfl) (by kernel_rfl) (by kernel_rfl)) (.tmp rfl) ⟨0, 0, false, rfl, hF⟩
  · replace hF := hF.2 hc
    refine Ok.skip ?_
    refine Ok.thenN ?_
    refine Ok.seq ?_
    refine Ok.region ?_
    refine Ok.batch 1 [(1, .int .i64 pnow), (2, .pointer (some ⟨b1, 0, none⟩)), (4, .pointer (some ⟨b2, 0, none⟩)), (15, .pointer (some ⟨b1, 0, none⟩))] (by kernel_rfl) ?_
    refine Ok.op rfl (OpOk.step (v := .int .i64 pa_From) (Yields.load 1 rfl rfl Try.underlying3 rfl (by kernel_rfl)) rfl rfl ?_)
    refine Ok.batch 1 [(1, .int .i64 pnow), (2, .pointer (some ⟨b1, 0, none⟩)), (4, .pointer (some ⟨b2, 0, none⟩)), (16, .int .i64 pa_From), (17, .pointer (some ⟨b1, 2, none⟩))] (by kernel_rfl) ?_
    refine Ok.op rfl (OpOk.step (v := .int .i64 pa_Times) (Yields.load 1 rfl rfl Try.underlying3 rfl (by kernel_rfl)) rfl rfl ?_)
    refine Ok.batch 1 [(1, .int .i64 pnow), (2, .pointer (some ⟨b1, 0, none⟩)), (4, .pointer (some ⟨b2, 0, none⟩)), (16, .int .i64 pa_From), (18, .int .i64 pa_Times), (19, .pointer (some ⟨b1, 1, none⟩))] (by kernel_rfl) ?_
    refine Ok.op rfl (OpOk.step (v := .int .i64 pa_Length) (Yields.load 1 rfl rfl Try.underlying3 rfl (by kernel_rfl)) rfl rfl ?_)
    refine Ok.batch 3 [(1, .int .i64 pnow), (2, .pointer (some ⟨b1, 0, none⟩)), (4, .pointer (some ⟨b2, 0, none⟩)), (6, .int .i64 (IntKind.wrap .i64 (pa_From + (IntKind.wrap .i64 (pa_Times * pa_Length)))))] (by kernel_rfl) ?_
    refine Ok.nil ?_
    refine Ok.thenN ?_
    refine Ok.seq ?_
    refine Ok.seq ?_
    refine Ok.region ?_
    refine Ok.batch 3 [(1, .int .i64 pnow), (2, .pointer (some ⟨b1, 0, none⟩)), (4, .pointer (some ⟨b2, 0, none⟩)), (25, .bool (decide (pnow ≥ (IntKind.wrap .i64 (pa_From + (IntKind.wrap .i64 (pa_Times * pa_Length)))))))] (by kernel_rfl) ?_
    refine Ok.nil ?_
    refine Ok.thenN ?_
    refine Ok.cond (b := decide (pnow ≥ (IntKind.wrap .i64 (pa_From + (IntKind.wrap .i64 (pa_Times * pa_Length)))))) rfl (fun hc => ?_) (fun hc => ?_)
    · replace hF := hF.1 hc
      refine Ok.seq ?_
      refine Ok.seq ?_
      refine Ok.region ?_
      refine Ok.batch 1 [(2, .pointer (some ⟨b1, 0, none⟩)), (4, .pointer (some ⟨b2, 0, none⟩)), (26, .pointer (some ⟨b1, 4, none⟩))] (by kernel_rfl) ?_
      refine Ok.op rfl (OpOk.step (v := .bool pa_Stays) (Yields.load 1 rfl rfl Try.underlying4 rfl (by kernel_rfl)) rfl rfl ?_)
      refine Ok.batch 1 [(2, .pointer (some ⟨b1, 0, none⟩)), (4, .pointer (some ⟨b2, 0, none⟩)), (28, .bool (!pa_Stays))] (by kernel_rfl) ?_
      refine Ok.nil ?_
      refine Ok.thenN ?_
      refine Ok.cond (b := !pa_Stays) rfl (fun hc => ?_) (fun hc => ?_)
      · replace hF := hF.1 hc
        refine Ok.seq ?_
        refine Ok.region ?_
        refine Ok.batch 1 [(4, .pointer (some ⟨b2, 0, none⟩)), (29, .agg #[.int .i64 0, .int .i64 0])] (by kernel_rfl) ?_
        refine Ok.op rfl (OpOk.store (k := 2) (v := .agg #[.int .i64 0, .int .i64 0]) (H' := [.blk b2 (.cells #[.int .i64 0, .int .i64 0] 44), .blk b1 (.cells #[.int .i64 pa_From, .int .i64 pa_Length, .int .i64 pa_Times, .bool pa_Turn, .bool pa_Stays, .int .i64 pa_Ease_Kind, .int .i64 pa_Ease_Curve_0, .int .i64 pa_Ease_Curve_1, .int .i64 pa_Ease_Curve_2, .int .i64 pa_Ease_Curve_3, .int .i64 pa_Ease_N, .slice apa_Frames pa_Frames.length cpa_Frames] 40)]) 0 rfl rfl rfl (by kernel_rfl) (by kernel_rfl) (by kernel_rfl) (by kernel_rfl) (by kernel_rfl) ?_)
        refine Ok.batch 1 [(4, .pointer (some ⟨b2, 0, none⟩)), (5, .bool false)] (by kernel_rfl) ?_
        refine Ok.nil ?_
        refine Ok.thenN ?_
        refine Ok.ret ?_
        refine Ok.thenR ?_
        refine Ok.thenR ?_
        exact Ok.res2 (.inl rfl) rfl (.cellAgg 0 2 #[.int .i64 0, .int .i64 0] rfl rfl Try.underlying44 rfl (by kernel_rfl) (by kernel_rfl) (by kernel_rfl)) (.tmp rfl) ⟨0, 0, false, rfl, hF⟩
      · replace hF := hF.2 hc
        refine Ok.skip ?_
        refine Ok.thenN ?_
        refine Ok.seq ?_
        refine Ok.cut (fun a W => ∃ (x37j26 : Bool), StA 87 [(2, .pointer (some ⟨b1, 0, none⟩)), (4, .pointer (some ⟨b2, 0, none⟩)), (37, .bool x37j26)] a ∧ StW w0 [.blk b2 (.cells #[.int .i64 0, .int .i64 0] 44), .blk b1 (.cells #[.int .i64 pa_From, .int .i64 pa_Length, .int .i64 pa_Times, .bool pa_Turn, .bool pa_Stays, .int .i64 pa_Ease_Kind, .int .i64 pa_Ease_Curve_0, .int .i64 pa_Ease_Curve_1, .int .i64 pa_Ease_Curve_2, .int .i64 pa_Ease_Curve_3, .int .i64 pa_Ease_N, .slice apa_Frames pa_Frames.length cpa_Frames] 40)] g W ∧ rtellj26 pa_Frames K x37j26) ?_ ?_
        ·
          refine Ok.region ?_
          refine Ok.batch 1 [(2, .pointer (some ⟨b1, 0, none⟩)), (4, .pointer (some ⟨b2, 0, none⟩)), (30, .pointer (some ⟨b1, 3, none⟩))] (by kernel_rfl) ?_
          refine Ok.op rfl (OpOk.step (v := .bool pa_Turn) (Yields.load 1 rfl rfl Try.underlying4 rfl (by kernel_rfl)) rfl rfl ?_)
          refine Ok.batch 1 [(2, .pointer (some ⟨b1, 0, none⟩)), (4, .pointer (some ⟨b2, 0, none⟩)), (32, .bool pa_Turn)] (by kernel_rfl) ?_
          refine Ok.boolAt 32 (pa_Turn) rfl (fun hc => ?_) (fun hc => ?_)
          · replace hF := hF.1 hc
            refine Ok.batch 1 [(2, .pointer (some ⟨b1, 0, none⟩)), (4, .pointer (some ⟨b2, 0, none⟩)), (32, .bool true), (33, .pointer (some ⟨b1, 2, none⟩))] (by kernel_rfl) ?_
            refine Ok.opYes (j := 2) (d := 32) (want := true) (b := true) rfl (by kernel_rfl) (by kernel_rfl) rfl (OpOk.step (v := .int .i64 pa_Times) (Yields.load 1 rfl rfl Try.underlying3 rfl (by kernel_rfl)) rfl rfl ?_)
            refine Ok.batch 3 [(2, .pointer (some ⟨b1, 0, none⟩)), (4, .pointer (some ⟨b2, 0, none⟩)), (37, .bool ((Int.tmod pa_Times 2) == 0))] (by kernel_rfl) ?_
            refine Ok.nil ?_
            refine Ok.thenN ?_
            exact fun a W hA hW => ⟨((Int.tmod pa_Times 2) == 0), hA.sub (by kernel_rfl), hW, hF⟩
          · replace hF := hF.2 hc
            refine Ok.batch 5 [(2, .pointer (some ⟨b1, 0, none⟩)), (4, .pointer (some ⟨b2, 0, none⟩)), (37, .bool false)] (by kernel_rfl) ?_
            refine Ok.nil ?_
            refine Ok.thenN ?_
            exact fun a W hA hW => ⟨false, hA.sub (by kernel_rfl), hW, hF⟩
        ·
          rintro a W ⟨x37j26, hA, hW, hF⟩
          refine (?_ : Ok _ _ _ _ _ _) a W hA hW
          clear hA hW
          refine Ok.cond (b := x37j26) rfl (fun hc => ?_) (fun hc => ?_)
          · replace hF := hF.1 hc
            refine Ok.seq ?_
            refine Ok.region ?_
            refine Ok.batch 1 [(4, .pointer (some ⟨b2, 0, none⟩)), (38, .pointer (some ⟨b1, 11, none⟩))] (by kernel_rfl) ?_
            refine Ok.op rfl (OpOk.step (v := .slice apa_Frames pa_Frames.length cpa_Frames) (Yields.load 1 rfl rfl Try.underlying38 rfl (by kernel_rfl)) rfl rfl ?_)
            obtain ⟨e3, h03, he3, hF⟩ := hF
            refine Ok.op rfl (OpOk.indexRo (e := .pair (.int .i64) (.pair (.int .i64) (.int .i64))) (i := 0) (el := e3) rfl rfl Try.underlying38 (by kernel_rfl) hRpa_Frames h03 he3 rfl fun q3 o3 cs3 _ hat3 hr3 => ?_)
            obtain ⟨_, _, rfl, ⟨rfl, _⟩, ⟨_, _, rfl, ⟨rfl, _⟩, ⟨rfl, _⟩⟩⟩ := hr3
            replace hat3 : At g q3 o3 [.int .i64 e3.1, .int .i64 e3.2.1, .int .i64 e3.2.2] := hat3
            refine Ok.batch 1 [(4, .pointer (some ⟨b2, 0, none⟩)), (41, .pointer (some ⟨q3, o3 + 1, none⟩))] (by kernel_rfl) ?_
            refine Ok.op rfl (OpOk.step (v := .agg #[.int .i64 e3.2.1, .int .i64 e3.2.2]) (Yields.loadAggRo 1 2 #[.int .i64 e3.2.1, .int .i64 e3.2.2] hat3 (by kernel_rfl) Try.underlying44 rfl (by kernel_rfl) (by kernel_rfl) (by kernel_rfl)) rfl rfl ?_)
            refine Ok.op rfl (OpOk.store (k := 2) (v := .agg #[.int .i64 e3.2.1, .int .i64 e3.2.2]) (H' := [.blk b2 (.cells #[.int .i64 e3.2.1, .int .i64 e3.2.2] 44), .blk b1 (.cells #[.int .i64 pa_From, .int .i64 pa_Length, .int .i64 pa_Times, .bool pa_Turn, .bool pa_Stays, .int .i64 pa_Ease_Kind, .int .i64 pa_Ease_Curve_0, .int .i64 pa_Ease_Curve_1, .int .i64 pa_Ease_Curve_2, .int .i64 pa_Ease_Curve_3, .int .i64 pa_Ease_N, .slice apa_Frames pa_Frames.length cpa_Frames] 40)]) 0 rfl rfl rfl (by kernel_rfl) (by kernel_rfl) (by kernel_rfl) (by kernel_rfl) (by kernel_rfl) ?_)
            refine Ok.batch 1 [(4, .pointer (some ⟨b2, 0, none⟩)), (5, .bool true)] (by kernel_rfl) ?_
            refine Ok.nil ?_
            refine Ok.thenN ?_
            refine Ok.ret ?_
            refine Ok.thenR ?_
            refine Ok.thenR ?_
            exact Ok.res2 (.inl rfl) rfl (.cellAgg 0 2 #[.int .i64 e3.2.1, .int .i64 e3.2.2] rfl rfl Try.underlying44 rfl (by kernel_rfl) (by kernel_rfl) (by kernel_rfl)) (.tmp rfl) ⟨e3.2.1, e3.2.2, true, rfl, hF⟩
          · replace hF := hF.2 hc
            refine Ok.skip ?_
            refine Ok.thenN ?_
            refine Ok.seq ?_
            refine Ok.region ?_
            refine Ok.batch 1 [(2, .pointer (some ⟨b1, 0, none⟩)), (4, .pointer (some ⟨b2, 0, none⟩)), (43, .pointer (some ⟨b1, 11, none⟩))] (by kernel_rfl) ?_
            refine Ok.op rfl (OpOk.step (v := .slice apa_Frames pa_Frames.length cpa_Frames) (Yields.load 1 rfl rfl Try.underlying38 rfl (by kernel_rfl)) rfl rfl ?_)
            refine Ok.batch 1 [(4, .pointer (some ⟨b2, 0, none⟩)), (44, .slice apa_Frames pa_Frames.length cpa_Frames), (45, .pointer (some ⟨b1, 11, none⟩))] (by kernel_rfl) ?_
            refine Ok.op rfl (OpOk.step (v := .slice apa_Frames pa_Frames.length cpa_Frames) (Yields.load 1 rfl rfl Try.underlying38 rfl (by kernel_rfl)) rfl rfl ?_)
            refine Ok.batch 2 [(4, .pointer (some ⟨b2, 0, none⟩)), (44, .slice apa_Frames pa_Frames.length cpa_Frames), (48, .int .i64 (IntKind.wrap .i64 ((pa_Frames.length : Int) - 1)))] (by kernel_rfl) ?_
            obtain ⟨e4, h04, he4, hF⟩ := hF
            refine Ok.op rfl (OpOk.indexRo (e := .pair (.int .i64) (.pair (.int .i64) (.int .i64))) (i := IntKind.wrap .i64 ((pa_Frames.length : Int) - 1)) (el := e4) rfl rfl Try.underlying38 (by kernel_rfl) hRpa_Frames h04 he4 rfl fun q4 o4 cs4 _ hat4 hr4 => ?_)
            obtain ⟨_, _, rfl, ⟨rfl, _⟩, ⟨_, _, rfl, ⟨rfl, _⟩, ⟨rfl, _⟩⟩⟩ := hr4
            replace hat4 : At g q4 o4 [.int .i64 e4.1, .int .i64 e4.2.1, .int .i64 e4.2.2] := hat4
            refine Ok.batch 1 [(4, .pointer (some ⟨b2, 0, none⟩)), (50, .pointer (some ⟨q4, o4 + 1, none⟩))] (by kernel_rfl) ?_
            refine Ok.op rfl (OpOk.step (v := .agg #[.int .i64 e4.2.1, .int .i64 e4.2.2]) (Yields.loadAggRo 1 2 #[.int .i64 e4.2.1, .int .i64 e4.2.2] hat4 (by kernel_rfl) Try.underlying44 rfl (by kernel_rfl) (by kernel_rfl) (by kernel_rfl)) rfl rfl ?_)
            refine Ok.op rfl (OpOk.store (k := 2) (v := .agg #[.int .i64 e4.2.1, .int .i64 e4.2.2]) (H' := [.blk b2 (.cells #[.int .i64 e4.2.1, .int .i64 e4.2.2] 44), .blk b1 (.cells #[.int .i64 pa_From, .int .i64 pa_Length, .int .i64 pa_Times, .bool pa_Turn, .bool pa_Stays, .int .i64 pa_Ease_Kind, .int .i64 pa_Ease_Curve_0, .int .i64 pa_Ease_Curve_1, .int .i64 pa_Ease_Curve_2, .int .i64 pa_Ease_Curve_3, .int .i64 pa_Ease_N, .slice apa_Frames pa_Frames.length cpa_Frames] 40)]) 0 rfl rfl rfl (by kernel_rfl) (by kernel_rfl) (by kernel_rfl) (by kernel_rfl) (by kernel_rfl) ?_)
            refine Ok.batch 1 [(4, .pointer (some ⟨b2, 0, none⟩)), (5, .bool true)] (by kernel_rfl) ?_
            refine Ok.nil ?_
            refine Ok.thenN ?_
            refine Ok.ret ?_
            refine Ok.thenR ?_
            exact Ok.res2 (.inl rfl) rfl (.cellAgg 0 2 #[.int .i64 e4.2.1, .int .i64 e4.2.2] rfl rfl Try.underlying44 rfl (by kernel_rfl) (by kernel_rfl) (by kernel_rfl)) (.tmp rfl) ⟨e4.2.1, e4.2.2, true, rfl, hF⟩
    · replace hF := hF.2 hc
      refine Ok.skip ?_
      refine Ok.thenN ?_
      refine Ok.seq ?_
      refine Ok.region ?_
      refine Ok.batch 2 [(2, .pointer (some ⟨b1, 0, none⟩)), (4, .pointer (some ⟨b2, 0, none⟩)), (52, .int .i64 pnow), (53, .pointer (some ⟨b1, 0, none⟩))] (by kernel_rfl) ?_
      refine Ok.op rfl (OpOk.step (v := .int .i64 pa_From) (Yields.load 1 rfl rfl Try.underlying3 rfl (by kernel_rfl)) rfl rfl ?_)
      refine Ok.batch 2 [(2, .pointer (some ⟨b1, 0, none⟩)), (4, .pointer (some ⟨b2, 0, none⟩)), (7, .int .i64 (IntKind.wrap .i64 (pnow - pa_From)))] (by kernel_rfl) ?_
      refine Ok.nil ?_
      refine Ok.thenN ?_
      refine Ok.seq ?_
      refine Ok.region ?_
      refine Ok.batch 1 [(2, .pointer (some ⟨b1, 0, none⟩)), (4, .pointer (some ⟨b2, 0, none⟩)), (7, .int .i64 (IntKind.wrap .i64 (pnow - pa_From))), (8, .int .i64 0)] (by kernel_rfl) ?_
      refine Ok.nil ?_
      refine Ok.thenN ?_
      refine Ok.seq ?_
      refine Ok.block ?_
      obtain ⟨k, hF⟩ := hF
      refine Ok.loop (fun k a W => ∃ (x7l43 : Int) (x8l43 : Int), StA 87 [(2, .pointer (some ⟨b1, 0, none⟩)), (4, .pointer (some ⟨b2, 0, none⟩)), (7, .int .i64 x7l43), (8, .int .i64 x8l43)] a ∧ StW w0 [.blk b2 (.cells #[.int .i64 0, .int .i64 0] 44), .blk b1 (.cells #[.int .i64 pa_From, .int .i64 pa_Length, .int .i64 pa_Times, .bool pa_Turn, .bool pa_Stays, .int .i64 pa_Ease_Kind, .int .i64 pa_Ease_Curve_0, .int .i64 pa_Ease_Curve_1, .int .i64 pa_Ease_Curve_2, .int .i64 pa_Ease_Curve_3, .int .i64 pa_Ease_N, .slice apa_Frames pa_Frames.length cpa_Frames] 40)] g W ∧ rtelll43 pa_From pa_Length pa_Times pa_Turn pa_Stays pa_Ease_Kind pa_Ease_Curve_0 pa_Ease_Curve_1 pa_Ease_Curve_2 pa_Ease_Curve_3 pa_Ease_N pa_Frames K k x7l43 x8l43) k ?_ ?_
      ·
        exact fun a W hA hW => ⟨(IntKind.wrap .i64 (pnow - pa_From)), 0, hA.sub (by kernel_rfl), hW, hF⟩
      ·
        rintro k43 a W ⟨x7l43, x8l43, hA, hW, hF⟩
        cases k43 with
        | zero => exact (hF : False).elim
        | succ k43 =>
          refine (?_ : Ok _ _ _ _ _ _) a W hA hW
          clear hA hW
          refine Ok.seq ?_
          refine Ok.cut (fun a W => ∃ (x63j45 : Bool), StA 87 [(2, .pointer (some ⟨b1, 0, none⟩)), (4, .pointer (some ⟨b2, 0, none⟩)), (7, .int .i64 x7l43), (8, .int .i64 x8l43), (63, .bool x63j45)] a ∧ StW w0 [.blk b2 (.cells #[.int .i64 0, .int .i64 0] 44), .blk b1 (.cells #[.int .i64 pa_From, .int .i64 pa_Length, .int .i64 pa_Times, .bool pa_Turn, .bool pa_Stays, .int .i64 pa_Ease_Kind, .int .i64 pa_Ease_Curve_0, .int .i64 pa_Ease_Curve_1, .int .i64 pa_Ease_Curve_2, .int .i64 pa_Ease_Curve_3, .int .i64 pa_Ease_N, .slice apa_Frames pa_Frames.length cpa_Frames] 40)] g W ∧ rtellj45 pa_From pa_Length pa_Times pa_Turn pa_Stays pa_Ease_Kind pa_Ease_Curve_0 pa_Ease_Curve_1 pa_Ease_Curve_2 pa_Ease_Curve_3 pa_Ease_N pa_Frames K x63j45 x7l43 x8l43 (rtelll43 pa_From pa_Length pa_Times pa_Turn pa_Stays pa_Ease_Kind pa_Ease_Curve_0 pa_Ease_Curve_1 pa_Ease_Curve_2 pa_Ease_Curve_3 pa_Ease_N pa_Frames K k43)) ?_ ?_
          ·
            refine Ok.region ?_
            refine Ok.batch 2 [(2, .pointer (some ⟨b1, 0, none⟩)), (4, .pointer (some ⟨b2, 0, none⟩)), (7, .int .i64 x7l43), (8, .int .i64 x8l43), (56, .int .i64 x7l43), (57, .pointer (some ⟨b1, 1, none⟩))] (by kernel_rfl) ?_
            refine Ok.op rfl (OpOk.step (v := .int .i64 pa_Length) (Yields.load 1 rfl rfl Try.underlying3 rfl (by kernel_rfl)) rfl rfl ?_)
            refine Ok.batch 2 [(2, .pointer (some ⟨b1, 0, none⟩)), (4, .pointer (some ⟨b2, 0, none⟩)), (7, .int .i64 x7l43), (8, .int .i64 x8l43), (60, .bool (decide (x7l43 ≥ pa_Length)))] (by kernel_rfl) ?_
            refine Ok.boolAt 60 (decide (x7l43 ≥ pa_Length)) rfl (fun hc => ?_) (fun hc => ?_)
            · replace hF := hF.1 hc
              refine Ok.batch 3 [(2, .pointer (some ⟨b1, 0, none⟩)), (4, .pointer (some ⟨b2, 0, none⟩)), (7, .int .i64 x7l43), (8, .int .i64 x8l43), (63, .bool (decide (x8l43 < 1000)))] (by kernel_rfl) ?_
              refine Ok.nil ?_
              refine Ok.thenN ?_
              exact fun a W hA hW => ⟨(decide (x8l43 < 1000)), hA.sub (by kernel_rfl), hW, hF⟩
            · replace hF := hF.2 hc
              refine Ok.batch 3 [(2, .pointer (some ⟨b1, 0, none⟩)), (4, .pointer (some ⟨b2, 0, none⟩)), (7, .int .i64 x7l43), (8, .int .i64 x8l43), (63, .bool false)] (by kernel_rfl) ?_
              refine Ok.nil ?_
              refine Ok.thenN ?_
              exact fun a W hA hW => ⟨false, hA.sub (by kernel_rfl), hW, hF⟩
          ·
            rintro a W ⟨x63j45, hA, hW, hF⟩
            refine (?_ : Ok _ _ _ _ _ _) a W hA hW
            clear hA hW
            refine Ok.cond (b := x63j45) rfl (fun hc => ?_) (fun hc => ?_)
            · replace hF := hF.1 hc
              refine Ok.skip ?_
              refine Ok.thenN ?_
              refine Ok.block ?_
              refine Ok.seq ?_
              refine Ok.region ?_
              refine Ok.batch 2 [(2, .pointer (some ⟨b1, 0, none⟩)), (4, .pointer (some ⟨b2, 0, none⟩)), (8, .int .i64 x8l43), (64, .int .i64 x7l43), (65, .pointer (some ⟨b1, 1, none⟩))] (by kernel_rfl) ?_
              refine Ok.op rfl (OpOk.step (v := .int .i64 pa_Length) (Yields.load 1 rfl rfl Try.underlying3 rfl (by kernel_rfl)) rfl rfl ?_)
              refine Ok.batch 2 [(2, .pointer (some ⟨b1, 0, none⟩)), (4, .pointer (some ⟨b2, 0, none⟩)), (7, .int .i64 (IntKind.wrap .i64 (x7l43 - pa_Length))), (8, .int .i64 x8l43)] (by kernel_rfl) ?_
              refine Ok.nil ?_
              refine Ok.thenN ?_
              refine Ok.region ?_
              refine Ok.batch 3 [(2, .pointer (some ⟨b1, 0, none⟩)), (4, .pointer (some ⟨b2, 0, none⟩)), (7, .int .i64 (IntKind.wrap .i64 (x7l43 - pa_Length))), (8, .int .i64 (IntKind.wrap .i64 (x8l43 + 1)))] (by kernel_rfl) ?_
              refine Ok.nil ?_
              refine Ok.blockN ?_
              refine Ok.thenN ?_
              exact fun a W hA hW => ⟨k43, Nat.lt_succ_self _, (IntKind.wrap .i64 (x7l43 - pa_Length)), (IntKind.wrap .i64 (x8l43 + 1)), hA.sub (by kernel_rfl), hW, hF⟩
            · replace hF := hF.2 hc
              refine Ok.exit ?_
              refine Ok.thenE ?_
              refine Ok.thenE ?_
              refine Ok.blockHit ?_
              refine Ok.thenN ?_
              refine Ok.seq ?_
              refine Ok.region ?_
              refine Ok.batch 3 [(2, .pointer (some ⟨b1, 0, none⟩)), (4, .pointer (some ⟨b2, 0, none⟩)), (8, .int .i64 x8l43), (71, .int .i64 (IntKind.wrap .i64 (x7l43 * 1000))), (72, .pointer (some ⟨b1, 1, none⟩))] (by kernel_rfl) ?_
              refine Ok.op rfl (OpOk.step (v := .int .i64 pa_Length) (Yields.load 1 rfl rfl Try.underlying3 rfl (by kernel_rfl)) rfl rfl ?_)
              obtain ⟨hv, hF⟩ := hF
              refine Ok.op rfl (OpOk.step (v := .int .i64 (IntKind.wrap .i64 (Int.tdiv (IntKind.wrap .i64 (x7l43 * 1000)) pa_Length))) (Yields.quo rfl rfl hv) rfl rfl ?_)
              refine Ok.batch 1 [(2, .pointer (some ⟨b1, 0, none⟩)), (4, .pointer (some ⟨b2, 0, none⟩)), (8, .int .i64 x8l43), (9, .int .i64 (IntKind.wrap .i64 (Int.tdiv (IntKind.wrap .i64 (x7l43 * 1000)) pa_Length)))] (by kernel_rfl) ?_
              refine Ok.nil ?_
              refine Ok.thenN ?_
              refine Ok.cut (fun a W => ∃ (x9j56 : Int), StA 87 [(2, .pointer (some ⟨b1, 0, none⟩)), (4, .pointer (some ⟨b2, 0, none⟩)), (9, .int .i64 x9j56)] a ∧ StW w0 [.blk b2 (.cells #[.int .i64 0, .int .i64 0] 44), .blk b1 (.cells #[.int .i64 pa_From, .int .i64 pa_Length, .int .i64 pa_Times, .bool pa_Turn, .bool pa_Stays, .int .i64 pa_Ease_Kind, .int .i64 pa_Ease_Curve_0, .int .i64 pa_Ease_Curve_1, .int .i64 pa_Ease_Curve_2, .int .i64 pa_Ease_Curve_3, .int .i64 pa_Ease_N, .slice apa_Frames pa_Frames.length cpa_Frames] 40)] g W ∧ rtellj56 pa_From pa_Length pa_Times pa_Turn pa_Stays pa_Ease_Kind pa_Ease_Curve_0 pa_Ease_Curve_1 pa_Ease_Curve_2 pa_Ease_Curve_3 pa_Ease_N pa_Frames K x9j56) ?_ ?_
              ·
                refine Ok.cut (fun a W => ∃ (x81j57 : Bool), StA 87 [(2, .pointer (some ⟨b1, 0, none⟩)), (4, .pointer (some ⟨b2, 0, none⟩)), (9, .int .i64 (IntKind.wrap .i64 (Int.tdiv (IntKind.wrap .i64 (x7l43 * 1000)) pa_Length))), (81, .bool x81j57)] a ∧ StW w0 [.blk b2 (.cells #[.int .i64 0, .int .i64 0] 44), .blk b1 (.cells #[.int .i64 pa_From, .int .i64 pa_Length, .int .i64 pa_Times, .bool pa_Turn, .bool pa_Stays, .int .i64 pa_Ease_Kind, .int .i64 pa_Ease_Curve_0, .int .i64 pa_Ease_Curve_1, .int .i64 pa_Ease_Curve_2, .int .i64 pa_Ease_Curve_3, .int .i64 pa_Ease_N, .slice apa_Frames pa_Frames.length cpa_Frames] 40)] g W ∧ rtellj57 pa_From pa_Length pa_Times pa_Turn pa_Stays pa_Ease_Kind pa_Ease_Curve_0 pa_Ease_Curve_1 pa_Ease_Curve_2 pa_Ease_Curve_3 pa_Ease_N pa_Frames K x7l43 x81j57) ?_ ?_
                ·
                  refine Ok.region ?_
                  refine Ok.batch 1 [(2, .pointer (some ⟨b1, 0, none⟩)), (4, .pointer (some ⟨b2, 0, none⟩)), (8, .int .i64 x8l43), (9, .int .i64 (IntKind.wrap .i64 (Int.tdiv (IntKind.wrap .i64 (x7l43 * 1000)) pa_Length))), (75, .pointer (some ⟨b1, 3, none⟩))] (by kernel_rfl) ?_
                  refine Ok.op rfl (OpOk.step (v := .bool pa_Turn) (Yields.load 1 rfl rfl Try.underlying4 rfl (by kernel_rfl)) rfl rfl ?_)
                  refine Ok.batch 1 [(2, .pointer (some ⟨b1, 0, none⟩)), (4, .pointer (some ⟨b2, 0, none⟩)), (8, .int .i64 x8l43), (9, .int .i64 (IntKind.wrap .i64 (Int.tdiv (IntKind.wrap .i64 (x7l43 * 1000)) pa_Length))), (77, .bool pa_Turn)] (by kernel_rfl) ?_
                  refine Ok.boolAt 77 (pa_Turn) rfl (fun hc => ?_) (fun hc => ?_)
                  · replace hF := hF.1 hc
                    refine Ok.batch 4 [(2, .pointer (some ⟨b1, 0, none⟩)), (4, .pointer (some ⟨b2, 0, none⟩)), (9, .int .i64 (IntKind.wrap .i64 (Int.tdiv (IntKind.wrap .i64 (x7l43 * 1000)) pa_Length))), (81, .bool ((Int.tmod x8l43 2) == 1))] (by kernel_rfl) ?_
                    refine Ok.nil ?_
                    refine Ok.thenN ?_
                    exact fun a W hA hW => ⟨((Int.tmod x8l43 2) == 1), hA.sub (by kernel_rfl), hW, hF⟩
                  · replace hF := hF.2 hc
                    refine Ok.batch 4 [(2, .pointer (some ⟨b1, 0, none⟩)), (4, .pointer (some ⟨b2, 0, none⟩)), (9, .int .i64 (IntKind.wrap .i64 (Int.tdiv (IntKind.wrap .i64 (x7l43 * 1000)) pa_Length))), (81, .bool false)] (by kernel_rfl) ?_
                    refine Ok.nil ?_
                    refine Ok.thenN ?_
                    exact fun a W hA hW => ⟨false, hA.sub (by kernel_rfl), hW, hF⟩
                ·
                  rintro a W ⟨x81j57, hA, hW, hF⟩
                  refine (?_ : Ok _ _ _ _ _ _) a W hA hW
                  clear hA hW
                  refine Ok.cond (b := x81j57) rfl (fun hc => ?_) (fun hc => ?_)
                  · replace hF := hF.1 hc
                    refine Ok.region ?_
                    refine Ok.batch 3 [(2, .pointer (some ⟨b1, 0, none⟩)), (4, .pointer (some ⟨b2, 0, none⟩)), (9, .int .i64 (IntKind.wrap .i64 (1000 - (IntKind.wrap .i64 (Int.tdiv (IntKind.wrap .i64 (x7l43 * 1000)) pa_Length)))))] (by kernel_rfl) ?_
                    refine Ok.nil ?_
                    refine Ok.thenN ?_
                    exact fun a W hA hW => ⟨(IntKind.wrap .i64 (1000 - (IntKind.wrap .i64 (Int.tdiv (IntKind.wrap .i64 (x7l43 * 1000)) pa_Length)))), hA.sub (by kernel_rfl), hW, hF⟩
                  · replace hF := hF.2 hc
                    refine Ok.skip ?_
                    refine Ok.thenN ?_
                    exact fun a W hA hW => ⟨(IntKind.wrap .i64 (Int.tdiv (IntKind.wrap .i64 (x7l43 * 1000)) pa_Length)), hA.sub (by kernel_rfl), hW, hF⟩
              ·
                rintro a W ⟨x9j56, hA, hW, hF⟩
                refine (?_ : Ok _ _ _ _ _ _) a W hA hW
                clear hA hW
                refine Ok.seq ?_
                refine Ok.region ?_
                refine Ok.op rfl (OpOk.step (v := .agg #[.int .i64 pa_From, .int .i64 pa_Length, .int .i64 pa_Times, .bool pa_Turn, .bool pa_Stays, .int .i64 pa_Ease_Kind, .int .i64 pa_Ease_Curve_0, .int .i64 pa_Ease_Curve_1, .int .i64 pa_Ease_Curve_2, .int .i64 pa_Ease_Curve_3, .int .i64 pa_Ease_N, .slice apa_Frames pa_Frames.length cpa_Frames]) (Yields.loadAgg 1 12 #[.int .i64 pa_From, .int .i64 pa_Length, .int .i64 pa_Times, .bool pa_Turn, .bool pa_Stays, .int .i64 pa_Ease_Kind, .int .i64 pa_Ease_Curve_0, .int .i64 pa_Ease_Curve_1, .int .i64 pa_Ease_Curve_2, .int .i64 pa_Ease_Curve_3, .int .i64 pa_Ease_N, .slice apa_Frames pa_Frames.length cpa_Frames] rfl rfl Try.underlying40 rfl (by kernel_rfl) (by kernel_rfl) (by kernel_rfl)) rfl rfl ?_)
                refine Ok.batch 1 [(4, .pointer (some ⟨b2, 0, none⟩)), (84, .agg #[.int .i64 pa_From, .int .i64 pa_Length, .int .i64 pa_Times, .bool pa_Turn, .bool pa_Stays, .int .i64 pa_Ease_Kind, .int .i64 pa_Ease_Curve_0, .int .i64 pa_Ease_Curve_1, .int .i64 pa_Ease_Curve_2, .int .i64 pa_Ease_Curve_3, .int .i64 pa_Ease_N, .slice apa_Frames pa_Frames.length cpa_Frames]), (85, .int .i64 x9j56)] (by kernel_rfl) ?_
                obtain ⟨hp, hF⟩ := hF
                refine Ok.op rfl (OpOk.call (v := .agg #[.int .i64 ((fval (pa_From, pa_Length, pa_Times, pa_Turn, pa_Stays, (pa_Ease_Kind, (pa_Ease_Curve_0, pa_Ease_Curve_1, pa_Ease_Curve_2, pa_Ease_Curve_3), pa_Ease_N), pa_Frames) x9j56).1), .int .i64 ((fval (pa_From, pa_Length, pa_Times, pa_Turn, pa_Stays, (pa_Ease_Kind, (pa_Ease_Curve_0, pa_Ease_Curve_1, pa_Ease_Curve_2, pa_Ease_Curve_3), pa_Ease_N), pa_Frames) x9j56).2)]) (enters (by kernel_rfl) (fun _ => by kernel_rfl)) (rfval_c (pa_From, pa_Length, pa_Times, pa_Turn, pa_Stays, (pa_Ease_Kind, (pa_Ease_Curve_0, pa_Ease_Curve_1, pa_Ease_Curve_2, pa_Ease_Curve_3), pa_Ease_N), pa_Frames) x9j56 hRpa_Frames hp) rfl rfl ?_)
                refine Ok.op rfl (OpOk.store (k := 2) (v := .agg #[.int .i64 ((fval (pa_From, pa_Length, pa_Times, pa_Turn, pa_Stays, (pa_Ease_Kind, (pa_Ease_Curve_0, pa_Ease_Curve_1, pa_Ease_Curve_2, pa_Ease_Curve_3), pa_Ease_N), pa_Frames) x9j56).1), .int .i64 ((fval (pa_From, pa_Length, pa_Times, pa_Turn, pa_Stays, (pa_Ease_Kind, (pa_Ease_Curve_0, pa_Ease_Curve_1, pa_Ease_Curve_2, pa_Ease_Curve_3), pa_Ease_N), pa_Frames) x9j56).2)]) (H' := [.blk b2 (.cells #[.int .i64 ((fval (pa_From, pa_Length, pa_Times, pa_Turn, pa_Stays, (pa_Ease_Kind, (pa_Ease_Curve_0, pa_Ease_Curve_1, pa_Ease_Curve_2, pa_Ease_Curve_3), pa_Ease_N), pa_Frames) x9j56).1), .int .i64 ((fval (pa_From, pa_Length, pa_Times, pa_Turn, pa_Stays, (pa_Ease_Kind, (pa_Ease_Curve_0, pa_Ease_Curve_1, pa_Ease_Curve_2, pa_Ease_Curve_3), pa_Ease_N), pa_Frames) x9j56).2)] 44), .blk b1 (.cells #[.int .i64 pa_From, .int .i64 pa_Length, .int .i64 pa_Times, .bool pa_Turn, .bool pa_Stays, .int .i64 pa_Ease_Kind, .int .i64 pa_Ease_Curve_0, .int .i64 pa_Ease_Curve_1, .int .i64 pa_Ease_Curve_2, .int .i64 pa_Ease_Curve_3, .int .i64 pa_Ease_N, .slice apa_Frames pa_Frames.length cpa_Frames] 40)]) 0 rfl rfl rfl (by kernel_rfl) (by kernel_rfl) (by kernel_rfl) (by kernel_rfl) (by kernel_rfl) ?_)
                refine Ok.batch 1 [(4, .pointer (some ⟨b2, 0, none⟩)), (5, .bool true)] (by kernel_rfl) ?_
                refine Ok.nil ?_
                refine Ok.thenN ?_
                refine Ok.ret ?_
                exact Ok.res2 (.inl rfl) rfl (.cellAgg 0 2 #[.int .i64 ((fval (pa_From, pa_Length, pa_Times, pa_Turn, pa_Stays, (pa_Ease_Kind, (pa_Ease_Curve_0, pa_Ease_Curve_1, pa_Ease_Curve_2, pa_Ease_Curve_3), pa_Ease_N), pa_Frames) x9j56).1), .int .i64 ((fval (pa_From, pa_Length, pa_Times, pa_Turn, pa_Stays, (pa_Ease_Kind, (pa_Ease_Curve_0, pa_Ease_Curve_1, pa_Ease_Curve_2, pa_Ease_Curve_3), pa_Ease_N), pa_Frames) x9j56).2)] rfl rfl Try.underlying44 rfl (by kernel_rfl) (by kernel_rfl) (by kernel_rfl)) (.tmp rfl) ⟨(fval (pa_From, pa_Length, pa_Times, pa_Turn, pa_Stays, (pa_Ease_Kind, (pa_Ease_Curve_0, pa_Ease_Curve_1, pa_Ease_Curve_2, pa_Ease_Curve_3), pa_Ease_N), pa_Frames) x9j56).1, (fval (pa_From, pa_Length, pa_Times, pa_Turn, pa_Stays, (pa_Ease_Kind, (pa_Ease_Curve_0, pa_Ease_Curve_1, pa_Ease_Curve_2, pa_Ease_Curve_3), pa_Ease_N), pa_Frames) x9j56).2, true, rfl, hF⟩
theorem times_bd {a : A} (h : faultI a = 0) : 0 ≤ a.2.2.1 * a.2.1 ∧ a.2.2.1 * a.2.1 ≤ 100000000000 := by
  obtain ⟨_, h2, h3, _⟩ := right_of h
  exact mul_bd (m := 1000) (n := 100000000) (by omega) (by omega) (by omega) (by omega)
theorem end_eq {a : A} (h : faultI a = 0) : IntKind.wrap .i64 (a.1 + IntKind.wrap .i64 (a.2.2.1 * a.2.1)) = endI a := by
  obtain ⟨h1, h2, h3, _⟩ := right_of h
  have := times_bd h
  rw [i64_in (_ * _) (by omega), i64_in _ (by omega)]; rfl
theorem part_eq {x L : Int} (h0 : 0 ≤ x) (h1 : x < L) (h2 : L ≤ 100000000) : IntKind.wrap .i64 (Int.tdiv (IntKind.wrap .i64 (x * 1000)) L) = x * 1000 / L ∧ 0 ≤ x * 1000 / L ∧ x * 1000 / L ≤ 1000 := by
  have g0 : 0 ≤ x * 1000 / L := Int.ediv_nonneg (by omega) (by omega)
  have g1 : x * 1000 / L ≤ 1000 := Int.ediv_le_of_le_mul (by omega) (by omega)
  rw [i64_in (x * 1000) (by omega), Int.tdiv_eq_ediv_of_nonneg (by omega), i64_in _ (by omega)]
  exact ⟨rfl, g0, g1⟩
theorem divmod {x t L : Int} (h0 : 0 ≤ x) (h1 : x < L) : (x + t * L) / L = t ∧ (x + t * L) % L = x := by
  rw [Int.add_mul_ediv_right _ _ (by omega), Int.ediv_eq_zero_of_lt h0 h1, Int.add_mul_emod_self_right, Int.emod_eq_of_lt h0 h1]
  exact ⟨by omega, rfl⟩
theorem place_bd {a : A} {now : Int} (hp : faultI a = 0) (h : a.1 ≤ now) : fvalP a (placeI a now) := by
  obtain ⟨-, hL, -⟩ := right_of hp
  have g0 := Int.emod_nonneg (now - a.1) (show a.2.1 ≠ 0 by omega)
  have g1 := Int.emod_lt_of_pos (now - a.1) (show 0 < a.2.1 by omega)
  obtain ⟨-, p1, p2⟩ := part_eq g0 g1 hL.2
  unfold placeI
  split
  · exact ⟨hp, by omega, by omega⟩
  · exact ⟨hp, p1, p2⟩
theorem tellR_lt {a : A} {now : Int} (h : now < a.1) : tellR a now = ((0, 0), false) ∧ rtellR a now = ((0, 0), false) := by
  have e : tellB a now = false := by unfold tellB; rw [decide_eq_false (by omega)]; rfl
  unfold tellR rtellR
  rw [e, if_pos h]; exact ⟨rfl, rfl⟩
theorem tellR_mid {a : A} {now : Int} (h : a.1 ≤ now) (h2 : now < endI a) : tellR a now = (fval a (placeI a now), true) ∧ rtellR a now = (fval a (placeI a now), true) := by
  have e : tellB a now = true := by unfold tellB; rw [decide_eq_true h, decide_eq_true h2]; rfl
  unfold tellR rtellR tellV
  rw [e, if_neg (by omega), if_pos h2]; exact ⟨rfl, rfl⟩
def endV (a : A) : V := if a.2.2.2.1 = true ∧ a.2.2.1 % 2 = 0 then (a.2.2.2.2.2.2.headD (0, 0, 0)).2 else (a.2.2.2.2.2.2.getLastD (0, 0, 0)).2
theorem tellR_end {a : A} {now : Int} (h : a.1 ≤ now) (h2 : endI a ≤ now) : tellR a now = (endV a, a.2.2.2.2.1) ∧ rtellR a now = (if a.2.2.2.2.1 = true then endV a else (0, 0), a.2.2.2.2.1) := by
  have e : tellB a now = a.2.2.2.2.1 := by unfold tellB; rw [decide_eq_true h, decide_eq_false (by omega)]; rfl
  unfold tellR rtellR tellV
  rw [e, if_neg (by omega), if_neg (by omega)]; exact ⟨rfl, rfl⟩
theorem rtell_57 {a : A} {x : Int} {b : Bool} {r : Int} {K : Int → Int → Bool → Prop} (hp : faultI a = 0) (hx0 : 0 ≤ x) (hx1 : x < a.2.1) (hr : (if b = true then 1000 - x * 1000 / a.2.1 else x * 1000 / a.2.1) = r) (hf : fvalP a r)
    (hK : K (fval a r).1 (fval a r).2 true) : rtellj57 a.1 a.2.1 a.2.2.1 a.2.2.2.1 a.2.2.2.2.1 a.2.2.2.2.2.1.1 a.2.2.2.2.2.1.2.1.1 a.2.2.2.2.2.1.2.1.2.1 a.2.2.2.2.2.1.2.1.2.2.1 a.2.2.2.2.2.1.2.1.2.2.2 a.2.2.2.2.2.1.2.2 a.2.2.2.2.2.2 K x b := by
  obtain ⟨-, hL, -⟩ := right_of hp
  obtain ⟨p0, p1, p2⟩ := part_eq hx0 hx1 hL.2
  unfold rtellj57 rtellj56
  rw [p0]
  refine ⟨fun h => ?_, fun h => ?_⟩
  · rw [if_pos h] at hr
    rw [i64_in _ (by omega), hr]; exact ⟨hf, hK⟩
  · rw [if_neg (by rw [h]; simp)] at hr
    rw [hr]; exact ⟨hf, hK⟩
theorem rtell_45 {a : A} {now x t : Int} {K : Int → Int → Bool → Prop} {C : Int → Int → Prop} (hp : faultI a = 0) (hx0 : 0 ≤ x) (hx1 : x < a.2.1) (ht0 : 0 ≤ t) (hxt : now - a.1 = x + t * a.2.1) (hle : a.1 ≤ now)
    (hK : K (fval a (placeI a now)).1 (fval a (placeI a now)).2 true) : rtellj45 a.1 a.2.1 a.2.2.1 a.2.2.2.1 a.2.2.2.2.1 a.2.2.2.2.2.1.1 a.2.2.2.2.2.1.2.1.1 a.2.2.2.2.2.1.2.1.2.1 a.2.2.2.2.2.1.2.1.2.2.1 a.2.2.2.2.2.1.2.1.2.2.2 a.2.2.2.2.2.1.2.2 a.2.2.2.2.2.2 K false x t C := by
  obtain ⟨-, hL, -⟩ := right_of hp
  have hf := place_bd hp hle
  have e : placeI a now = if a.2.2.2.1 = true ∧ t % 2 = 1 then 1000 - x * 1000 / a.2.1 else x * 1000 / a.2.1 := by
    unfold placeI; rw [hxt, (divmod hx0 hx1).1, (divmod hx0 hx1).2]
  unfold rtellj45
  refine ⟨fun h => (by cases h), fun _ => ⟨by omega, fun h => rtell_57 hp hx0 hx1 ?_ hf hK, fun h => rtell_57 hp hx0 hx1 ?_ hf hK⟩⟩
  · rw [e, h, Int.tmod_eq_emod_of_nonneg ht0]
    simp
  · rw [e, h]; simp
theorem rtell_loop {a : A} {now : Int} {K : Int → Int → Bool → Prop} (hp : faultI a = 0) (hle : a.1 ≤ now) (hlt : now < endI a) (hK : K (fval a (placeI a now)).1 (fval a (placeI a now)).2 true) :
    ∀ (n : Nat) (x t : Int), 1000 - t < n → 0 ≤ x → x ≤ 200000000000 → 0 ≤ t → now - a.1 = x + t * a.2.1 → rtelll43 a.1 a.2.1 a.2.2.1 a.2.2.2.1 a.2.2.2.2.1 a.2.2.2.2.2.1.1 a.2.2.2.2.2.1.2.1.1 a.2.2.2.2.2.1.2.1.2.1 a.2.2.2.2.2.1.2.1.2.2.1 a.2.2.2.2.2.1.2.1.2.2.2 a.2.2.2.2.2.1.2.2 a.2.2.2.2.2.2 K n x t := by
  obtain ⟨hF, hL, hT, -⟩ := right_of hp
  have hlt' : now - a.1 < a.2.2.1 * a.2.1 := by unfold endI at hlt; omega
  have hT2 : a.2.2.1 * a.2.1 ≤ 1000 * a.2.1 := Int.mul_le_mul_of_nonneg_right hT.2 (by omega)
  have ht : ∀ x t : Int, 0 ≤ x → now - a.1 = x + t * a.2.1 → t < 1000 := fun x t h0 h => by
    refine Int.lt_of_mul_lt_mul_right (a := a.2.1) ?_ (by omega)
    omega
  intro n
  induction n with
  | zero => intro x t h1 h2 h3 h4 h5; have := ht x t h2 h5; omega
  | succ n ih =>
    intro x t h1 h2 h3 h4 h5
    have := ht x t h2 h5
    show rtelll43b _ _ _ _ _ _ _ _ _ _ _ _ _ _ _ _
    unfold rtelll43b
    refine ⟨fun h => ?_, fun h => ?_⟩
    · have h := of_decide_eq_true h
      rw [decide_eq_true this]
      unfold rtellj45
      refine ⟨fun _ => ?_, fun h => (by cases h)⟩
      rw [i64_in _ (by omega), i64_in _ (by omega)]
      refine ih _ _ (by omega) (by omega) (by omega) (by omega) ?_
      rw [h5, Int.add_mul]; omega
    · exact rtell_45 hp h2 (by have := of_decide_eq_false h; omega) h4 h5 hle hK
theorem rtell_F (a : A) (now : Int) (hp : tellP a now) : rtellF a.1 a.2.1 a.2.2.1 a.2.2.2.1 a.2.2.2.2.1 a.2.2.2.2.2.1.1 a.2.2.2.2.2.1.2.1.1 a.2.2.2.2.2.1.2.1.2.1 a.2.2.2.2.2.1.2.1.2.2.1 a.2.2.2.2.2.1.2.1.2.2.2 a.2.2.2.2.2.1.2.2 a.2.2.2.2.2.2 now (fun x y b => x = (rtellR a now).1.1 ∧ y = (rtellR a now).1.2 ∧ b = (rtellR a now).2) := by
  obtain ⟨hp, hn0, hn1⟩ := hp
  obtain ⟨hF, hL, hT, -, hl2, hl, -⟩ := right_of hp
  unfold rtellF
  rw [end_eq hp]
  refine ⟨fun h => ?_, fun h => ⟨fun h2 => ⟨fun h3 => ?_, fun h3 => ?_⟩, fun h2 => ?_⟩⟩
  · rw [(tellR_lt (of_decide_eq_true h)).2]; exact ⟨rfl, rfl, rfl⟩
  · have h := of_decide_eq_false h
    rw [(tellR_end (by omega) (of_decide_eq_true h2)).2]
    have h3 : a.2.2.2.2.1 = false := by simpa using h3
    rw [h3]; exact ⟨rfl, rfl, rfl⟩
  · have h := of_decide_eq_false h
    rw [(tellR_end (by omega) (of_decide_eq_true h2)).2]
    have h3 : a.2.2.2.2.1 = true := by simpa using h3
    rw [h3, if_pos rfl]
    obtain ⟨x, hx⟩ := get_some (l := a.2.2.2.2.2.2) (i := 0) (by omega)
    obtain ⟨y, hy⟩ := get_some (l := a.2.2.2.2.2.2) (i := a.2.2.2.2.2.2.length - 1) (by omega)
    have key : ∀ b : Bool, (b = true ↔ (a.2.2.2.1 = true ∧ a.2.2.1 % 2 = 0)) → rtellj26 a.2.2.2.2.2.2 (fun x y b => x = (endV a, true).1.1 ∧ y = (endV a, true).1.2 ∧ b = (endV a, true).2) b := fun b hb => by
      unfold rtellj26 endV
      rw [i64_in _ (by omega), show ((a.2.2.2.2.2.2.length : Int) - 1).toNat = a.2.2.2.2.2.2.length - 1 by omega]
      refine ⟨fun h => ⟨x, by omega, hx, ?_⟩, fun h => ⟨y, by omega, hy, ?_⟩⟩
      · rw [if_pos (hb.1 h), head_of hx]; exact ⟨rfl, rfl, rfl⟩
      · rw [if_neg (fun h' => by rw [hb.2 h'] at h; cases h), last_of hy]; exact ⟨rfl, rfl, rfl⟩
    refine ⟨fun h4 => key _ ?_, fun h4 => key _ ?_⟩
    · rw [h4, Int.tmod_eq_emod_of_nonneg (by omega)]; simp
    · rw [h4]; simp
  · have h := of_decide_eq_false h
    have h2 := of_decide_eq_false h2
    obtain ⟨n, hn⟩ : ∃ n : Nat, (1000 : Int) < n := ⟨1001, by omega⟩
    rw [(tellR_mid (a := a) (now := now) (by omega) (by omega)).2, i64_in _ (by omega)]
    exact ⟨n, rtell_loop (K := fun x y b => x = (fval a (placeI a now), true).1.1 ∧ y = (fval a (placeI a now), true).1.2 ∧ b = (fval a (placeI a now), true).2) hp (by omega) (by omega) ⟨rfl, rfl, rfl⟩ n _ 0 (by omega) (by omega) (by omega) (by omega) (by omega)⟩
set_option linter.unusedVariables false in
theorem rtell_c {g : Ghost} (xa : Int × Int × Int × Bool × Bool × (Int × (Int × Int × Int × Int) × Int) × List (Int × Int × Int)) {a0 : Option Addr} {c0 : Nat} (xnow : Int) (hR0 : Rep g (.slice (.pair (.int .i64) (.pair (.int .i64) (.int .i64)))) [.slice a0 xa.2.2.2.2.2.2.length c0] xa.2.2.2.2.2.2) (hp : tellP xa xnow) : CallsG Try.prog 29 #[.agg #[.int .i64 xa.1, .int .i64 xa.2.1, .int .i64 xa.2.2.1, .bool xa.2.2.2.1, .bool xa.2.2.2.2.1, .int .i64 xa.2.2.2.2.2.1.1, .int .i64 xa.2.2.2.2.2.1.2.1.1, .int .i64 xa.2.2.2.2.2.1.2.1.2.1, .int .i64 xa.2.2.2.2.2.1.2.1.2.2.1, .int .i64 xa.2.2.2.2.2.1.2.1.2.2.2, .int .i64 xa.2.2.2.2.2.1.2.2, .slice a0 xa.2.2.2.2.2.2.length c0], .int .i64 xnow] g (.tuple #[.agg #[.int .i64 (((rtellR xa xnow).1).1), .int .i64 (((rtellR xa xnow).1).2)], .bool ((rtellR xa xnow).2)]) :=
  (rtell_ok xa.1 xa.2.1 xa.2.2.1 xa.2.2.2.1 xa.2.2.2.2.1 xa.2.2.2.2.2.1.1 xa.2.2.2.2.2.1.2.1.1 xa.2.2.2.2.2.1.2.1.2.1 xa.2.2.2.2.2.1.2.1.2.2.1 xa.2.2.2.2.2.1.2.1.2.2.2 xa.2.2.2.2.2.1.2.2 xa.2.2.2.2.2.2 xnow hR0 _ (rtell_F xa xnow hp)).gives (by rintro _ ⟨_, _, _, rfl, rfl, rfl, rfl⟩; rfl)
def aendF (pa_From : Int) (pa_Length : Int) (pa_Times : Int) (K : Int → Prop) : Prop :=
  K (IntKind.wrap .i64 (pa_From + (IntKind.wrap .i64 (pa_Times * pa_Length))))
set_option maxHeartbeats 4000000 in
set_option maxRecDepth 100000 in
set_option linter.unusedVariables false in
theorem aend_ok {g : Ghost} (pa_From : Int) (pa_Length : Int) (pa_Times : Int) (pa_Turn : Bool) (pa_Stays : Bool) (pa_Ease_Kind : Int) (pa_Ease_Curve_0 : Int) (pa_Ease_Curve_1 : Int) (pa_Ease_Curve_2 : Int) (pa_Ease_Curve_3 : Int) (pa_Ease_N : Int) {apa_Frames : Option Addr} {cpa_Frames : Nat} (pa_Frames : List (Int × Int × Int)) (hRpa_Frames : Rep g (.slice (.pair (.int .i64) (.pair (.int .i64) (.int .i64)))) [.slice apa_Frames pa_Frames.length cpa_Frames] pa_Frames) (K : Int → Prop)
    (hF : aendF pa_From pa_Length pa_Times K) : CallsK Try.prog 75 #[.agg #[.int .i64 pa_From, .int .i64 pa_Length, .int .i64 pa_Times, .bool pa_Turn, .bool pa_Stays, .int .i64 pa_Ease_Kind, .int .i64 pa_Ease_Curve_0, .int .i64 pa_Ease_Curve_1, .int .i64 pa_Ease_Curve_2, .int .i64 pa_Ease_Curve_3, .int .i64 pa_Ease_N, .slice apa_Frames pa_Frames.length cpa_Frames]] g (fun v => ∃ r0 : Int, v = .int .i64 r0 ∧ K r0) := by
  refine CallsK.enter 11 [(0, .agg #[.int .i64 pa_From, .int .i64 pa_Length, .int .i64 pa_Times, .bool pa_Turn, .bool pa_Stays, .int .i64 pa_Ease_Kind, .int .i64 pa_Ease_Curve_0, .int .i64 pa_Ease_Curve_1, .int .i64 pa_Ease_Curve_2, .int .i64 pa_Ease_Curve_3, .int .i64 pa_Ease_N, .slice apa_Frames pa_Frames.length cpa_Frames])] Try.func75 rfl (by kernel_rfl) (by kernel_rfl) (by kernel_rfl) fun w0 => ?_
  refine Ok.seq ?_
  refine Ok.region ?_
  refine Ok.op rfl (OpOk.box (v := .agg #[.int .i64 pa_From, .int .i64 pa_Length, .int .i64 pa_Times, .bool pa_Turn, .bool pa_Stays, .int .i64 pa_Ease_Kind, .int .i64 pa_Ease_Curve_0, .int .i64 pa_Ease_Curve_1, .int .i64 pa_Ease_Curve_2, .int .i64 pa_Ease_Curve_3, .int .i64 pa_Ease_N, .slice apa_Frames pa_Frames.length cpa_Frames]) (cs := #[.int .i64 pa_From, .int .i64 pa_Length, .int .i64 pa_Times, .bool pa_Turn, .bool pa_Stays, .int .i64 pa_Ease_Kind, .int .i64 pa_Ease_Curve_0, .int .i64 pa_Ease_Curve_1, .int .i64 pa_Ease_Curve_2, .int .i64 pa_Ease_Curve_3, .int .i64 pa_Ease_N, .slice apa_Frames pa_Frames.length cpa_Frames]) rfl (by kernel_rfl) rfl fun b1 => ?_)
  refine Ok.batch 1 [(1, .pointer (some ⟨b1, 0, none⟩))] (by kernel_rfl) ?_
  refine Ok.nil ?_
  refine Ok.thenN ?_
  refine Ok.seq ?_
  refine Ok.region ?_
  refine Ok.batch 1 [(1, .pointer (some ⟨b1, 0, none⟩)), (3, .pointer (some ⟨b1, 0, none⟩))] (by kernel_rfl) ?_
  refine Ok.op rfl (OpOk.step (v := .int .i64 pa_From) (Yields.load 0 rfl rfl Try.underlying3 rfl (by kernel_rfl)) rfl rfl ?_)
  refine Ok.batch 1 [(1, .pointer (some ⟨b1, 0, none⟩)), (4, .int .i64 pa_From), (5, .pointer (some ⟨b1, 2, none⟩))] (by kernel_rfl) ?_
  refine Ok.op rfl (OpOk.step (v := .int .i64 pa_Times) (Yields.load 0 rfl rfl Try.underlying3 rfl (by kernel_rfl)) rfl rfl ?_)
  refine Ok.batch 1 [(4, .int .i64 pa_From), (6, .int .i64 pa_Times), (7, .pointer (some ⟨b1, 1, none⟩))] (by kernel_rfl) ?_
  refine Ok.op rfl (OpOk.step (v := .int .i64 pa_Length) (Yields.load 0 rfl rfl Try.underlying3 rfl (by kernel_rfl)) rfl rfl ?_)
  refine Ok.batch 3 [(2, .int .i64 (IntKind.wrap .i64 (pa_From + (IntKind.wrap .i64 (pa_Times * pa_Length)))))] (by kernel_rfl) ?_
  refine Ok.nil ?_
  refine Ok.thenN ?_
  refine Ok.ret ?_
  exact Ok.res1 (.inl rfl) rfl (.tmp rfl) ⟨IntKind.wrap .i64 (pa_From + (IntKind.wrap .i64 (pa_Times * pa_Length))), rfl, hF⟩
theorem aend_F (a : A) (hp : endP a) : aendF a.1 a.2.1 a.2.2.1 (fun r => r = endI a) := end_eq hp
set_option linter.unusedVariables false in
theorem aend_c {g : Ghost} (xa : Int × Int × Int × Bool × Bool × (Int × (Int × Int × Int × Int) × Int) × List (Int × Int × Int)) {a0 : Option Addr} {c0 : Nat} (hR0 : Rep g (.slice (.pair (.int .i64) (.pair (.int .i64) (.int .i64)))) [.slice a0 xa.2.2.2.2.2.2.length c0] xa.2.2.2.2.2.2) (hp : endP xa) : CallsG Try.prog 75 #[.agg #[.int .i64 xa.1, .int .i64 xa.2.1, .int .i64 xa.2.2.1, .bool xa.2.2.2.1, .bool xa.2.2.2.2.1, .int .i64 xa.2.2.2.2.2.1.1, .int .i64 xa.2.2.2.2.2.1.2.1.1, .int .i64 xa.2.2.2.2.2.1.2.1.2.1, .int .i64 xa.2.2.2.2.2.1.2.1.2.2.1, .int .i64 xa.2.2.2.2.2.1.2.1.2.2.2, .int .i64 xa.2.2.2.2.2.1.2.2, .slice a0 xa.2.2.2.2.2.2.length c0]] g (.int .i64 (endI xa)) :=
  (aend_ok xa.1 xa.2.1 xa.2.2.1 xa.2.2.2.1 xa.2.2.2.2.1 xa.2.2.2.2.2.1.1 xa.2.2.2.2.2.1.2.1.1 xa.2.2.2.2.2.1.2.1.2.1 xa.2.2.2.2.2.1.2.1.2.2.1 xa.2.2.2.2.2.1.2.1.2.2.2 xa.2.2.2.2.2.1.2.2 xa.2.2.2.2.2.2 hR0 _ (aend_F xa hp)).gives (by rintro _ ⟨_, rfl, rfl⟩; rfl)
def frmsj9 (pa_Ease_Kind : Int) (pa_Ease_Curve_0 : Int) (pa_Ease_Curve_1 : Int) (pa_Ease_Curve_2 : Int) (pa_Ease_Curve_3 : Int) (pa_Ease_N : Int) (pa_Frames : List (Int × Int × Int)) (pr : Int) (K : Int → Int → Prop) (x24j9 : Bool) (x5l7 : Int) (C7 : Int → Prop) : Prop :=
  ((x24j9) = true → C7 (IntKind.wrap .i64 (x5l7 + 1))) ∧ ((x24j9) = false → ∃ e3 : Int × Int × Int, (0 : Int) ≤ x5l7 ∧ pa_Frames[Int.toNat x5l7]? = some e3 ∧ ((((IntKind.wrap .i64 (x5l7 + 1)) == (pa_Frames.length : Int))) = true → K e3.2.1 e3.2.2) ∧ ((((IntKind.wrap .i64 (x5l7 + 1)) == (pa_Frames.length : Int))) = false → ∃ e5 : Int × Int × Int, (0 : Int) ≤ IntKind.wrap .i64 (x5l7 + 1) ∧ pa_Frames[Int.toNat (IntKind.wrap .i64 (x5l7 + 1))]? = some e5 ∧ (IntKind.wrap .i64 (e5.1 - e3.1)) ≠ 0 ∧ easeP (pa_Ease_Kind, (pa_Ease_Curve_0, pa_Ease_Curve_1, pa_Ease_Curve_2, pa_Ease_Curve_3), pa_Ease_N) (IntKind.wrap .i64 (Int.tdiv (IntKind.wrap .i64 ((IntKind.wrap .i64 (pr - e3.1)) * 1000)) (IntKind.wrap .i64 (e5.1 - e3.1)))) ∧ K ((mixV e3.2 e5.2 (easeI (pa_Ease_Kind, (pa_Ease_Curve_0, pa_Ease_Curve_1, pa_Ease_Curve_2, pa_Ease_Curve_3), pa_Ease_N) (IntKind.wrap .i64 (Int.tdiv (IntKind.wrap .i64 ((IntKind.wrap .i64 (pr - e3.1)) * 1000)) (IntKind.wrap .i64 (e5.1 - e3.1)))))).1) ((mixV e3.2 e5.2 (easeI (pa_Ease_Kind, (pa_Ease_Curve_0, pa_Ease_Curve_1, pa_Ease_Curve_2, pa_Ease_Curve_3), pa_Ease_N) (IntKind.wrap .i64 (Int.tdiv (IntKind.wrap .i64 ((IntKind.wrap .i64 (pr - e3.1)) * 1000)) (IntKind.wrap .i64 (e5.1 - e3.1)))))).2)))
def frmsl7b (pa_Ease_Kind : Int) (pa_Ease_Curve_0 : Int) (pa_Ease_Curve_1 : Int) (pa_Ease_Curve_2 : Int) (pa_Ease_Curve_3 : Int) (pa_Ease_N : Int) (pa_Frames : List (Int × Int × Int)) (pr : Int) (K : Int → Int → Prop) (x5l7 : Int) (C7 : Int → Prop) : Prop :=
  ((decide ((IntKind.wrap .i64 (x5l7 + 1)) < (pa_Frames.length : Int))) = true → ∃ e7 : Int × Int × Int, (0 : Int) ≤ IntKind.wrap .i64 (x5l7 + 1) ∧ pa_Frames[Int.toNat (IntKind.wrap .i64 (x5l7 + 1))]? = some e7 ∧ frmsj9 pa_Ease_Kind pa_Ease_Curve_0 pa_Ease_Curve_1 pa_Ease_Curve_2 pa_Ease_Curve_3 pa_Ease_N pa_Frames pr K (decide (e7.1 ≤ pr)) x5l7 C7) ∧ ((decide ((IntKind.wrap .i64 (x5l7 + 1)) < (pa_Frames.length : Int))) = false → frmsj9 pa_Ease_Kind pa_Ease_Curve_0 pa_Ease_Curve_1 pa_Ease_Curve_2 pa_Ease_Curve_3 pa_Ease_N pa_Frames pr K false x5l7 C7)
def frmsl7 (pa_Ease_Kind : Int) (pa_Ease_Curve_0 : Int) (pa_Ease_Curve_1 : Int) (pa_Ease_Curve_2 : Int) (pa_Ease_Curve_3 : Int) (pa_Ease_N : Int) (pa_Frames : List (Int × Int × Int)) (pr : Int) (K : Int → Int → Prop) : Nat → Int → Prop
  | 0, _ => False
  | k + 1, x5l7 => frmsl7b pa_Ease_Kind pa_Ease_Curve_0 pa_Ease_Curve_1 pa_Ease_Curve_2 pa_Ease_Curve_3 pa_Ease_N pa_Frames pr K x5l7 (frmsl7 pa_Ease_Kind pa_Ease_Curve_0 pa_Ease_Curve_1 pa_Ease_Curve_2 pa_Ease_Curve_3 pa_Ease_N pa_Frames pr K k)
def frmsF (pa_Ease_Kind : Int) (pa_Ease_Curve_0 : Int) (pa_Ease_Curve_1 : Int) (pa_Ease_Curve_2 : Int) (pa_Ease_Curve_3 : Int) (pa_Ease_N : Int) (pa_Frames : List (Int × Int × Int)) (pr : Int) (K : Int → Int → Prop) : Prop :=
  ∃ k, frmsl7 pa_Ease_Kind pa_Ease_Curve_0 pa_Ease_Curve_1 pa_Ease_Curve_2 pa_Ease_Curve_3 pa_Ease_N pa_Frames pr K k 0
set_option maxHeartbeats 4000000 in
set_option maxRecDepth 100000 in
set_option linter.unusedVariables false in
theorem frms_ok {g : Ghost} (pa_From : Int) (pa_Length : Int) (pa_Times : Int) (pa_Turn : Bool) (pa_Stays : Bool) (pa_Ease_Kind : Int) (pa_Ease_Curve_0 : Int) (pa_Ease_Curve_1 : Int) (pa_Ease_Curve_2 : Int) (pa_Ease_Curve_3 : Int) (pa_Ease_N : Int) {apa_Frames : Option Addr} {cpa_Frames : Nat} (pa_Frames : List (Int × Int × Int)) (pr : Int) (hRpa_Frames : Rep g (.slice (.pair (.int .i64) (.pair (.int .i64) (.int .i64)))) [.slice apa_Frames pa_Frames.length cpa_Frames] pa_Frames) (K : Int → Int → Prop)
    (hF : frmsF pa_Ease_Kind pa_Ease_Curve_0 pa_Ease_Curve_1 pa_Ease_Curve_2 pa_Ease_Curve_3 pa_Ease_N pa_Frames pr K) : CallsK Try.prog 76 #[.agg #[.int .i64 pa_From, .int .i64 pa_Length, .int .i64 pa_Times, .bool pa_Turn, .bool pa_Stays, .int .i64 pa_Ease_Kind, .int .i64 pa_Ease_Curve_0, .int .i64 pa_Ease_Curve_1, .int .i64 pa_Ease_Curve_2, .int .i64 pa_Ease_Curve_3, .int .i64 pa_Ease_N, .slice apa_Frames pa_Frames.length cpa_Frames], .int .i64 pr] g (fun v => ∃ r0 : Int, ∃ r1 : Int, v = .agg #[.int .i64 r0, .int .i64 r1] ∧ K r0 r1) := by
  refine CallsK.enter 65 [(0, .agg #[.int .i64 pa_From, .int .i64 pa_Length, .int .i64 pa_Times, .bool pa_Turn, .bool pa_Stays, .int .i64 pa_Ease_Kind, .int .i64 pa_Ease_Curve_0, .int .i64 pa_Ease_Curve_1, .int .i64 pa_Ease_Curve_2, .int .i64 pa_Ease_Curve_3, .int .i64 pa_Ease_N, .slice apa_Frames pa_Frames.length cpa_Frames]), (1, .int .i64 pr)] Try.func76 rfl (by kernel_rfl) (by kernel_rfl) (by kernel_rfl) fun w0 => ?_
  refine Ok.seq ?_
  refine Ok.region ?_
  refine Ok.op rfl (OpOk.box (v := .agg #[.int .i64 pa_From, .int .i64 pa_Length, .int .i64 pa_Times, .bool pa_Turn, .bool pa_Stays, .int .i64 pa_Ease_Kind, .int .i64 pa_Ease_Curve_0, .int .i64 pa_Ease_Curve_1, .int .i64 pa_Ease_Curve_2, .int .i64 pa_Ease_Curve_3, .int .i64 pa_Ease_N, .slice apa_Frames pa_Frames.length cpa_Frames]) (cs := #[.int .i64 pa_From, .int .i64 pa_Length, .int .i64 pa_Times, .bool pa_Turn, .bool pa_Stays, .int .i64 pa_Ease_Kind, .int .i64 pa_Ease_Curve_0, .int .i64 pa_Ease_Curve_1, .int .i64 pa_Ease_Curve_2, .int .i64 pa_Ease_Curve_3, .int .i64 pa_Ease_N, .slice apa_Frames pa_Frames.length cpa_Frames]) rfl (by kernel_rfl) rfl fun b1 => ?_)
  refine Ok.op rfl (OpOk.alloc (z := .agg #[.int .i64 0, .int .i64 0]) (cs := #[.int .i64 0, .int .i64 0]) (by kernel_rfl) (by kernel_rfl) rfl fun b2 => ?_)
  refine Ok.nil ?_
  refine Ok.thenN ?_
  refine Ok.seq ?_
  refine Ok.region ?_
  refine Ok.batch 1 [(1, .int .i64 pr), (2, .pointer (some ⟨b1, 0, none⟩)), (4, .pointer (some ⟨b2, 0, none⟩)), (5, .int .i64 0)] (by kernel_rfl) ?_
  refine Ok.nil ?_
  refine Ok.thenN ?_
  refine Ok.seq ?_
  refine Ok.block ?_
  obtain ⟨k, hF⟩ := hF
  refine Ok.loop (fun k a W => ∃ (x5l7 : Int), StA 65 [(1, .int .i64 pr), (2, .pointer (some ⟨b1, 0, none⟩)), (4, .pointer (some ⟨b2, 0, none⟩)), (5, .int .i64 x5l7)] a ∧ StW w0 [.blk b2 (.cells #[.int .i64 0, .int .i64 0] 44), .blk b1 (.cells #[.int .i64 pa_From, .int .i64 pa_Length, .int .i64 pa_Times, .bool pa_Turn, .bool pa_Stays, .int .i64 pa_Ease_Kind, .int .i64 pa_Ease_Curve_0, .int .i64 pa_Ease_Curve_1, .int .i64 pa_Ease_Curve_2, .int .i64 pa_Ease_Curve_3, .int .i64 pa_Ease_N, .slice apa_Frames pa_Frames.length cpa_Frames] 40)] g W ∧ frmsl7 pa_Ease_Kind pa_Ease_Curve_0 pa_Ease_Curve_1 pa_Ease_Curve_2 pa_Ease_Curve_3 pa_Ease_N pa_Frames pr K k x5l7) k ?_ ?_
  ·
    exact fun a W hA hW => ⟨0, hA.sub (by kernel_rfl), hW, hF⟩
  ·
    rintro k7 a W ⟨x5l7, hA, hW, hF⟩
    cases k7 with
    | zero => exact (hF : False).elim
    | succ k7 =>
      refine (?_ : Ok _ _ _ _ _ _) a W hA hW
      clear hA hW
      refine Ok.seq ?_
      refine Ok.cut (fun a W => ∃ (x24j9 : Bool), StA 65 [(1, .int .i64 pr), (2, .pointer (some ⟨b1, 0, none⟩)), (4, .pointer (some ⟨b2, 0, none⟩)), (5, .int .i64 x5l7), (24, .bool x24j9)] a ∧ StW w0 [.blk b2 (.cells #[.int .i64 0, .int .i64 0] 44), .blk b1 (.cells #[.int .i64 pa_From, .int .i64 pa_Length, .int .i64 pa_Times, .bool pa_Turn, .bool pa_Stays, .int .i64 pa_Ease_Kind, .int .i64 pa_Ease_Curve_0, .int .i64 pa_Ease_Curve_1, .int .i64 pa_Ease_Curve_2, .int .i64 pa_Ease_Curve_3, .int .i64 pa_Ease_N, .slice apa_Frames pa_Frames.length cpa_Frames] 40)] g W ∧ frmsj9 pa_Ease_Kind pa_Ease_Curve_0 pa_Ease_Curve_1 pa_Ease_Curve_2 pa_Ease_Curve_3 pa_Ease_N pa_Frames pr K x24j9 x5l7 (frmsl7 pa_Ease_Kind pa_Ease_Curve_0 pa_Ease_Curve_1 pa_Ease_Curve_2 pa_Ease_Curve_3 pa_Ease_N pa_Frames pr K k7)) ?_ ?_
      ·
        refine Ok.region ?_
        refine Ok.batch 3 [(1, .int .i64 pr), (2, .pointer (some ⟨b1, 0, none⟩)), (4, .pointer (some ⟨b2, 0, none⟩)), (5, .int .i64 x5l7), (9, .int .i64 (IntKind.wrap .i64 (x5l7 + 1))), (10, .pointer (some ⟨b1, 11, none⟩))] (by kernel_rfl) ?_
        refine Ok.op rfl (OpOk.step (v := .slice apa_Frames pa_Frames.length cpa_Frames) (Yields.load 1 rfl rfl Try.underlying38 rfl (by kernel_rfl)) rfl rfl ?_)
        refine Ok.batch 3 [(1, .int .i64 pr), (2, .pointer (some ⟨b1, 0, none⟩)), (4, .pointer (some ⟨b2, 0, none⟩)), (5, .int .i64 x5l7), (14, .bool (decide ((IntKind.wrap .i64 (x5l7 + 1)) < (pa_Frames.length : Int))))] (by kernel_rfl) ?_
        refine Ok.boolAt 14 (decide ((IntKind.wrap .i64 (x5l7 + 1)) < (pa_Frames.length : Int))) rfl (fun hc => ?_) (fun hc => ?_)
        · replace hF := hF.1 hc
          refine Ok.batch 1 [(1, .int .i64 pr), (2, .pointer (some ⟨b1, 0, none⟩)), (4, .pointer (some ⟨b2, 0, none⟩)), (5, .int .i64 x5l7), (14, .bool true), (15, .pointer (some ⟨b1, 11, none⟩))] (by kernel_rfl) ?_
          refine Ok.opYes (j := 6) (d := 14) (want := true) (b := true) rfl (by kernel_rfl) (by kernel_rfl) rfl (OpOk.step (v := .slice apa_Frames pa_Frames.length cpa_Frames) (Yields.load 1 rfl rfl Try.underlying38 rfl (by kernel_rfl)) rfl rfl ?_)
          refine Ok.batch 2 [(1, .int .i64 pr), (2, .pointer (some ⟨b1, 0, none⟩)), (4, .pointer (some ⟨b2, 0, none⟩)), (5, .int .i64 x5l7), (14, .bool true), (16, .slice apa_Frames pa_Frames.length cpa_Frames), (18, .int .i64 (IntKind.wrap .i64 (x5l7 + 1)))] (by kernel_rfl) ?_
          obtain ⟨e7, h07, he7, hF⟩ := hF
          refine Ok.opYes (j := 6) (d := 14) (want := true) (b := true) rfl (by kernel_rfl) (by kernel_rfl) rfl (OpOk.indexRo (e := .pair (.int .i64) (.pair (.int .i64) (.int .i64))) (i := IntKind.wrap .i64 (x5l7 + 1)) (el := e7) rfl rfl Try.underlying38 (by kernel_rfl) hRpa_Frames h07 he7 rfl fun q7 o7 cs7 _ hat7 hr7 => ?_)
          obtain ⟨_, _, rfl, ⟨rfl, _⟩, ⟨_, _, rfl, ⟨rfl, _⟩, ⟨rfl, _⟩⟩⟩ := hr7
          replace hat7 : At g q7 o7 [.int .i64 e7.1, .int .i64 e7.2.1, .int .i64 e7.2.2] := hat7
          refine Ok.batch 1 [(1, .int .i64 pr), (2, .pointer (some ⟨b1, 0, none⟩)), (4, .pointer (some ⟨b2, 0, none⟩)), (5, .int .i64 x5l7), (14, .bool true), (20, .pointer (some ⟨q7, o7, none⟩))] (by kernel_rfl) ?_
          refine Ok.opYes (j := 6) (d := 14) (want := true) (b := true) rfl (by kernel_rfl) (by kernel_rfl) rfl (OpOk.step (v := .int .i64 e7.1) (Yields.loadRo 0 hat7 (by kernel_rfl) Try.underlying3 rfl (by kernel_rfl)) rfl rfl ?_)
          refine Ok.batch 3 [(1, .int .i64 pr), (2, .pointer (some ⟨b1, 0, none⟩)), (4, .pointer (some ⟨b2, 0, none⟩)), (5, .int .i64 x5l7), (24, .bool (decide (e7.1 ≤ pr)))] (by kernel_rfl) ?_
          refine Ok.nil ?_
          refine Ok.thenN ?_
          exact fun a W hA hW => ⟨(decide (e7.1 ≤ pr)), hA.sub (by kernel_rfl), hW, hF⟩
        · replace hF := hF.2 hc
          refine Ok.batch 10 [(1, .int .i64 pr), (2, .pointer (some ⟨b1, 0, none⟩)), (4, .pointer (some ⟨b2, 0, none⟩)), (5, .int .i64 x5l7), (24, .bool false)] (by kernel_rfl) ?_
          refine Ok.nil ?_
          refine Ok.thenN ?_
          exact fun a W hA hW => ⟨false, hA.sub (by kernel_rfl), hW, hF⟩
      ·
        rintro a W ⟨x24j9, hA, hW, hF⟩
        refine (?_ : Ok _ _ _ _ _ _) a W hA hW
        clear hA hW
        refine Ok.cond (b := x24j9) rfl (fun hc => ?_) (fun hc => ?_)
        · replace hF := hF.1 hc
          refine Ok.skip ?_
          refine Ok.thenN ?_
          refine Ok.block ?_
          refine Ok.region ?_
          refine Ok.batch 3 [(1, .int .i64 pr), (2, .pointer (some ⟨b1, 0, none⟩)), (4, .pointer (some ⟨b2, 0, none⟩)), (5, .int .i64 (IntKind.wrap .i64 (x5l7 + 1)))] (by kernel_rfl) ?_
          refine Ok.nil ?_
          refine Ok.blockN ?_
          refine Ok.thenN ?_
          exact fun a W hA hW => ⟨k7, Nat.lt_succ_self _, (IntKind.wrap .i64 (x5l7 + 1)), hA.sub (by kernel_rfl), hW, hF⟩
        · replace hF := hF.2 hc
          refine Ok.exit ?_
          refine Ok.thenE ?_
          refine Ok.thenE ?_
          refine Ok.blockHit ?_
          refine Ok.thenN ?_
          refine Ok.seq ?_
          refine Ok.region ?_
          refine Ok.batch 1 [(1, .int .i64 pr), (2, .pointer (some ⟨b1, 0, none⟩)), (4, .pointer (some ⟨b2, 0, none⟩)), (5, .int .i64 x5l7), (27, .pointer (some ⟨b1, 11, none⟩))] (by kernel_rfl) ?_
          refine Ok.op rfl (OpOk.step (v := .slice apa_Frames pa_Frames.length cpa_Frames) (Yields.load 1 rfl rfl Try.underlying38 rfl (by kernel_rfl)) rfl rfl ?_)
          refine Ok.batch 1 [(1, .int .i64 pr), (2, .pointer (some ⟨b1, 0, none⟩)), (4, .pointer (some ⟨b2, 0, none⟩)), (5, .int .i64 x5l7), (28, .slice apa_Frames pa_Frames.length cpa_Frames), (29, .int .i64 x5l7)] (by kernel_rfl) ?_
          obtain ⟨e3, h03, he3, hF⟩ := hF
          refine Ok.op rfl (OpOk.indexRo (e := .pair (.int .i64) (.pair (.int .i64) (.int .i64))) (i := x5l7) (el := e3) rfl rfl Try.underlying38 (by kernel_rfl) hRpa_Frames h03 he3 rfl fun q3 o3 cs3 _ hat3 hr3 => ?_)
          obtain ⟨_, _, rfl, ⟨rfl, _⟩, ⟨_, _, rfl, ⟨rfl, _⟩, ⟨rfl, _⟩⟩⟩ := hr3
          replace hat3 : At g q3 o3 [.int .i64 e3.1, .int .i64 e3.2.1, .int .i64 e3.2.2] := hat3
          refine Ok.op rfl (OpOk.step (v := .agg #[.int .i64 e3.1, .int .i64 e3.2.1, .int .i64 e3.2.2]) (Yields.loadAggRo 0 3 #[.int .i64 e3.1, .int .i64 e3.2.1, .int .i64 e3.2.2] hat3 (by kernel_rfl) Try.underlying78 rfl (by kernel_rfl) (by kernel_rfl) (by kernel_rfl)) rfl rfl ?_)
          refine Ok.op rfl (OpOk.alloc (z := .agg #[.int .i64 0, .int .i64 0, .int .i64 0]) (cs := #[.int .i64 0, .int .i64 0, .int .i64 0]) (by kernel_rfl) (by kernel_rfl) rfl fun b4 => ?_)
          refine Ok.op rfl (OpOk.store (k := 3) (v := .agg #[.int .i64 e3.1, .int .i64 e3.2.1, .int .i64 e3.2.2]) (H' := [.blk b4 (.cells #[.int .i64 e3.1, .int .i64 e3.2.1, .int .i64 e3.2.2] 78), .blk b2 (.cells #[.int .i64 0, .int .i64 0] 44), .blk b1 (.cells #[.int .i64 pa_From, .int .i64 pa_Length, .int .i64 pa_Times, .bool pa_Turn, .bool pa_Stays, .int .i64 pa_Ease_Kind, .int .i64 pa_Ease_Curve_0, .int .i64 pa_Ease_Curve_1, .int .i64 pa_Ease_Curve_2, .int .i64 pa_Ease_Curve_3, .int .i64 pa_Ease_N, .slice apa_Frames pa_Frames.length cpa_Frames] 40)]) 0 rfl rfl rfl (by kernel_rfl) (by kernel_rfl) (by kernel_rfl) (by kernel_rfl) (by kernel_rfl) ?_)
          refine Ok.nil ?_
          refine Ok.thenN ?_
          refine Ok.seq ?_
          refine Ok.seq ?_
          refine Ok.region ?_
          refine Ok.batch 3 [(1, .int .i64 pr), (2, .pointer (some ⟨b1, 0, none⟩)), (4, .pointer (some ⟨b2, 0, none⟩)), (5, .int .i64 x5l7), (6, .pointer (some ⟨b4, 0, none⟩)), (33, .int .i64 (IntKind.wrap .i64 (x5l7 + 1))), (34, .pointer (some ⟨b1, 11, none⟩))] (by kernel_rfl) ?_
          refine Ok.op rfl (OpOk.step (v := .slice apa_Frames pa_Frames.length cpa_Frames) (Yields.load 2 rfl rfl Try.underlying38 rfl (by kernel_rfl)) rfl rfl ?_)
          refine Ok.batch 2 [(1, .int .i64 pr), (2, .pointer (some ⟨b1, 0, none⟩)), (4, .pointer (some ⟨b2, 0, none⟩)), (5, .int .i64 x5l7), (6, .pointer (some ⟨b4, 0, none⟩)), (37, .bool ((IntKind.wrap .i64 (x5l7 + 1)) == (pa_Frames.length : Int)))] (by kernel_rfl) ?_
          refine Ok.nil ?_
          refine Ok.thenN ?_
          refine Ok.cond (b := ((IntKind.wrap .i64 (x5l7 + 1)) == (pa_Frames.length : Int))) rfl (fun hc => ?_) (fun hc => ?_)
          · replace hF := hF.1 hc
            refine Ok.seq ?_
            refine Ok.region ?_
            refine Ok.batch 1 [(4, .pointer (some ⟨b2, 0, none⟩)), (38, .pointer (some ⟨b4, 1, none⟩))] (by kernel_rfl) ?_
            refine Ok.op rfl (OpOk.step (v := .agg #[.int .i64 e3.2.1, .int .i64 e3.2.2]) (Yields.loadAgg 0 2 #[.int .i64 e3.2.1, .int .i64 e3.2.2] rfl rfl Try.underlying44 rfl (by kernel_rfl) (by kernel_rfl) (by kernel_rfl)) rfl rfl ?_)
            refine Ok.op rfl (OpOk.store (k := 2) (v := .agg #[.int .i64 e3.2.1, .int .i64 e3.2.2]) (H' := [.blk b4 (.cells #[.int .i64 e3.1, .int .i64 e3.2.1, .int .i64 e3.2.2] 78), .blk b2 (.cells #[.int .i64 e3.2.1, .int .i64 e3.2.2] 44), .blk b1 (.cells #[.int .i64 pa_From, .int .i64 pa_Length, .int .i64 pa_Times, .bool pa_Turn, .bool pa_Stays, .int .i64 pa_Ease_Kind, .int .i64 pa_Ease_Curve_0, .int .i64 pa_Ease_Curve_1, .int .i64 pa_Ease_Curve_2, .int .i64 pa_Ease_Curve_3, .int .i64 pa_Ease_N, .slice apa_Frames pa_Frames.length cpa_Frames] 40)]) 1 rfl rfl rfl (by kernel_rfl) (by kernel_rfl) (by kernel_rfl) (by kernel_rfl) (by kernel_rfl) ?_)
            refine Ok.nil ?_
            refine Ok.thenN ?_
            refine Ok.ret ?_
            refine Ok.thenR ?_
            exact Ok.res1 (.inl rfl) rfl (.cellAgg 1 2 #[.int .i64 e3.2.1, .int .i64 e3.2.2] rfl rfl Try.underlying44 rfl (by kernel_rfl) (by kernel_rfl) (by kernel_rfl)) ⟨e3.2.1, e3.2.2, rfl, hF⟩
          · replace hF := hF.2 hc
            refine Ok.skip ?_
            refine Ok.thenN ?_
            refine Ok.seq ?_
            refine Ok.region ?_
            refine Ok.batch 1 [(1, .int .i64 pr), (2, .pointer (some ⟨b1, 0, none⟩)), (4, .pointer (some ⟨b2, 0, none⟩)), (5, .int .i64 x5l7), (6, .pointer (some ⟨b4, 0, none⟩)), (40, .pointer (some ⟨b1, 11, none⟩))] (by kernel_rfl) ?_
            refine Ok.op rfl (OpOk.step (v := .slice apa_Frames pa_Frames.length cpa_Frames) (Yields.load 2 rfl rfl Try.underlying38 rfl (by kernel_rfl)) rfl rfl ?_)
            refine Ok.batch 2 [(1, .int .i64 pr), (2, .pointer (some ⟨b1, 0, none⟩)), (4, .pointer (some ⟨b2, 0, none⟩)), (6, .pointer (some ⟨b4, 0, none⟩)), (41, .slice apa_Frames pa_Frames.length cpa_Frames), (43, .int .i64 (IntKind.wrap .i64 (x5l7 + 1)))] (by kernel_rfl) ?_
            obtain ⟨e5, h05, he5, hF⟩ := hF
            refine Ok.op rfl (OpOk.indexRo (e := .pair (.int .i64) (.pair (.int .i64) (.int .i64))) (i := IntKind.wrap .i64 (x5l7 + 1)) (el := e5) rfl rfl Try.underlying38 (by kernel_rfl) hRpa_Frames h05 he5 rfl fun q5 o5 cs5 _ hat5 hr5 => ?_)
            obtain ⟨_, _, rfl, ⟨rfl, _⟩, ⟨_, _, rfl, ⟨rfl, _⟩, ⟨rfl, _⟩⟩⟩ := hr5
            replace hat5 : At g q5 o5 [.int .i64 e5.1, .int .i64 e5.2.1, .int .i64 e5.2.2] := hat5
            refine Ok.op rfl (OpOk.step (v := .agg #[.int .i64 e5.1, .int .i64 e5.2.1, .int .i64 e5.2.2]) (Yields.loadAggRo 0 3 #[.int .i64 e5.1, .int .i64 e5.2.1, .int .i64 e5.2.2] hat5 (by kernel_rfl) Try.underlying78 rfl (by kernel_rfl) (by kernel_rfl) (by kernel_rfl)) rfl rfl ?_)
            refine Ok.op rfl (OpOk.alloc (z := .agg #[.int .i64 0, .int .i64 0, .int .i64 0]) (cs := #[.int .i64 0, .int .i64 0, .int .i64 0]) (by kernel_rfl) (by kernel_rfl) rfl fun b6 => ?_)
            refine Ok.op rfl (OpOk.store (k := 3) (v := .agg #[.int .i64 e5.1, .int .i64 e5.2.1, .int .i64 e5.2.2]) (H' := [.blk b6 (.cells #[.int .i64 e5.1, .int .i64 e5.2.1, .int .i64 e5.2.2] 78), .blk b4 (.cells #[.int .i64 e3.1, .int .i64 e3.2.1, .int .i64 e3.2.2] 78), .blk b2 (.cells #[.int .i64 0, .int .i64 0] 44), .blk b1 (.cells #[.int .i64 pa_From, .int .i64 pa_Length, .int .i64 pa_Times, .bool pa_Turn, .bool pa_Stays, .int .i64 pa_Ease_Kind, .int .i64 pa_Ease_Curve_0, .int .i64 pa_Ease_Curve_1, .int .i64 pa_Ease_Curve_2, .int .i64 pa_Ease_Curve_3, .int .i64 pa_Ease_N, .slice apa_Frames pa_Frames.length cpa_Frames] 40)]) 0 rfl rfl rfl (by kernel_rfl) (by kernel_rfl) (by kernel_rfl) (by kernel_rfl) (by kernel_rfl) ?_)
            refine Ok.nil ?_
            refine Ok.thenN ?_
            refine Ok.seq ?_
            refine Ok.mix [.blk b6 (.cells #[.int .i64 e5.1, .int .i64 e5.2.1, .int .i64 e5.2.2] 78), .blk b4 (.cells #[.int .i64 e3.1, .int .i64 e3.2.1, .int .i64 e3.2.2] 78), .blk b1 (.cells #[.int .i64 pa_From, .int .i64 pa_Length, .int .i64 pa_Times, .bool pa_Turn, .bool pa_Stays, .int .i64 pa_Ease_Kind, .int .i64 pa_Ease_Curve_0, .int .i64 pa_Ease_Curve_1, .int .i64 pa_Ease_Curve_2, .int .i64 pa_Ease_Curve_3, .int .i64 pa_Ease_N, .slice apa_Frames pa_Frames.length cpa_Frames] 40)] [(0, true), (1, true), (2, true), (3, true), (4, true), (5, true), (6, true), (7, true), (8, true), (9, true), (10, true), (11, true), (12, true), (13, true), (14, true), (15, true), (16, true), (17, true), (18, true), (19, false)] (by kernel_rfl) (by kernel_rfl) (.cons_cons _ (.cons_cons _ (.cons _ (.cons_cons _ .slnil)))) ?_
            refine OkM.batch 1 [(1, .int .i64 pr), (2, .pointer (some ⟨b1, 0, none⟩)), (4, .pointer (some ⟨b2, 0, none⟩)), (6, .pointer (some ⟨b4, 0, none⟩)), (7, .pointer (some ⟨b6, 0, none⟩)), (46, .pointer (some ⟨b4, 1, none⟩))] (by kernel_rfl) ?_
            refine OkM.head rfl rfl (OpQ.step (v := .agg #[.int .i64 e3.2.1, .int .i64 e3.2.2]) (Yields.loadAgg 1 2 #[.int .i64 e3.2.1, .int .i64 e3.2.2] rfl rfl Try.underlying44 rfl (by kernel_rfl) (by kernel_rfl) (by kernel_rfl)) rfl rfl ?_)
            refine OkM.batch 1 [(1, .int .i64 pr), (2, .pointer (some ⟨b1, 0, none⟩)), (4, .pointer (some ⟨b2, 0, none⟩)), (6, .pointer (some ⟨b4, 0, none⟩)), (7, .pointer (some ⟨b6, 0, none⟩)), (47, .agg #[.int .i64 e3.2.1, .int .i64 e3.2.2]), (48, .pointer (some ⟨b6, 1, none⟩))] (by kernel_rfl) ?_
            refine OkM.head rfl rfl (OpQ.step (v := .agg #[.int .i64 e5.2.1, .int .i64 e5.2.2]) (Yields.loadAgg 0 2 #[.int .i64 e5.2.1, .int .i64 e5.2.2] rfl rfl Try.underlying44 rfl (by kernel_rfl) (by kernel_rfl) (by kernel_rfl)) rfl rfl ?_)
            refine OkM.batch 1 [(1, .int .i64 pr), (4, .pointer (some ⟨b2, 0, none⟩)), (6, .pointer (some ⟨b4, 0, none⟩)), (7, .pointer (some ⟨b6, 0, none⟩)), (47, .agg #[.int .i64 e3.2.1, .int .i64 e3.2.2]), (49, .agg #[.int .i64 e5.2.1, .int .i64 e5.2.2]), (50, .pointer (some ⟨b1, 5, none⟩))] (by kernel_rfl) ?_
            refine OkM.head rfl rfl (OpQ.step (v := .agg #[.int .i64 pa_Ease_Kind, .int .i64 pa_Ease_Curve_0, .int .i64 pa_Ease_Curve_1, .int .i64 pa_Ease_Curve_2, .int .i64 pa_Ease_Curve_3, .int .i64 pa_Ease_N]) (Yields.loadAgg 2 6 #[.int .i64 pa_Ease_Kind, .int .i64 pa_Ease_Curve_0, .int .i64 pa_Ease_Curve_1, .int .i64 pa_Ease_Curve_2, .int .i64 pa_Ease_Curve_3, .int .i64 pa_Ease_N] rfl rfl Try.underlying25 rfl (by kernel_rfl) (by kernel_rfl) (by kernel_rfl)) rfl rfl ?_)
            refine OkM.batch 2 [(4, .pointer (some ⟨b2, 0, none⟩)), (6, .pointer (some ⟨b4, 0, none⟩)), (7, .pointer (some ⟨b6, 0, none⟩)), (47, .agg #[.int .i64 e3.2.1, .int .i64 e3.2.2]), (49, .agg #[.int .i64 e5.2.1, .int .i64 e5.2.2]), (51, .agg #[.int .i64 pa_Ease_Kind, .int .i64 pa_Ease_Curve_0, .int .i64 pa_Ease_Curve_1, .int .i64 pa_Ease_Curve_2, .int .i64 pa_Ease_Curve_3, .int .i64 pa_Ease_N]), (52, .int .i64 pr), (53, .pointer (some ⟨b4, 0, none⟩))] (by kernel_rfl) ?_
            refine OkM.head rfl rfl (OpQ.step (v := .int .i64 e3.1) (Yields.load 1 rfl rfl Try.underlying3 rfl (by kernel_rfl)) rfl rfl ?_)
            refine OkM.batch 3 [(4, .pointer (some ⟨b2, 0, none⟩)), (6, .pointer (some ⟨b4, 0, none⟩)), (47, .agg #[.int .i64 e3.2.1, .int .i64 e3.2.2]), (49, .agg #[.int .i64 e5.2.1, .int .i64 e5.2.2]), (51, .agg #[.int .i64 pa_Ease_Kind, .int .i64 pa_Ease_Curve_0, .int .i64 pa_Ease_Curve_1, .int .i64 pa_Ease_Curve_2, .int .i64 pa_Ease_Curve_3, .int .i64 pa_Ease_N]), (56, .int .i64 (IntKind.wrap .i64 ((IntKind.wrap .i64 (pr - e3.1)) * 1000))), (57, .pointer (some ⟨b6, 0, none⟩))] (by kernel_rfl) ?_
            refine OkM.head rfl rfl (OpQ.step (v := .int .i64 e5.1) (Yields.load 0 rfl rfl Try.underlying3 rfl (by kernel_rfl)) rfl rfl ?_)
            refine OkM.batch 1 [(4, .pointer (some ⟨b2, 0, none⟩)), (47, .agg #[.int .i64 e3.2.1, .int .i64 e3.2.2]), (49, .agg #[.int .i64 e5.2.1, .int .i64 e5.2.2]), (51, .agg #[.int .i64 pa_Ease_Kind, .int .i64 pa_Ease_Curve_0, .int .i64 pa_Ease_Curve_1, .int .i64 pa_Ease_Curve_2, .int .i64 pa_Ease_Curve_3, .int .i64 pa_Ease_N]), (56, .int .i64 (IntKind.wrap .i64 ((IntKind.wrap .i64 (pr - e3.1)) * 1000))), (58, .int .i64 e5.1), (59, .pointer (some ⟨b4, 0, none⟩))] (by kernel_rfl) ?_
            refine OkM.head rfl rfl (OpQ.step (v := .int .i64 e3.1) (Yields.load 1 rfl rfl Try.underlying3 rfl (by kernel_rfl)) rfl rfl ?_)
            refine OkM.batch 1 [(4, .pointer (some ⟨b2, 0, none⟩)), (47, .agg #[.int .i64 e3.2.1, .int .i64 e3.2.2]), (49, .agg #[.int .i64 e5.2.1, .int .i64 e5.2.2]), (51, .agg #[.int .i64 pa_Ease_Kind, .int .i64 pa_Ease_Curve_0, .int .i64 pa_Ease_Curve_1, .int .i64 pa_Ease_Curve_2, .int .i64 pa_Ease_Curve_3, .int .i64 pa_Ease_N]), (56, .int .i64 (IntKind.wrap .i64 ((IntKind.wrap .i64 (pr - e3.1)) * 1000))), (61, .int .i64 (IntKind.wrap .i64 (e5.1 - e3.1)))] (by kernel_rfl) ?_
            obtain ⟨hv, hF⟩ := hF
            refine OkM.head rfl rfl (OpQ.step (v := .int .i64 (IntKind.wrap .i64 (Int.tdiv (IntKind.wrap .i64 ((IntKind.wrap .i64 (pr - e3.1)) * 1000)) (IntKind.wrap .i64 (e5.1 - e3.1))))) (Yields.quo rfl rfl hv) rfl rfl ?_)
            obtain ⟨hp, hF⟩ := hF
            refine OkM.head rfl rfl (OpQ.call (v := .int .i64 (easeI (pa_Ease_Kind, (pa_Ease_Curve_0, pa_Ease_Curve_1, pa_Ease_Curve_2, pa_Ease_Curve_3), pa_Ease_N) (IntKind.wrap .i64 (Int.tdiv (IntKind.wrap .i64 ((IntKind.wrap .i64 (pr - e3.1)) * 1000)) (IntKind.wrap .i64 (e5.1 - e3.1)))))) (enters (by kernel_rfl) (fun _ => by kernel_rfl)) (eased_c (pa_Ease_Kind, (pa_Ease_Curve_0, pa_Ease_Curve_1, pa_Ease_Curve_2, pa_Ease_Curve_3), pa_Ease_N) (IntKind.wrap .i64 (Int.tdiv (IntKind.wrap .i64 ((IntKind.wrap .i64 (pr - e3.1)) * 1000)) (IntKind.wrap .i64 (e5.1 - e3.1)))) hp) rfl rfl ?_)
            refine OkM.head rfl rfl (OpQ.call (v := .agg #[.int .i64 ((mixV e3.2 e5.2 (easeI (pa_Ease_Kind, (pa_Ease_Curve_0, pa_Ease_Curve_1, pa_Ease_Curve_2, pa_Ease_Curve_3), pa_Ease_N) (IntKind.wrap .i64 (Int.tdiv (IntKind.wrap .i64 ((IntKind.wrap .i64 (pr - e3.1)) * 1000)) (IntKind.wrap .i64 (e5.1 - e3.1)))))).1), .int .i64 ((mixV e3.2 e5.2 (easeI (pa_Ease_Kind, (pa_Ease_Curve_0, pa_Ease_Curve_1, pa_Ease_Curve_2, pa_Ease_Curve_3), pa_Ease_N) (IntKind.wrap .i64 (Int.tdiv (IntKind.wrap .i64 ((IntKind.wrap .i64 (pr - e3.1)) * 1000)) (IntKind.wrap .i64 (e5.1 - e3.1)))))).2)]) (enters (by kernel_rfl) (fun _ => by kernel_rfl)) (mix_c e3.2 e5.2 (easeI (pa_Ease_Kind, (pa_Ease_Curve_0, pa_Ease_Curve_1, pa_Ease_Curve_2, pa_Ease_Curve_3), pa_Ease_N) (IntKind.wrap .i64 (Int.tdiv (IntKind.wrap .i64 ((IntKind.wrap .i64 (pr - e3.1)) * 1000)) (IntKind.wrap .i64 (e5.1 - e3.1)))))) rfl rfl ?_)
            refine OkM.tail rfl rfl (OpOk.store (k := 2) (v := .agg #[.int .i64 ((mixV e3.2 e5.2 (easeI (pa_Ease_Kind, (pa_Ease_Curve_0, pa_Ease_Curve_1, pa_Ease_Curve_2, pa_Ease_Curve_3), pa_Ease_N) (IntKind.wrap .i64 (Int.tdiv (IntKind.wrap .i64 ((IntKind.wrap .i64 (pr - e3.1)) * 1000)) (IntKind.wrap .i64 (e5.1 - e3.1)))))).1), .int .i64 ((mixV e3.2 e5.2 (easeI (pa_Ease_Kind, (pa_Ease_Curve_0, pa_Ease_Curve_1, pa_Ease_Curve_2, pa_Ease_Curve_3), pa_Ease_N) (IntKind.wrap .i64 (Int.tdiv (IntKind.wrap .i64 ((IntKind.wrap .i64 (pr - e3.1)) * 1000)) (IntKind.wrap .i64 (e5.1 - e3.1)))))).2)]) (H' := [.blk b6 (.cells #[.int .i64 e5.1, .int .i64 e5.2.1, .int .i64 e5.2.2] 78), .blk b4 (.cells #[.int .i64 e3.1, .int .i64 e3.2.1, .int .i64 e3.2.2] 78), .blk b2 (.cells #[.int .i64 ((mixV e3.2 e5.2 (easeI (pa_Ease_Kind, (pa_Ease_Curve_0, pa_Ease_Curve_1, pa_Ease_Curve_2, pa_Ease_Curve_3), pa_Ease_N) (IntKind.wrap .i64 (Int.tdiv (IntKind.wrap .i64 ((IntKind.wrap .i64 (pr - e3.1)) * 1000)) (IntKind.wrap .i64 (e5.1 - e3.1)))))).1), .int .i64 ((mixV e3.2 e5.2 (easeI (pa_Ease_Kind, (pa_Ease_Curve_0, pa_Ease_Curve_1, pa_Ease_Curve_2, pa_Ease_Curve_3), pa_Ease_N) (IntKind.wrap .i64 (Int.tdiv (IntKind.wrap .i64 ((IntKind.wrap .i64 (pr - e3.1)) * 1000)) (IntKind.wrap .i64 (e5.1 - e3.1)))))).2)] 44), .blk b1 (.cells #[.int .i64 pa_From, .int .i64 pa_Length, .int .i64 pa_Times, .bool pa_Turn, .bool pa_Stays, .int .i64 pa_Ease_Kind, .int .i64 pa_Ease_Curve_0, .int .i64 pa_Ease_Curve_1, .int .i64 pa_Ease_Curve_2, .int .i64 pa_Ease_Curve_3, .int .i64 pa_Ease_N, .slice apa_Frames pa_Frames.length cpa_Frames] 40)]) 2 rfl rfl rfl (by kernel_rfl) (by kernel_rfl) (by kernel_rfl) (by kernel_rfl) (by kernel_rfl) ?_)
            refine OkM.leaf (.cons_cons _ (.cons_cons _ (.cons _ (.cons_cons _ .slnil)))) ?_
            refine OkM.nil ?_
            refine Ok.thenN ?_
            refine Ok.ret ?_
            exact Ok.res1 (.inl rfl) rfl (.cellAgg 2 2 #[.int .i64 ((mixV e3.2 e5.2 (easeI (pa_Ease_Kind, (pa_Ease_Curve_0, pa_Ease_Curve_1, pa_Ease_Curve_2, pa_Ease_Curve_3), pa_Ease_N) (IntKind.wrap .i64 (Int.tdiv (IntKind.wrap .i64 ((IntKind.wrap .i64 (pr - e3.1)) * 1000)) (IntKind.wrap .i64 (e5.1 - e3.1)))))).1), .int .i64 ((mixV e3.2 e5.2 (easeI (pa_Ease_Kind, (pa_Ease_Curve_0, pa_Ease_Curve_1, pa_Ease_Curve_2, pa_Ease_Curve_3), pa_Ease_N) (IntKind.wrap .i64 (Int.tdiv (IntKind.wrap .i64 ((IntKind.wrap .i64 (pr - e3.1)) * 1000)) (IntKind.wrap .i64 (e5.1 - e3.1)))))).2)] rfl rfl Try.underlying44 rfl (by kernel_rfl) (by kernel_rfl) (by kernel_rfl)) ⟨(mixV e3.2 e5.2 (easeI (pa_Ease_Kind, (pa_Ease_Curve_0, pa_Ease_Curve_1, pa_Ease_Curve_2, pa_Ease_Curve_3), pa_Ease_N) (IntKind.wrap .i64 (Int.tdiv (IntKind.wrap .i64 ((IntKind.wrap .i64 (pr - e3.1)) * 1000)) (IntKind.wrap .i64 (e5.1 - e3.1)))))).1, (mixV e3.2 e5.2 (easeI (pa_Ease_Kind, (pa_Ease_Curve_0, pa_Ease_Curve_1, pa_Ease_Curve_2, pa_Ease_Curve_3), pa_Ease_N) (IntKind.wrap .i64 (Int.tdiv (IntKind.wrap .i64 ((IntKind.wrap .i64 (pr - e3.1)) * 1000)) (IntKind.wrap .i64 (e5.1 - e3.1)))))).2, rfl, hF⟩
theorem frms_loop {e : E} {l : List Fr} {r : Int} {K : Int → Int → Prop} (hm : mayB e = true) (hl : l.length ≤ 10) (h0 : (l.headD (0, 0, 0)).1 = 0) (h1 : (l.getLastD (0, 0, 0)).1 = 1000) (hr : rising l = true) (hr1 : r ≤ 1000) :
    ∀ (n k : Nat) (x : Fr), l.length < n + k → l[k]? = some x → x.1 ≤ r → K (fvalL e (l.drop k) r).1 (fvalL e (l.drop k) r).2 → frmsl7 e.1 e.2.1.1 e.2.1.2.1 e.2.1.2.2.1 e.2.1.2.2.2 e.2.2 l r K n k := by
  intro n
  induction n with
  | zero => intro k x h1 h2; have := (List.getElem?_eq_some_iff.1 h2).1; omega
  | succ n ih =>
    intro k x hn hx hxr hK
    show frmsl7b e.1 e.2.1.1 e.2.1.2.1 e.2.1.2.2.1 e.2.1.2.2.2 e.2.2 l r K k _
    unfold frmsl7b frmsj9
    have hk := (List.getElem?_eq_some_iff.1 hx).1
    have hb := at_bd h0 h1 hr hx
    rw [i64_in ((k : Int) + 1) (by omega), show ((k : Int) + 1).toNat = k + 1 by omega, show (k : Int).toNat = k by omega]
    refine ⟨fun h => ?_, fun h => ⟨fun h => (by cases h), fun _ => ⟨x, by omega, hx, fun h2 => ?_, fun h2 => ?_⟩⟩⟩
    · have h := of_decide_eq_true h
      obtain ⟨y, hy⟩ := get_some (l := l) (i := k + 1) (by omega)
      have hb2 := at_bd h0 h1 hr hy
      rw [fval_step hx hy] at hK
      refine ⟨y, by omega, hy, fun h3 => ?_, fun h3 => ⟨x, by omega, hx, fun h4 => ?_, fun h4 => ⟨y, by omega, hy, ?_⟩⟩⟩
      · have h3 := of_decide_eq_true h3
        rw [if_pos h3] at hK
        exact ih (k + 1) y (by omega) hy h3 hK
      · have h4 : (k : Int) + 1 = l.length := by simpa using h4
        omega
      · have h3 := of_decide_eq_false h3
        rw [if_neg h3] at hK
        obtain ⟨p1, p2, p3⟩ := place_eq hb.1 hxr (show r < y.1 by omega) hb2.2
        refine ⟨by rw [i64_in _ (by omega)]; omega, ?_, ?_⟩
        · rw [p1]; exact ⟨hm, p2, p3⟩
        · rw [p1]; exact hK
    · have h := of_decide_eq_false h
      rw [fval_last hx (by omega)] at hK; exact hK
    · have h := of_decide_eq_false h
      have h2 : ¬ (k : Int) + 1 = l.length := by simpa using h2
      omega
theorem frms_F (a : A) (r : Int) (hp : fvalP a r) : frmsF a.2.2.2.2.2.1.1 a.2.2.2.2.2.1.2.1.1 a.2.2.2.2.2.1.2.1.2.1 a.2.2.2.2.2.1.2.1.2.2.1 a.2.2.2.2.2.1.2.1.2.2.2 a.2.2.2.2.2.1.2.2 a.2.2.2.2.2.2 r (fun x y => x = (fval a r).1 ∧ y = (fval a r).2) := by
  obtain ⟨hp, hr0, hr1⟩ := hp
  obtain ⟨-, -, -, hm, hl2, hl, h0, h1, hr⟩ := right_of hp
  obtain ⟨x, hx⟩ := get_some (l := a.2.2.2.2.2.2) (i := 0) (by omega)
  have : x.1 = 0 := by rw [head_of hx] at h0; exact h0
  exact ⟨a.2.2.2.2.2.2.length + 1, frms_loop (K := fun x y => x = (fval a r).1 ∧ y = (fval a r).2) hm hl h0 h1 hr hr1 _ 0 x (by omega) hx (by omega) ⟨rfl, rfl⟩⟩
set_option linter.unusedVariables false in
theorem frms_c {g : Ghost} (xa : Int × Int × Int × Bool × Bool × (Int × (Int × Int × Int × Int) × Int) × List (Int × Int × Int)) {a0 : Option Addr} {c0 : Nat} (xr : Int) (hR0 : Rep g (.slice (.pair (.int .i64) (.pair (.int .i64) (.int .i64)))) [.slice a0 xa.2.2.2.2.2.2.length c0] xa.2.2.2.2.2.2) (hp : fvalP xa xr) : CallsG Try.prog 76 #[.agg #[.int .i64 xa.1, .int .i64 xa.2.1, .int .i64 xa.2.2.1, .bool xa.2.2.2.1, .bool xa.2.2.2.2.1, .int .i64 xa.2.2.2.2.2.1.1, .int .i64 xa.2.2.2.2.2.1.2.1.1, .int .i64 xa.2.2.2.2.2.1.2.1.2.1, .int .i64 xa.2.2.2.2.2.1.2.1.2.2.1, .int .i64 xa.2.2.2.2.2.1.2.1.2.2.2, .int .i64 xa.2.2.2.2.2.1.2.2, .slice a0 xa.2.2.2.2.2.2.length c0], .int .i64 xr] g (.agg #[.int .i64 ((fval xa xr).1), .int .i64 ((fval xa xr).2)]) :=
  (frms_ok xa.1 xa.2.1 xa.2.2.1 xa.2.2.2.1 xa.2.2.2.2.1 xa.2.2.2.2.2.1.1 xa.2.2.2.2.2.1.2.1.1 xa.2.2.2.2.2.1.2.1.2.1 xa.2.2.2.2.2.1.2.1.2.2.1 xa.2.2.2.2.2.1.2.1.2.2.2 xa.2.2.2.2.2.1.2.2 xa.2.2.2.2.2.2 xr hR0 _ (frms_F xa xr hp)).gives (by rintro _ ⟨_, _, rfl, rfl, rfl⟩; rfl)
def tellsj17 (pa_Stays : Bool) (K : Int → Int → Bool → Prop) (yb4_1j17 : Int) (yb4_2j17 : Int) : Prop :=
  K yb4_1j17 yb4_2j17 pa_Stays
def tellsj18 (pa_Stays : Bool) (pa_Frames : List (Int × Int × Int)) (K : Int → Int → Bool → Prop) (e3 : Int × Int × Int) (x33j18 : Bool) : Prop :=
  ((x33j18) = true → ∃ e5 : Int × Int × Int, (0 : Int) ≤ 0 ∧ pa_Frames[Int.toNat 0]? = some e5 ∧ tellsj17 pa_Stays K e5.2.1 e5.2.2) ∧ ((x33j18) = false → tellsj17 pa_Stays K e3.2.1 e3.2.2)
def tellsj31 (pa_From : Int) (pa_Length : Int) (pa_Times : Int) (pa_Turn : Bool) (pa_Stays : Bool) (pa_Ease_Kind : Int) (pa_Ease_Curve_0 : Int) (pa_Ease_Curve_1 : Int) (pa_Ease_Curve_2 : Int) (pa_Ease_Curve_3 : Int) (pa_Ease_N : Int) (pa_Frames : List (Int × Int × Int)) (K : Int → Int → Bool → Prop) (x8j31 : Int) : Prop :=
  fvalP (pa_From, pa_Length, pa_Times, pa_Turn, pa_Stays, (pa_Ease_Kind, (pa_Ease_Curve_0, pa_Ease_Curve_1, pa_Ease_Curve_2, pa_Ease_Curve_3), pa_Ease_N), pa_Frames) x8j31 ∧ K ((fval (pa_From, pa_Length, pa_Times, pa_Turn, pa_Stays, (pa_Ease_Kind, (pa_Ease_Curve_0, pa_Ease_Curve_1, pa_Ease_Curve_2, pa_Ease_Curve_3), pa_Ease_N), pa_Frames) x8j31).1) ((fval (pa_From, pa_Length, pa_Times, pa_Turn, pa_Stays, (pa_Ease_Kind, (pa_Ease_Curve_0, pa_Ease_Curve_1, pa_Ease_Curve_2, pa_Ease_Curve_3), pa_Ease_N), pa_Frames) x8j31).2) true
def tellsj32 (pa_From : Int) (pa_Length : Int) (pa_Times : Int) (pa_Turn : Bool) (pa_Stays : Bool) (pa_Ease_Kind : Int) (pa_Ease_Curve_0 : Int) (pa_Ease_Curve_1 : Int) (pa_Ease_Curve_2 : Int) (pa_Ease_Curve_3 : Int) (pa_Ease_N : Int) (pa_Frames : List (Int × Int × Int)) (pnow : Int) (K : Int → Int → Bool → Prop) (x63j32 : Bool) : Prop :=
  ((x63j32) = true → tellsj31 pa_From pa_Length pa_Times pa_Turn pa_Stays pa_Ease_Kind pa_Ease_Curve_0 pa_Ease_Curve_1 pa_Ease_Curve_2 pa_Ease_Curve_3 pa_Ease_N pa_Frames K (IntKind.wrap .i64 (1000 - (IntKind.wrap .i64 (Int.tdiv (IntKind.wrap .i64 ((Int.tmod (IntKind.wrap .i64 (pnow - pa_From)) pa_Length) * 1000)) pa_Length))))) ∧ ((x63j32) = false → tellsj31 pa_From pa_Length pa_Times pa_Turn pa_Stays pa_Ease_Kind pa_Ease_Curve_0 pa_Ease_Curve_1 pa_Ease_Curve_2 pa_Ease_Curve_3 pa_Ease_N pa_Frames K (IntKind.wrap .i64 (Int.tdiv (IntKind.wrap .i64 ((Int.tmod (IntKind.wrap .i64 (pnow - pa_From)) pa_Length) * 1000)) pa_Length)))
def tellsF (pa_From : Int) (pa_Length : Int) (pa_Times : Int) (pa_Turn : Bool) (pa_Stays : Bool) (pa_Ease_Kind : Int) (pa_Ease_Curve_0 : Int) (pa_Ease_Curve_1 : Int) (pa_Ease_Curve_2 : Int) (pa_Ease_Curve_3 : Int) (pa_Ease_N : Int) (pa_Frames : List (Int × Int × Int)) (pnow : Int) (K : Int → Int → Bool → Prop) : Prop :=
  ((decide (pnow < pa_From)) = true → K 0 0 false) ∧ ((decide (pnow < pa_From)) = false → endP (pa_From, pa_Length, pa_Times, pa_Turn, pa_Stays, (pa_Ease_Kind, (pa_Ease_Curve_0, pa_Ease_Curve_1, pa_Ease_Curve_2, pa_Ease_Curve_3), pa_Ease_N), pa_Frames) ∧ ((decide (pnow ≥ (endI (pa_From, pa_Length, pa_Times, pa_Turn, pa_Stays, (pa_Ease_Kind, (pa_Ease_Curve_0, pa_Ease_Curve_1, pa_Ease_Curve_2, pa_Ease_Curve_3), pa_Ease_N), pa_Frames)))) = true → ∃ e3 : Int × Int × Int, (0 : Int) ≤ IntKind.wrap .i64 ((pa_Frames.length : Int) - 1) ∧ pa_Frames[Int.toNat (IntKind.wrap .i64 ((pa_Frames.length : Int) - 1))]? = some e3 ∧ ((pa_Turn) = true → tellsj18 pa_Stays pa_Frames K e3 ((Int.tmod pa_Times 2) == 0)) ∧ ((pa_Turn) = false → tellsj18 pa_Stays pa_Frames K e3 false)) ∧ ((decide (pnow ≥ (endI (pa_From, pa_Length, pa_Times, pa_Turn, pa_Stays, (pa_Ease_Kind, (pa_Ease_Curve_0, pa_Ease_Curve_1, pa_Ease_Curve_2, pa_Ease_Curve_3), pa_Ease_N), pa_Frames)))) = false → pa_Length ≠ 0 ∧ pa_Length ≠ 0 ∧ ((pa_Turn) = true → pa_Length ≠ 0 ∧ tellsj32 pa_From pa_Length pa_Times pa_Turn pa_Stays pa_Ease_Kind pa_Ease_Curve_0 pa_Ease_Curve_1 pa_Ease_Curve_2 pa_Ease_Curve_3 pa_Ease_N pa_Frames pnow K ((Int.tmod (IntKind.wrap .i64 (Int.tdiv (IntKind.wrap .i64 (pnow - pa_From)) pa_Length)) 2) == 1)) ∧ ((pa_Turn) = false → tellsj32 pa_From pa_Length pa_Times pa_Turn pa_Stays pa_Ease_Kind pa_Ease_Curve_0 pa_Ease_Curve_1 pa_Ease_Curve_2 pa_Ease_Curve_3 pa_Ease_N pa_Frames pnow K false)))
set_option maxHeartbeats 4000000 in
set_option maxRecDepth 100000 in
set_option linter.unusedVariables false in
theorem tells_ok {g : Ghost} (pa_From : Int) (pa_Length : Int) (pa_Times : Int) (pa_Turn : Bool) (pa_Stays : Bool) (pa_Ease_Kind : Int) (pa_Ease_Curve_0 : Int) (pa_Ease_Curve_1 : Int) (pa_Ease_Curve_2 : Int) (pa_Ease_Curve_3 : Int) (pa_Ease_N : Int) {apa_Frames : Option Addr} {cpa_Frames : Nat} (pa_Frames : List (Int × Int × Int)) (pnow : Int) (hRpa_Frames : Rep g (.slice (.pair (.int .i64) (.pair (.int .i64) (.int .i64)))) [.slice apa_Frames pa_Frames.length cpa_Frames] pa_Frames) (K : Int → Int → Bool → Prop)
    (hF : tellsF pa_From pa_Length pa_Times pa_Turn pa_Stays pa_Ease_Kind pa_Ease_Curve_0 pa_Ease_Curve_1 pa_Ease_Curve_2 pa_Ease_Curve_3 pa_Ease_N pa_Frames pnow K) : CallsK Try.prog 53 #[.agg #[.int .i64 pa_From, .int .i64 pa_Length, .int .i64 pa_Times, .bool pa_Turn, .bool pa_Stays, .int .i64 pa_Ease_Kind, .int .i64 pa_Ease_Curve_0, .int .i64 pa_Ease_Curve_1, .int .i64 pa_Ease_Curve_2, .int .i64 pa_Ease_Curve_3, .int .i64 pa_Ease_N, .slice apa_Frames pa_Frames.length cpa_Frames], .int .i64 pnow] g (fun v => ∃ r0 : Int, ∃ r1 : Int, ∃ r2 : Bool, v = .tuple #[.agg #[.int .i64 r0, .int .i64 r1], .bool r2] ∧ K r0 r1 r2) := by
  refine CallsK.enter 69 [(0, .agg #[.int .i64 pa_From, .int .i64 pa_Length, .int .i64 pa_Times, .bool pa_Turn, .bool pa_Stays, .int .i64 pa_Ease_Kind, .int .i64 pa_Ease_Curve_0, .int .i64 pa_Ease_Curve_1, .int .i64 pa_Ease_Curve_2, .int .i64 pa_Ease_Curve_3, .int .i64 pa_Ease_N, .slice apa_Frames pa_Frames.length cpa_Frames]), (1, .int .i64 pnow)] Try.func53 rfl (by kernel_rfl) (by kernel_rfl) (by kernel_rfl) fun w0 => ?_
  refine Ok.seq ?_
  refine Ok.region ?_
  refine Ok.op rfl (OpOk.box (v := .agg #[.int .i64 pa_From, .int .i64 pa_Length, .int .i64 pa_Times, .bool pa_Turn, .bool pa_Stays, .int .i64 pa_Ease_Kind, .int .i64 pa_Ease_Curve_0, .int .i64 pa_Ease_Curve_1, .int .i64 pa_Ease_Curve_2, .int .i64 pa_Ease_Curve_3, .int .i64 pa_Ease_N, .slice apa_Frames pa_Frames.length cpa_Frames]) (cs := #[.int .i64 pa_From, .int .i64 pa_Length, .int .i64 pa_Times, .bool pa_Turn, .bool pa_Stays, .int .i64 pa_Ease_Kind, .int .i64 pa_Ease_Curve_0, .int .i64 pa_Ease_Curve_1, .int .i64 pa_Ease_Curve_2, .int .i64 pa_Ease_Curve_3, .int .i64 pa_Ease_N, .slice apa_Frames pa_Frames.length cpa_Frames]) rfl (by kernel_rfl) rfl fun b1 => ?_)
  refine Ok.op rfl (OpOk.alloc (z := .agg #[.int .i64 0, .int .i64 0]) (cs := #[.int .i64 0, .int .i64 0]) (by kernel_rfl) (by kernel_rfl) rfl fun b2 => ?_)
  refine Ok.batch 1 [(1, .int .i64 pnow), (2, .pointer (some ⟨b1, 0, none⟩)), (4, .pointer (some ⟨b2, 0, none⟩))] (by kernel_rfl) ?_
  refine Ok.nil ?_
  refine Ok.thenN ?_
  refine Ok.seq ?_
  refine Ok.seq ?_
  refine Ok.region ?_
  refine Ok.batch 2 [(1, .int .i64 pnow), (2, .pointer (some ⟨b1, 0, none⟩)), (4, .pointer (some ⟨b2, 0, none⟩)), (9, .int .i64 pnow), (10, .pointer (some ⟨b1, 0, none⟩))] (by kernel_rfl) ?_
  refine Ok.op rfl (OpOk.step (v := .int .i64 pa_From) (Yields.load 1 rfl rfl Try.underlying3 rfl (by kernel_rfl)) rfl rfl ?_)
  refine Ok.batch 1 [(1, .int .i64 pnow), (2, .pointer (some ⟨b1, 0, none⟩)), (4, .pointer (some ⟨b2, 0, none⟩)), (12, .bool (decide (pnow < pa_From)))] (by kernel_rfl) ?_
  refine Ok.nil ?_
  refine Ok.thenN ?_
  refine Ok.cond (b := decide (pnow < pa_From)) rfl (fun hc => ?_) (fun hc => ?_)
  · replace hF := hF.1 hc
    refine Ok.seq ?_
    refine Ok.region ?_
    refine Ok.batch 1 [(4, .pointer (some ⟨b2, 0, none⟩)), (13, .agg #[.int .i64 0, .int .i64 0])] (by kernel_rfl) ?_
    refine Ok.op rfl (OpOk.store (k := 2) (v := .agg #[.int .i64 0, .int .i64 0]) (H' := [.blk b2 (.cells #[.int .i64 0, .int .i64 0] 44), .blk b1 (.cells #[.int .i64 pa_From, .int .i64 pa_Length, .int .i64 pa_Times, .bool pa_Turn, .bool pa_Stays, .int .i64 pa_Ease_Kind, .int .i64 pa_Ease_Curve_0, .int .i64 pa_Ease_Curve_1, .int .i64 pa_Ease_Curve_2, .int .i64 pa_Ease_Curve_3, .int .i64 pa_Ease_N, .slice apa_Frames pa_Frames.length cpa_Frames] 40)]) 0 rfl rfl rfl (by kernel_rfl) (by kernel_rfl) (by kernel_rfl) (by kernel_rfl) (by kernel_rfl) ?_)
    refine Ok.batch 1 [(4, .pointer (some ⟨b2, 0, none⟩)), (5, .bool false)] (by kernel_rfl) ?_
    refine Ok.nil ?_
    refine Ok.thenN ?_
    refine Ok.ret ?_
    refine Ok.thenR ?_
    exact Ok.res2 (.inl rfl) rfl (.cellAgg 0 2 #[.int .i64 0, .int .i64 0] rfl rfl Try.underlying44 rfl (by kernel_rfl) (by kernel_rfl) (by kernel_rfl)) (.tmp rfl) ⟨0, 0, false, rfl, hF⟩
  · replace hF := hF.2 hc
    refine Ok.skip ?_
    refine Ok.thenN ?_
    refine Ok.seq ?_
    refine Ok.seq ?_
    refine Ok.region ?_
    refine Ok.batch 1 [(1, .int .i64 pnow), (2, .pointer (some ⟨b1, 0, none⟩)), (4, .pointer (some ⟨b2, 0, none⟩)), (14, .int .i64 pnow)] (by kernel_rfl) ?_
    refine Ok.op rfl (OpOk.step (v := .agg #[.int .i64 pa_From, .int .i64 pa_Length, .int .i64 pa_Times, .bool pa_Turn, .bool pa_Stays, .int .i64 pa_Ease_Kind, .int .i64 pa_Ease_Curve_0, .int .i64 pa_Ease_Curve_1, .int .i64 pa_Ease_Curve_2, .int .i64 pa_Ease_Curve_3, .int .i64 pa_Ease_N, .slice apa_Frames pa_Frames.length cpa_Frames]) (Yields.loadAgg 1 12 #[.int .i64 pa_From, .int .i64 pa_Length, .int .i64 pa_Times, .bool pa_Turn, .bool pa_Stays, .int .i64 pa_Ease_Kind, .int .i64 pa_Ease_Curve_0, .int .i64 pa_Ease_Curve_1, .int .i64 pa_Ease_Curve_2, .int .i64 pa_Ease_Curve_3, .int .i64 pa_Ease_N, .slice apa_Frames pa_Frames.length cpa_Frames] rfl rfl Try.underlying40 rfl (by kernel_rfl) (by kernel_rfl) (by kernel_rfl)) rfl rfl ?_)
    obtain ⟨hp, hF⟩ := hF
    refine Ok.op rfl (OpOk.call (v := .int .i64 (endI (pa_From, pa_Length, pa_Times, pa_Turn, pa_Stays, (pa_Ease_Kind, (pa_Ease_Curve_0, pa_Ease_Curve_1, pa_Ease_Curve_2, pa_Ease_Curve_3), pa_Ease_N), pa_Frames))) (enters (by kernel_rfl) (fun _ => by kernel_rfl)) (aend_c (pa_From, pa_Length, pa_Times, pa_Turn, pa_Stays, (pa_Ease_Kind, (pa_Ease_Curve_0, pa_Ease_Curve_1, pa_Ease_Curve_2, pa_Ease_Curve_3), pa_Ease_N), pa_Frames) hRpa_Frames hp) rfl rfl ?_)
    refine Ok.batch 1 [(1, .int .i64 pnow), (2, .pointer (some ⟨b1, 0, none⟩)), (4, .pointer (some ⟨b2, 0, none⟩)), (17, .bool (decide (pnow ≥ (endI (pa_From, pa_Length, pa_Times, pa_Turn, pa_Stays, (pa_Ease_Kind, (pa_Ease_Curve_0, pa_Ease_Curve_1, pa_Ease_Curve_2, pa_Ease_Curve_3), pa_Ease_N), pa_Frames)))))] (by kernel_rfl) ?_
    refine Ok.nil ?_
    refine Ok.thenN ?_
    refine Ok.cond (b := decide (pnow ≥ (endI (pa_From, pa_Length, pa_Times, pa_Turn, pa_Stays, (pa_Ease_Kind, (pa_Ease_Curve_0, pa_Ease_Curve_1, pa_Ease_Curve_2, pa_Ease_Curve_3), pa_Ease_N), pa_Frames)))) rfl (fun hc => ?_) (fun hc => ?_)
    · replace hF := hF.1 hc
      refine Ok.seq ?_
      refine Ok.region ?_
      refine Ok.batch 1 [(2, .pointer (some ⟨b1, 0, none⟩)), (4, .pointer (some ⟨b2, 0, none⟩)), (18, .pointer (some ⟨b1, 11, none⟩))] (by kernel_rfl) ?_
      refine Ok.op rfl (OpOk.step (v := .slice apa_Frames pa_Frames.length cpa_Frames) (Yields.load 1 rfl rfl Try.underlying38 rfl (by kernel_rfl)) rfl rfl ?_)
      refine Ok.batch 1 [(2, .pointer (some ⟨b1, 0, none⟩)), (4, .pointer (some ⟨b2, 0, none⟩)), (19, .slice apa_Frames pa_Frames.length cpa_Frames), (20, .pointer (some ⟨b1, 11, none⟩))] (by kernel_rfl) ?_
      refine Ok.op rfl (OpOk.step (v := .slice apa_Frames pa_Frames.length cpa_Frames) (Yields.load 1 rfl rfl Try.underlying38 rfl (by kernel_rfl)) rfl rfl ?_)
      refine Ok.batch 2 [(2, .pointer (some ⟨b1, 0, none⟩)), (4, .pointer (some ⟨b2, 0, none⟩)), (19, .slice apa_Frames pa_Frames.length cpa_Frames), (23, .int .i64 (IntKind.wrap .i64 ((pa_Frames.length : Int) - 1)))] (by kernel_rfl) ?_
      obtain ⟨e3, h03, he3, hF⟩ := hF
      refine Ok.op rfl (OpOk.indexRo (e := .pair (.int .i64) (.pair (.int .i64) (.int .i64))) (i := IntKind.wrap .i64 ((pa_Frames.length : Int) - 1)) (el := e3) rfl rfl Try.underlying38 (by kernel_rfl) hRpa_Frames h03 he3 rfl fun q3 o3 cs3 _ hat3 hr3 => ?_)
      obtain ⟨_, _, rfl, ⟨rfl, _⟩, ⟨_, _, rfl, ⟨rfl, _⟩, ⟨rfl, _⟩⟩⟩ := hr3
      replace hat3 : At g q3 o3 [.int .i64 e3.1, .int .i64 e3.2.1, .int .i64 e3.2.2] := hat3
      refine Ok.op rfl (OpOk.step (v := .agg #[.int .i64 e3.1, .int .i64 e3.2.1, .int .i64 e3.2.2]) (Yields.loadAggRo 0 3 #[.int .i64 e3.1, .int .i64 e3.2.1, .int .i64 e3.2.2] hat3 (by kernel_rfl) Try.underlying78 rfl (by kernel_rfl) (by kernel_rfl) (by kernel_rfl)) rfl rfl ?_)
      refine Ok.op rfl (OpOk.alloc (z := .agg #[.int .i64 0, .int .i64 0, .int .i64 0]) (cs := #[.int .i64 0, .int .i64 0, .int .i64 0]) (by kernel_rfl) (by kernel_rfl) rfl fun b4 => ?_)
      refine Ok.op rfl (OpOk.store (k := 3) (v := .agg #[.int .i64 e3.1, .int .i64 e3.2.1, .int .i64 e3.2.2]) (H' := [.blk b4 (.cells #[.int .i64 e3.1, .int .i64 e3.2.1, .int .i64 e3.2.2] 78), .blk b2 (.cells #[.int .i64 0, .int .i64 0] 44), .blk b1 (.cells #[.int .i64 pa_From, .int .i64 pa_Length, .int .i64 pa_Times, .bool pa_Turn, .bool pa_Stays, .int .i64 pa_Ease_Kind, .int .i64 pa_Ease_Curve_0, .int .i64 pa_Ease_Curve_1, .int .i64 pa_Ease_Curve_2, .int .i64 pa_Ease_Curve_3, .int .i64 pa_Ease_N, .slice apa_Frames pa_Frames.length cpa_Frames] 40)]) 0 rfl rfl rfl (by kernel_rfl) (by kernel_rfl) (by kernel_rfl) (by kernel_rfl) (by kernel_rfl) ?_)
      refine Ok.nil ?_
      refine Ok.thenN ?_
      refine Ok.cut (fun a W => ∃ (yb4_0j17 : Int) (yb4_1j17 : Int) (yb4_2j17 : Int), StA 69 [(2, .pointer (some ⟨b1, 0, none⟩)), (4, .pointer (some ⟨b2, 0, none⟩)), (6, .pointer (some ⟨b4, 0, none⟩))] a ∧ StW w0 [.blk b4 (.cells #[.int .i64 yb4_0j17, .int .i64 yb4_1j17, .int .i64 yb4_2j17] 78), .blk b2 (.cells #[.int .i64 0, .int .i64 0] 44), .blk b1 (.cells #[.int .i64 pa_From, .int .i64 pa_Length, .int .i64 pa_Times, .bool pa_Turn, .bool pa_Stays, .int .i64 pa_Ease_Kind, .int .i64 pa_Ease_Curve_0, .int .i64 pa_Ease_Curve_1, .int .i64 pa_Ease_Curve_2, .int .i64 pa_Ease_Curve_3, .int .i64 pa_Ease_N, .slice apa_Frames pa_Frames.length cpa_Frames] 40)] g W ∧ tellsj17 pa_Stays K yb4_1j17 yb4_2j17) ?_ ?_
      ·
        refine Ok.cut (fun a W => ∃ (x33j18 : Bool), StA 69 [(2, .pointer (some ⟨b1, 0, none⟩)), (4, .pointer (some ⟨b2, 0, none⟩)), (6, .pointer (some ⟨b4, 0, none⟩)), (33, .bool x33j18)] a ∧ StW w0 [.blk b4 (.cells #[.int .i64 e3.1, .int .i64 e3.2.1, .int .i64 e3.2.2] 78), .blk b2 (.cells #[.int .i64 0, .int .i64 0] 44), .blk b1 (.cells #[.int .i64 pa_From, .int .i64 pa_Length, .int .i64 pa_Times, .bool pa_Turn, .bool pa_Stays, .int .i64 pa_Ease_Kind, .int .i64 pa_Ease_Curve_0, .int .i64 pa_Ease_Curve_1, .int .i64 pa_Ease_Curve_2, .int .i64 pa_Ease_Curve_3, .int .i64 pa_Ease_N, .slice apa_Frames pa_Frames.length cpa_Frames] 40)] g W ∧ tellsj18 pa_Stays pa_Frames K e3 x33j18) ?_ ?_
        ·
          refine Ok.region ?_
          refine Ok.batch 1 [(2, .pointer (some ⟨b1, 0, none⟩)), (4, .pointer (some ⟨b2, 0, none⟩)), (6, .pointer (some ⟨b4, 0, none⟩)), (26, .pointer (some ⟨b1, 3, none⟩))] (by kernel_rfl) ?_
          refine Ok.op rfl (OpOk.step (v := .bool pa_Turn) (Yields.load 2 rfl rfl Try.underlying4 rfl (by kernel_rfl)) rfl rfl ?_)
          refine Ok.batch 1 [(2, .pointer (some ⟨b1, 0, none⟩)), (4, .pointer (some ⟨b2, 0, none⟩)), (6, .pointer (some ⟨b4, 0, none⟩)), (28, .bool pa_Turn)] (by kernel_rfl) ?_
          refine Ok.boolAt 28 (pa_Turn) rfl (fun hc => ?_) (fun hc => ?_)
          · replace hF := hF.1 hc
            refine Ok.batch 1 [(2, .pointer (some ⟨b1, 0, none⟩)), (4, .pointer (some ⟨b2, 0, none⟩)), (6, .pointer (some ⟨b4, 0, none⟩)), (28, .bool true), (29, .pointer (some ⟨b1, 2, none⟩))] (by kernel_rfl) ?_
            refine Ok.opYes (j := 2) (d := 28) (want := true) (b := true) rfl (by kernel_rfl) (by kernel_rfl) rfl (OpOk.step (v := .int .i64 pa_Times) (Yields.load 2 rfl rfl Try.underlying3 rfl (by kernel_rfl)) rfl rfl ?_)
            refine Ok.batch 3 [(2, .pointer (some ⟨b1, 0, none⟩)), (4, .pointer (some ⟨b2, 0, none⟩)), (6, .pointer (some ⟨b4, 0, none⟩)), (33, .bool ((Int.tmod pa_Times 2) == 0))] (by kernel_rfl) ?_
            refine Ok.nil ?_
            refine Ok.thenN ?_
            exact fun a W hA hW => ⟨((Int.tmod pa_Times 2) == 0), hA.sub (by kernel_rfl), hW, hF⟩
          · replace hF := hF.2 hc
            refine Ok.batch 5 [(2, .pointer (some ⟨b1, 0, none⟩)), (4, .pointer (some ⟨b2, 0, none⟩)), (6, .pointer (some ⟨b4, 0, none⟩)), (33, .bool false)] (by kernel_rfl) ?_
            refine Ok.nil ?_
            refine Ok.thenN ?_
            exact fun a W hA hW => ⟨false, hA.sub (by kernel_rfl), hW, hF⟩
        ·
          rintro a W ⟨x33j18, hA, hW, hF⟩
          refine (?_ : Ok _ _ _ _ _ _) a W hA hW
          clear hA hW
          refine Ok.cond (b := x33j18) rfl (fun hc => ?_) (fun hc => ?_)
          · replace hF := hF.1 hc
            refine Ok.region ?_
            refine Ok.batch 1 [(2, .pointer (some ⟨b1, 0, none⟩)), (4, .pointer (some ⟨b2, 0, none⟩)), (6, .pointer (some ⟨b4, 0, none⟩)), (34, .pointer (some ⟨b1, 11, none⟩))] (by kernel_rfl) ?_
            refine Ok.op rfl (OpOk.step (v := .slice apa_Frames pa_Frames.length cpa_Frames) (Yields.load 2 rfl rfl Try.underlying38 rfl (by kernel_rfl)) rfl rfl ?_)
            obtain ⟨e5, h05, he5, hF⟩ := hF
            refine Ok.op rfl (OpOk.indexRo (e := .pair (.int .i64) (.pair (.int .i64) (.int .i64))) (i := 0) (el := e5) rfl rfl Try.underlying38 (by kernel_rfl) hRpa_Frames h05 he5 rfl fun q5 o5 cs5 _ hat5 hr5 => ?_)
            obtain ⟨_, _, rfl, ⟨rfl, _⟩, ⟨_, _, rfl, ⟨rfl, _⟩, ⟨rfl, _⟩⟩⟩ := hr5
            replace hat5 : At g q5 o5 [.int .i64 e5.1, .int .i64 e5.2.1, .int .i64 e5.2.2] := hat5
            refine Ok.op rfl (OpOk.step (v := .agg #[.int .i64 e5.1, .int .i64 e5.2.1, .int .i64 e5.2.2]) (Yields.loadAggRo 0 3 #[.int .i64 e5.1, .int .i64 e5.2.1, .int .i64 e5.2.2] hat5 (by kernel_rfl) Try.underlying78 rfl (by kernel_rfl) (by kernel_rfl) (by kernel_rfl)) rfl rfl ?_)
            refine Ok.op rfl (OpOk.store (k := 3) (v := .agg #[.int .i64 e5.1, .int .i64 e5.2.1, .int .i64 e5.2.2]) (H' := [.blk b4 (.cells #[.int .i64 e5.1, .int .i64 e5.2.1, .int .i64 e5.2.2] 78), .blk b2 (.cells #[.int .i64 0, .int .i64 0] 44), .blk b1 (.cells #[.int .i64 pa_From, .int .i64 pa_Length, .int .i64 pa_Times, .bool pa_Turn, .bool pa_Stays, .int .i64 pa_Ease_Kind, .int .i64 pa_Ease_Curve_0, .int .i64 pa_Ease_Curve_1, .int .i64 pa_Ease_Curve_2, .int .i64 pa_Ease_Curve_3, .int .i64 pa_Ease_N, .slice apa_Frames pa_Frames.length cpa_Frames] 40)]) 0 rfl rfl rfl (by kernel_rfl) (by kernel_rfl) (by kernel_rfl) (by kernel_rfl) (by kernel_rfl) ?_)
            refine Ok.nil ?_
            refine Ok.thenN ?_
            exact fun a W hA hW => ⟨e5.1, e5.2.1, e5.2.2, hA.sub (by kernel_rfl), hW, hF⟩
          · replace hF := hF.2 hc
            refine Ok.skip ?_
            refine Ok.thenN ?_
            exact fun a W hA hW => ⟨e3.1, e3.2.1, e3.2.2, hA.sub (by kernel_rfl), hW, hF⟩
      ·
        rintro a W ⟨yb4_0j17, yb4_1j17, yb4_2j17, hA, hW, hF⟩
        refine (?_ : Ok _ _ _ _ _ _) a W hA hW
        clear hA hW
        refine Ok.seq ?_
        refine Ok.mix [.blk b4 (.cells #[.int .i64 yb4_0j17, .int .i64 yb4_1j17, .int .i64 yb4_2j17] 78), .blk b1 (.cells #[.int .i64 pa_From, .int .i64 pa_Length, .int .i64 pa_Times, .bool pa_Turn, .bool pa_Stays, .int .i64 pa_Ease_Kind, .int .i64 pa_Ease_Curve_0, .int .i64 pa_Ease_Curve_1, .int .i64 pa_Ease_Curve_2, .int .i64 pa_Ease_Curve_3, .int .i64 pa_Ease_N, .slice apa_Frames pa_Frames.length cpa_Frames] 40)] [(0, true), (1, true), (2, true), (3, true), (4, false), (5, true)] (by kernel_rfl) (by kernel_rfl) (.cons_cons _ (.cons _ (.cons_cons _ .slnil))) ?_
        refine OkM.batch 1 [(2, .pointer (some ⟨b1, 0, none⟩)), (4, .pointer (some ⟨b2, 0, none⟩)), (38, .pointer (some ⟨b4, 1, none⟩))] (by kernel_rfl) ?_
        refine OkM.head rfl rfl (OpQ.step (v := .agg #[.int .i64 yb4_1j17, .int .i64 yb4_2j17]) (Yields.loadAgg 0 2 #[.int .i64 yb4_1j17, .int .i64 yb4_2j17] rfl rfl Try.underlying44 rfl (by kernel_rfl) (by kernel_rfl) (by kernel_rfl)) rfl rfl ?_)
        refine OkM.batch 1 [(4, .pointer (some ⟨b2, 0, none⟩)), (39, .agg #[.int .i64 yb4_1j17, .int .i64 yb4_2j17]), (40, .pointer (some ⟨b1, 4, none⟩))] (by kernel_rfl) ?_
        refine OkM.head rfl rfl (OpQ.step (v := .bool pa_Stays) (Yields.load 1 rfl rfl Try.underlying4 rfl (by kernel_rfl)) rfl rfl ?_)
        refine OkM.tail rfl rfl (OpOk.store (k := 2) (v := .agg #[.int .i64 yb4_1j17, .int .i64 yb4_2j17]) (H' := [.blk b4 (.cells #[.int .i64 yb4_0j17, .int .i64 yb4_1j17, .int .i64 yb4_2j17] 78), .blk b2 (.cells #[.int .i64 yb4_1j17, .int .i64 yb4_2j17] 44), .blk b1 (.cells #[.int .i64 pa_From, .int .i64 pa_Length, .int .i64 pa_Times, .bool pa_Turn, .bool pa_Stays, .int .i64 pa_Ease_Kind, .int .i64 pa_Ease_Curve_0, .int .i64 pa_Ease_Curve_1, .int .i64 pa_Ease_Curve_2, .int .i64 pa_Ease_Curve_3, .int .i64 pa_Ease_N, .slice apa_Frames pa_Frames.length cpa_Frames] 40)]) 1 rfl rfl rfl (by kernel_rfl) (by kernel_rfl) (by kernel_rfl) (by kernel_rfl) (by kernel_rfl) ?_)
        refine OkM.leaf (.cons_cons _ (.cons _ (.cons_cons _ .slnil))) ?_
        refine OkM.batch 1 [(4, .pointer (some ⟨b2, 0, none⟩)), (5, .bool pa_Stays)] (by kernel_rfl) ?_
        refine OkM.nil ?_
        refine Ok.thenN ?_
        refine Ok.ret ?_
        refine Ok.thenR ?_
        exact Ok.res2 (.inl rfl) rfl (.cellAgg 1 2 #[.int .i64 yb4_1j17, .int .i64 yb4_2j17] rfl rfl Try.underlying44 rfl (by kernel_rfl) (by kernel_rfl) (by kernel_rfl)) (.tmp rfl) ⟨yb4_1j17, yb4_2j17, pa_Stays, rfl, hF⟩
    · replace hF := hF.2 hc
      refine Ok.skip ?_
      refine Ok.thenN ?_
      refine Ok.seq ?_
      refine Ok.region ?_
      refine Ok.batch 2 [(2, .pointer (some ⟨b1, 0, none⟩)), (4, .pointer (some ⟨b2, 0, none⟩)), (42, .int .i64 pnow), (43, .pointer (some ⟨b1, 0, none⟩))] (by kernel_rfl) ?_
      refine Ok.op rfl (OpOk.step (v := .int .i64 pa_From) (Yields.load 1 rfl rfl Try.underlying3 rfl (by kernel_rfl)) rfl rfl ?_)
      refine Ok.batch 2 [(2, .pointer (some ⟨b1, 0, none⟩)), (4, .pointer (some ⟨b2, 0, none⟩)), (7, .int .i64 (IntKind.wrap .i64 (pnow - pa_From)))] (by kernel_rfl) ?_
      refine Ok.nil ?_
      refine Ok.thenN ?_
      refine Ok.seq ?_
      refine Ok.quiet' (by kernel_rfl) (by kernel_rfl) ?_
      refine OkQ.batch 2 [(2, .pointer (some ⟨b1, 0, none⟩)), (4, .pointer (some ⟨b2, 0, none⟩)), (7, .int .i64 (IntKind.wrap .i64 (pnow - pa_From))), (46, .int .i64 (IntKind.wrap .i64 (pnow - pa_From))), (47, .pointer (some ⟨b1, 1, none⟩))] (by kernel_rfl) ?_
      refine OkQ.op rfl (OpQ.step (v := .int .i64 pa_Length) (Yields.load 1 rfl rfl Try.underlying3 rfl (by kernel_rfl)) rfl rfl ?_)
      obtain ⟨hv, hF⟩ := hF
      refine OkQ.op rfl (OpQ.step (v := .int .i64 (Int.tmod (IntKind.wrap .i64 (pnow - pa_From)) pa_Length)) (Yields.rem rfl rfl hv) rfl rfl ?_)
      refine OkQ.batch 2 [(2, .pointer (some ⟨b1, 0, none⟩)), (4, .pointer (some ⟨b2, 0, none⟩)), (7, .int .i64 (IntKind.wrap .i64 (pnow - pa_From))), (50, .int .i64 (IntKind.wrap .i64 ((Int.tmod (IntKind.wrap .i64 (pnow - pa_From)) pa_Length) * 1000))), (51, .pointer (some ⟨b1, 1, none⟩))] (by kernel_rfl) ?_
      refine OkQ.op rfl (OpQ.step (v := .int .i64 pa_Length) (Yields.load 1 rfl rfl Try.underlying3 rfl (by kernel_rfl)) rfl rfl ?_)
      obtain ⟨hv, hF⟩ := hF
      refine OkQ.op rfl (OpQ.step (v := .int .i64 (IntKind.wrap .i64 (Int.tdiv (IntKind.wrap .i64 ((Int.tmod (IntKind.wrap .i64 (pnow - pa_From)) pa_Length) * 1000)) pa_Length))) (Yields.quo rfl rfl hv) rfl rfl ?_)
      refine OkQ.batch 1 [(2, .pointer (some ⟨b1, 0, none⟩)), (4, .pointer (some ⟨b2, 0, none⟩)), (7, .int .i64 (IntKind.wrap .i64 (pnow - pa_From))), (8, .int .i64 (IntKind.wrap .i64 (Int.tdiv (IntKind.wrap .i64 ((Int.tmod (IntKind.wrap .i64 (pnow - pa_From)) pa_Length) * 1000)) pa_Length)))] (by kernel_rfl) ?_
      refine OkQ.nil ?_
      refine Ok.thenN ?_
      refine Ok.cut (fun a W => ∃ (x8j31 : Int), StA 69 [(2, .pointer (some ⟨b1, 0, none⟩)), (4, .pointer (some ⟨b2, 0, none⟩)), (8, .int .i64 x8j31)] a ∧ StW w0 [.blk b2 (.cells #[.int .i64 0, .int .i64 0] 44), .blk b1 (.cells #[.int .i64 pa_From, .int .i64 pa_Length, .int .i64 pa_Times, .bool pa_Turn, .bool pa_Stays, .int .i64 pa_Ease_Kind, .int .i64 pa_Ease_Curve_0, .int .i64 pa_Ease_Curve_1, .int .i64 pa_Ease_Curve_2, .int .i64 pa_Ease_Curve_3, .int .i64 pa_Ease_N, .slice apa_Frames pa_Frames.length cpa_Frames] 40)] g W ∧ tellsj31 pa_From pa_Length pa_Times pa_Turn pa_Stays pa_Ease_Kind pa_Ease_Curve_0 pa_Ease_Curve_1 pa_Ease_Curve_2 pa_Ease_Curve_3 pa_Ease_N pa_Frames K x8j31) ?_ ?_
      ·
        refine Ok.cut (fun a W => ∃ (x63j32 : Bool), StA 69 [(2, .pointer (some ⟨b1, 0, none⟩)), (4, .pointer (some ⟨b2, 0, none⟩)), (8, .int .i64 (IntKind.wrap .i64 (Int.tdiv (IntKind.wrap .i64 ((Int.tmod (IntKind.wrap .i64 (pnow - pa_From)) pa_Length) * 1000)) pa_Length))), (63, .bool x63j32)] a ∧ StW w0 [.blk b2 (.cells #[.int .i64 0, .int .i64 0] 44), .blk b1 (.cells #[.int .i64 pa_From, .int .i64 pa_Length, .int .i64 pa_Times, .bool pa_Turn, .bool pa_Stays, .int .i64 pa_Ease_Kind, .int .i64 pa_Ease_Curve_0, .int .i64 pa_Ease_Curve_1, .int .i64 pa_Ease_Curve_2, .int .i64 pa_Ease_Curve_3, .int .i64 pa_Ease_N, .slice apa_Frames pa_Frames.length cpa_Frames] 40)] g W ∧ tellsj32 pa_From pa_Length pa_Times pa_Turn pa_Stays pa_Ease_Kind pa_Ease_Curve_0 pa_Ease_Curve_1 pa_Ease_Curve_2 pa_Ease_Curve_3 pa_Ease_N pa_Frames pnow K x63j32) ?_ ?_
        ·
          refine Ok.region ?_
          refine Ok.batch 1 [(2, .pointer (some ⟨b1, 0, none⟩)), (4, .pointer (some ⟨b2, 0, none⟩)), (7, .int .i64 (IntKind.wrap .i64 (pnow - pa_From))), (8, .int .i64 (IntKind.wrap .i64 (Int.tdiv (IntKind.wrap .i64 ((Int.tmod (IntKind.wrap .i64 (pnow - pa_From)) pa_Length) * 1000)) pa_Length))), (54, .pointer (some ⟨b1, 3, none⟩))] (by kernel_rfl) ?_
          refine Ok.op rfl (OpOk.step (v := .bool pa_Turn) (Yields.load 1 rfl rfl Try.underlying4 rfl (by kernel_rfl)) rfl rfl ?_)
          refine Ok.batch 1 [(2, .pointer (some ⟨b1, 0, none⟩)), (4, .pointer (some ⟨b2, 0, none⟩)), (7, .int .i64 (IntKind.wrap .i64 (pnow - pa_From))), (8, .int .i64 (IntKind.wrap .i64 (Int.tdiv (IntKind.wrap .i64 ((Int.tmod (IntKind.wrap .i64 (pnow - pa_From)) pa_Length) * 1000)) pa_Length))), (56, .bool pa_Turn)] (by kernel_rfl) ?_
          refine Ok.boolAt 56 (pa_Turn) rfl (fun hc => ?_) (fun hc => ?_)
          · replace hF := hF.1 hc
            refine Ok.batch 2 [(2, .pointer (some ⟨b1, 0, none⟩)), (4, .pointer (some ⟨b2, 0, none⟩)), (8, .int .i64 (IntKind.wrap .i64 (Int.tdiv (IntKind.wrap .i64 ((Int.tmod (IntKind.wrap .i64 (pnow - pa_From)) pa_Length) * 1000)) pa_Length))), (56, .bool true), (57, .int .i64 (IntKind.wrap .i64 (pnow - pa_From))), (58, .pointer (some ⟨b1, 1, none⟩))] (by kernel_rfl) ?_
            refine Ok.opYes (j := 2) (d := 56) (want := true) (b := true) rfl (by kernel_rfl) (by kernel_rfl) rfl (OpOk.step (v := .int .i64 pa_Length) (Yields.load 1 rfl rfl Try.underlying3 rfl (by kernel_rfl)) rfl rfl ?_)
            obtain ⟨hv, hF⟩ := hF
            refine Ok.opYes (j := 2) (d := 56) (want := true) (b := true) rfl (by kernel_rfl) (by kernel_rfl) rfl (OpOk.step (v := .int .i64 (IntKind.wrap .i64 (Int.tdiv (IntKind.wrap .i64 (pnow - pa_From)) pa_Length))) (Yields.quo rfl rfl hv) rfl rfl ?_)
            refine Ok.batch 3 [(2, .pointer (some ⟨b1, 0, none⟩)), (4, .pointer (some ⟨b2, 0, none⟩)), (8, .int .i64 (IntKind.wrap .i64 (Int.tdiv (IntKind.wrap .i64 ((Int.tmod (IntKind.wrap .i64 (pnow - pa_From)) pa_Length) * 1000)) pa_Length))), (63, .bool ((Int.tmod (IntKind.wrap .i64 (Int.tdiv (IntKind.wrap .i64 (pnow - pa_From)) pa_Length)) 2) == 1))] (by kernel_rfl) ?_
            refine Ok.nil ?_
            refine Ok.thenN ?_
            exact fun a W hA hW => ⟨((Int.tmod (IntKind.wrap .i64 (Int.tdiv (IntKind.wrap .i64 (pnow - pa_From)) pa_Length)) 2) == 1), hA.sub (by kernel_rfl), hW, hF⟩
          · replace hF := hF.2 hc
            refine Ok.batch 7 [(2, .pointer (some ⟨b1, 0, none⟩)), (4, .pointer (some ⟨b2, 0, none⟩)), (8, .int .i64 (IntKind.wrap .i64 (Int.tdiv (IntKind.wrap .i64 ((Int.tmod (IntKind.wrap .i64 (pnow - pa_From)) pa_Length) * 1000)) pa_Length))), (63, .bool false)] (by kernel_rfl) ?_
            refine Ok.nil ?_
            refine Ok.thenN ?_
            exact fun a W hA hW => ⟨false, hA.sub (by kernel_rfl), hW, hF⟩
        ·
          rintro a W ⟨x63j32, hA, hW, hF⟩
          refine (?_ : Ok _ _ _ _ _ _) a W hA hW
          clear hA hW
          refine Ok.cond (b := x63j32) rfl (fun hc => ?_) (fun hc => ?_)
          · replace hF := hF.1 hc
            refine Ok.region ?_
            refine Ok.batch 3 [(2, .pointer (some ⟨b1, 0, none⟩)), (4, .pointer (some ⟨b2, 0, none⟩)), (8, .int .i64 (IntKind.wrap .i64 (1000 - (IntKind.wrap .i64 (Int.tdiv (IntKind.wrap .i64 ((Int.tmod (IntKind.wrap .i64 (pnow - pa_From)) pa_Length) * 1000)) pa_Length)))))] (by kernel_rfl) ?_
            refine Ok.nil ?_
            refine Ok.thenN ?_
            exact fun a W hA hW => ⟨(IntKind.wrap .i64 (1000 - (IntKind.wrap .i64 (Int.tdiv (IntKind.wrap .i64 ((Int.tmod (IntKind.wrap .i64 (pnow - pa_From)) pa_Length) * 1000)) pa_Length)))), hA.sub (by kernel_rfl), hW, hF⟩
          · replace hF := hF.2 hc
            refine Ok.skip ?_
            refine Ok.thenN ?_
            exact fun a W hA hW => ⟨(IntKind.wrap .i64 (Int.tdiv (IntKind.wrap .i64 ((Int.tmod (IntKind.wrap .i64 (pnow - pa_From)) pa_Length) * 1000)) pa_Length)), hA.sub (by kernel_rfl), hW, hF⟩
      ·
        rintro a W ⟨x8j31, hA, hW, hF⟩
        refine (?_ : Ok _ _ _ _ _ _) a W hA hW
        clear hA hW
        refine Ok.seq ?_
        refine Ok.region ?_
        refine Ok.op rfl (OpOk.step (v := .agg #[.int .i64 pa_From, .int .i64 pa_Length, .int .i64 pa_Times, .bool pa_Turn, .bool pa_Stays, .int .i64 pa_Ease_Kind, .int .i64 pa_Ease_Curve_0, .int .i64 pa_Ease_Curve_1, .int .i64 pa_Ease_Curve_2, .int .i64 pa_Ease_Curve_3, .int .i64 pa_Ease_N, .slice apa_Frames pa_Frames.length cpa_Frames]) (Yields.loadAgg 1 12 #[.int .i64 pa_From, .int .i64 pa_Length, .int .i64 pa_Times, .bool pa_Turn, .bool pa_Stays, .int .i64 pa_Ease_Kind, .int .i64 pa_Ease_Curve_0, .int .i64 pa_Ease_Curve_1, .int .i64 pa_Ease_Curve_2, .int .i64 pa_Ease_Curve_3, .int .i64 pa_Ease_N, .slice apa_Frames pa_Frames.length cpa_Frames] rfl rfl Try.underlying40 rfl (by kernel_rfl) (by kernel_rfl) (by kernel_rfl)) rfl rfl ?_)
        refine Ok.batch 1 [(4, .pointer (some ⟨b2, 0, none⟩)), (66, .agg #[.int .i64 pa_From, .int .i64 pa_Length, .int .i64 pa_Times, .bool pa_Turn, .bool pa_Stays, .int .i64 pa_Ease_Kind, .int .i64 pa_Ease_Curve_0, .int .i64 pa_Ease_Curve_1, .int .i64 pa_Ease_Curve_2, .int .i64 pa_Ease_Curve_3, .int .i64 pa_Ease_N, .slice apa_Frames pa_Frames.length cpa_Frames]), (67, .int .i64 x8j31)] (by kernel_rfl) ?_
        obtain ⟨hp, hF⟩ := hF
        refine Ok.op rfl (OpOk.call (v := .agg #[.int .i64 ((fval (pa_From, pa_Length, pa_Times, pa_Turn, pa_Stays, (pa_Ease_Kind, (pa_Ease_Curve_0, pa_Ease_Curve_1, pa_Ease_Curve_2, pa_Ease_Curve_3), pa_Ease_N), pa_Frames) x8j31).1), .int .i64 ((fval (pa_From, pa_Length, pa_Times, pa_Turn, pa_Stays, (pa_Ease_Kind, (pa_Ease_Curve_0, pa_Ease_Curve_1, pa_Ease_Curve_2, pa_Ease_Curve_3), pa_Ease_N), pa_Frames) x8j31).2)]) (enters (by kernel_rfl) (fun _ => by kernel_rfl)) (frms_c (pa_From, pa_Length, pa_Times, pa_Turn, pa_Stays, (pa_Ease_Kind, (pa_Ease_Curve_0, pa_Ease_Curve_1, pa_Ease_Curve_2, pa_Ease_Curve_3), pa_Ease_N), pa_Frames) x8j31 hRpa_Frames hp) rfl rfl ?_)
        refine Ok.op rfl (OpOk.store (k := 2) (v := .agg #[.int .i64 ((fval (pa_From, pa_Length, pa_Times, pa_Turn, pa_Stays, (pa_Ease_Kind, (pa_Ease_Curve_0, pa_Ease_Curve_1, pa_Ease_Curve_2, pa_Ease_Curve_3), pa_Ease_N), pa_Frames) x8j31).1), .int .i64 ((fval (pa_From, pa_Length, pa_Times, pa_Turn, pa_Stays, (pa_Ease_Kind, (pa_Ease_Curve_0, pa_Ease_Curve_1, pa_Ease_Curve_2, pa_Ease_Curve_3), pa_Ease_N), pa_Frames) x8j31).2)]) (H' := [.blk b2 (.cells #[.int .i64 ((fval (pa_From, pa_Length, pa_Times, pa_Turn, pa_Stays, (pa_Ease_Kind, (pa_Ease_Curve_0, pa_Ease_Curve_1, pa_Ease_Curve_2, pa_Ease_Curve_3), pa_Ease_N), pa_Frames) x8j31).1), .int .i64 ((fval (pa_From, pa_Length, pa_Times, pa_Turn, pa_Stays, (pa_Ease_Kind, (pa_Ease_Curve_0, pa_Ease_Curve_1, pa_Ease_Curve_2, pa_Ease_Curve_3), pa_Ease_N), pa_Frames) x8j31).2)] 44), .blk b1 (.cells #[.int .i64 pa_From, .int .i64 pa_Length, .int .i64 pa_Times, .bool pa_Turn, .bool pa_Stays, .int .i64 pa_Ease_Kind, .int .i64 pa_Ease_Curve_0, .int .i64 pa_Ease_Curve_1, .int .i64 pa_Ease_Curve_2, .int .i64 pa_Ease_Curve_3, .int .i64 pa_Ease_N, .slice apa_Frames pa_Frames.length cpa_Frames] 40)]) 0 rfl rfl rfl (by kernel_rfl) (by kernel_rfl) (by kernel_rfl) (by kernel_rfl) (by kernel_rfl) ?_)
        refine Ok.batch 1 [(4, .pointer (some ⟨b2, 0, none⟩)), (5, .bool true)] (by kernel_rfl) ?_
        refine Ok.nil ?_
        refine Ok.thenN ?_
        refine Ok.ret ?_
        exact Ok.res2 (.inl rfl) rfl (.cellAgg 0 2 #[.int .i64 ((fval (pa_From, pa_Length, pa_Times, pa_Turn, pa_Stays, (pa_Ease_Kind, (pa_Ease_Curve_0, pa_Ease_Curve_1, pa_Ease_Curve_2, pa_Ease_Curve_3), pa_Ease_N), pa_Frames) x8j31).1), .int .i64 ((fval (pa_From, pa_Length, pa_Times, pa_Turn, pa_Stays, (pa_Ease_Kind, (pa_Ease_Curve_0, pa_Ease_Curve_1, pa_Ease_Curve_2, pa_Ease_Curve_3), pa_Ease_N), pa_Frames) x8j31).2)] rfl rfl Try.underlying44 rfl (by kernel_rfl) (by kernel_rfl) (by kernel_rfl)) (.tmp rfl) ⟨(fval (pa_From, pa_Length, pa_Times, pa_Turn, pa_Stays, (pa_Ease_Kind, (pa_Ease_Curve_0, pa_Ease_Curve_1, pa_Ease_Curve_2, pa_Ease_Curve_3), pa_Ease_N), pa_Frames) x8j31).1, (fval (pa_From, pa_Length, pa_Times, pa_Turn, pa_Stays, (pa_Ease_Kind, (pa_Ease_Curve_0, pa_Ease_Curve_1, pa_Ease_Curve_2, pa_Ease_Curve_3), pa_Ease_N), pa_Frames) x8j31).2, true, rfl, hF⟩
theorem tells_31 {a : A} {now : Int} {K : Int → Int → Bool → Prop} {r : Int} (hp : faultI a = 0) (hle : a.1 ≤ now) (hr : r = placeI a now) (hK : K (fval a (placeI a now)).1 (fval a (placeI a now)).2 true) :
    tellsj31 a.1 a.2.1 a.2.2.1 a.2.2.2.1 a.2.2.2.2.1 a.2.2.2.2.2.1.1 a.2.2.2.2.2.1.2.1.1 a.2.2.2.2.2.1.2.1.2.1 a.2.2.2.2.2.1.2.1.2.2.1 a.2.2.2.2.2.1.2.1.2.2.2 a.2.2.2.2.2.1.2.2 a.2.2.2.2.2.2 K r := by
  subst hr
  unfold tellsj31
  exact ⟨place_bd hp hle, hK⟩
theorem tells_32 {a : A} {now : Int} {K : Int → Int → Bool → Prop} {b : Bool} (hp : faultI a = 0) (hle : a.1 ≤ now) (hn1 : now ≤ 200000000000) (hb : b = true ↔ (a.2.2.2.1 = true ∧ (now - a.1) / a.2.1 % 2 = 1)) (hK : K (fval a (placeI a now)).1 (fval a (placeI a now)).2 true) :
    tellsj32 a.1 a.2.1 a.2.2.1 a.2.2.2.1 a.2.2.2.2.1 a.2.2.2.2.2.1.1 a.2.2.2.2.2.1.2.1.1 a.2.2.2.2.2.1.2.1.2.1 a.2.2.2.2.2.1.2.1.2.2.1 a.2.2.2.2.2.1.2.1.2.2.2 a.2.2.2.2.2.1.2.2 a.2.2.2.2.2.2 now K b := by
  obtain ⟨hF, hL, -⟩ := right_of hp
  have g0 := Int.emod_nonneg (now - a.1) (show a.2.1 ≠ 0 by omega)
  have g1 := Int.emod_lt_of_pos (now - a.1) (show 0 < a.2.1 by omega)
  obtain ⟨p0, p1, p2⟩ := part_eq g0 g1 hL.2
  unfold tellsj32
  rw [i64_in (now - a.1) (by omega), Int.tmod_eq_emod_of_nonneg (by omega), p0]
  refine ⟨fun h => tells_31 hp hle ?_ hK, fun h => tells_31 hp hle ?_ hK⟩
  · unfold placeI; rw [if_pos (hb.1 h), i64_in _ (by omega)]
  · unfold placeI; rw [if_neg (fun h' => by rw [hb.2 h'] at h; cases h)]
theorem tells_F (a : A) (now : Int) (hp : tellP a now) : tellsF a.1 a.2.1 a.2.2.1 a.2.2.2.1 a.2.2.2.2.1 a.2.2.2.2.2.1.1 a.2.2.2.2.2.1.2.1.1 a.2.2.2.2.2.1.2.1.2.1 a.2.2.2.2.2.1.2.1.2.2.1 a.2.2.2.2.2.1.2.1.2.2.2 a.2.2.2.2.2.1.2.2 a.2.2.2.2.2.2 now (fun x y b => x = (tellR a now).1.1 ∧ y = (tellR a now).1.2 ∧ b = (tellR a now).2) := by
  obtain ⟨hp, hn0, hn1⟩ := hp
  obtain ⟨hF, hL, hT, -, hl2, hl, -⟩ := right_of hp
  unfold tellsF
  refine ⟨fun h => ?_, fun h => ⟨hp, fun h2 => ?_, fun h2 => ?_⟩⟩
  · rw [(tellR_lt (of_decide_eq_true h)).1]; exact ⟨rfl, rfl, rfl⟩
  · have h := of_decide_eq_false h
    rw [(tellR_end (by omega) (of_decide_eq_true h2)).1]
    obtain ⟨x, hx⟩ := get_some (l := a.2.2.2.2.2.2) (i := 0) (by omega)
    obtain ⟨y, hy⟩ := get_some (l := a.2.2.2.2.2.2) (i := a.2.2.2.2.2.2.length - 1) (by omega)
    have key : ∀ b : Bool, (b = true ↔ (a.2.2.2.1 = true ∧ a.2.2.1 % 2 = 0)) → tellsj18 a.2.2.2.2.1 a.2.2.2.2.2.2 (fun x y b => x = (endV a, a.2.2.2.2.1).1.1 ∧ y = (endV a, a.2.2.2.2.1).1.2 ∧ b = (endV a, a.2.2.2.2.1).2) y b := fun b hb => by
      unfold tellsj18 tellsj17 endV
      refine ⟨fun h => ⟨x, by omega, hx, ?_⟩, fun h => ?_⟩
      · rw [if_pos (hb.1 h), head_of hx]; exact ⟨rfl, rfl, rfl⟩
      · rw [if_neg (fun h' => by rw [hb.2 h'] at h; cases h), last_of hy]; exact ⟨rfl, rfl, rfl⟩
    refine ⟨y, by rw [i64_in _ (by omega)]; omega, by rw [i64_in _ (by omega), show ((a.2.2.2.2.2.2.length : Int) - 1).toNat = a.2.2.2.2.2.2.length - 1 by omega]; exact hy, fun h4 => key _ ?_, fun h4 => key _ ?_⟩
    · rw [h4, Int.tmod_eq_emod_of_nonneg (by omega)]; simp
    · rw [h4]; simp
  · have h := of_decide_eq_false h
    have h2 : ¬ now ≥ endI a := of_decide_eq_false h2
    rw [(tellR_mid (a := a) (now := now) (by omega) (by omega)).1]
    refine ⟨by omega, by omega, fun h4 => ⟨by omega, tells_32 (K := fun x y b => x = (fval a (placeI a now), true).1.1 ∧ y = (fval a (placeI a now), true).1.2 ∧ b = (fval a (placeI a now), true).2) hp (by omega) hn1 ?_ ⟨rfl, rfl, rfl⟩⟩,
      fun h4 => tells_32 (K := fun x y b => x = (fval a (placeI a now), true).1.1 ∧ y = (fval a (placeI a now), true).1.2 ∧ b = (fval a (placeI a now), true).2) hp (by omega) hn1 ?_ ⟨rfl, rfl, rfl⟩⟩
    · have g := Int.ediv_nonneg (show 0 ≤ now - a.1 by omega) (show 0 ≤ a.2.1 by omega)
      have g2 : (now - a.1) / a.2.1 ≤ now - a.1 := Int.ediv_le_self _ (by omega)
      rw [i64_in (now - a.1) (by omega), Int.tdiv_eq_ediv_of_nonneg (by omega), i64_in _ (by omega), Int.tmod_eq_emod_of_nonneg g, h4]; simp
    · rw [h4]; simp
set_option linter.unusedVariables false in
theorem tells_c {g : Ghost} (xa : Int × Int × Int × Bool × Bool × (Int × (Int × Int × Int × Int) × Int) × List (Int × Int × Int)) {a0 : Option Addr} {c0 : Nat} (xnow : Int) (hR0 : Rep g (.slice (.pair (.int .i64) (.pair (.int .i64) (.int .i64)))) [.slice a0 xa.2.2.2.2.2.2.length c0] xa.2.2.2.2.2.2) (hp : tellP xa xnow) : CallsG Try.prog 53 #[.agg #[.int .i64 xa.1, .int .i64 xa.2.1, .int .i64 xa.2.2.1, .bool xa.2.2.2.1, .bool xa.2.2.2.2.1, .int .i64 xa.2.2.2.2.2.1.1, .int .i64 xa.2.2.2.2.2.1.2.1.1, .int .i64 xa.2.2.2.2.2.1.2.1.2.1, .int .i64 xa.2.2.2.2.2.1.2.1.2.2.1, .int .i64 xa.2.2.2.2.2.1.2.1.2.2.2, .int .i64 xa.2.2.2.2.2.1.2.2, .slice a0 xa.2.2.2.2.2.2.length c0], .int .i64 xnow] g (.tuple #[.agg #[.int .i64 (((tellR xa xnow).1).1), .int .i64 (((tellR xa xnow).1).2)], .bool ((tellR xa xnow).2)]) :=
  (tells_ok xa.1 xa.2.1 xa.2.2.1 xa.2.2.2.1 xa.2.2.2.2.1 xa.2.2.2.2.2.1.1 xa.2.2.2.2.2.1.2.1.1 xa.2.2.2.2.2.1.2.1.2.1 xa.2.2.2.2.2.1.2.1.2.2.1 xa.2.2.2.2.2.1.2.1.2.2.2 xa.2.2.2.2.2.1.2.2 xa.2.2.2.2.2.2 xnow hR0 _ (tells_F xa xnow hp)).gives (by rintro _ ⟨_, _, _, rfl, rfl, rfl, rfl⟩; rfl)
def rightl15b (pl : List (Int × Int × Int × Bool × Bool × (Int × (Int × Int × Int × Int) × Int) × List (Int × Int × Int))) (pnow : Int) (K : Int → Prop) (x13l15 : Int) (C15 : Int → Prop) : Prop :=
  ((decide (x13l15 < (pl.length : Int))) = true → ∃ e1 : Int × Int × Int × Bool × Bool × (Int × (Int × Int × Int × Int) × Int) × List (Int × Int × Int), (0 : Int) ≤ x13l15 ∧ pl[Int.toNat x13l15]? = some e1 ∧ ((((faultI e1) != 0)) = true → K (faultI e1)) ∧ ((((faultI e1) != 0)) = false → C15 (IntKind.wrap .i64 (x13l15 + 1)))) ∧ ((decide (x13l15 < (pl.length : Int))) = false → ((!(inB pnow 0 200000000000)) = true → K 1) ∧ ((!(inB pnow 0 200000000000)) = false → K 0))
def rightl15 (pl : List (Int × Int × Int × Bool × Bool × (Int × (Int × Int × Int × Int) × Int) × List (Int × Int × Int))) (pnow : Int) (K : Int → Prop) : Nat → Int → Prop
  | 0, _ => False
  | k + 1, x13l15 => rightl15b pl pnow K x13l15 (rightl15 pl pnow K k)
def rightF (pl : List (Int × Int × Int × Bool × Bool × (Int × (Int × Int × Int × Int) × Int) × List (Int × Int × Int))) (pnow : Int) (K : Int → Prop) : Prop :=
  ((decide ((pl.length : Int) > 10)) = true → K 2) ∧ ((decide ((pl.length : Int) > 10)) = false → ∃ k, rightl15 pl pnow K k 0)
set_option maxHeartbeats 4000000 in
set_option maxRecDepth 100000 in
set_option linter.unusedVariables false in
theorem right_ok {g : Ghost} {apl : Option Addr} {cpl : Nat} (pl : List (Int × Int × Int × Bool × Bool × (Int × (Int × Int × Int × Int) × Int) × List (Int × Int × Int))) (pnow : Int) (hRpl : Rep g (.slice (.pair (.int .i64) (.pair (.int .i64) (.pair (.int .i64) (.pair (.bool) (.pair (.bool) (.pair (.pair (.int .i64) (.pair (.pair (.int .i64) (.pair (.int .i64) (.pair (.int .i64) (.int .i64)))) (.int .i64))) (.slice (.pair (.int .i64) (.pair (.int .i64) (.int .i64))))))))))) [.slice apl pl.length cpl] pl) (K : Int → Prop)
    (hF : rightF pl pnow K) : CallsK Try.prog 52 #[.slice apl pl.length cpl, .int .i64 pnow] g (fun v => ∃ r0 : Int, v = .int .i64 r0 ∧ K r0) := by
  refine CallsK.enter 26 [(0, .slice apl pl.length cpl), (1, .int .i64 pnow)] Try.func52 rfl (by kernel_rfl) (by kernel_rfl) (by kernel_rfl) fun w0 => ?_
  refine Ok.seq ?_
  refine Ok.region ?_
  refine Ok.batch 1 [(0, .slice apl pl.length cpl), (1, .int .i64 pnow)] (by kernel_rfl) ?_
  refine Ok.nil ?_
  refine Ok.thenN ?_
  refine Ok.seq ?_
  refine Ok.seq ?_
  refine Ok.region ?_
  refine Ok.batch 3 [(0, .slice apl pl.length cpl), (1, .int .i64 pnow), (10, .bool (decide ((pl.length : Int) > 10)))] (by kernel_rfl) ?_
  refine Ok.nil ?_
  refine Ok.thenN ?_
  refine Ok.cond (b := decide ((pl.length : Int) > 10)) rfl (fun hc => ?_) (fun hc => ?_)
  · replace hF := hF.1 hc
    refine Ok.seq ?_
    refine Ok.region ?_
    refine Ok.batch 1 [(4, .int .i64 2)] (by kernel_rfl) ?_
    refine Ok.nil ?_
    refine Ok.thenN ?_
    refine Ok.ret ?_
    refine Ok.thenR ?_
    exact Ok.res1 (.inl rfl) rfl (.tmp rfl) ⟨2, rfl, hF⟩
  · replace hF := hF.2 hc
    refine Ok.skip ?_
    refine Ok.thenN ?_
    refine Ok.seq ?_
    refine Ok.seq ?_
    refine Ok.region ?_
    refine Ok.batch 3 [(1, .int .i64 pnow), (11, .slice apl pl.length cpl), (12, .int .i64 (pl.length : Int)), (13, .int .i64 0)] (by kernel_rfl) ?_
    refine Ok.nil ?_
    refine Ok.thenN ?_
    refine Ok.block ?_
    obtain ⟨k, hF⟩ := hF
    refine Ok.loop (fun k a W => ∃ (x13l15 : Int), StA 26 [(1, .int .i64 pnow), (11, .slice apl pl.length cpl), (12, .int .i64 (pl.length : Int)), (13, .int .i64 x13l15)] a ∧ StW w0 [] g W ∧ rightl15 pl pnow K k x13l15) k ?_ ?_
    ·
      exact fun a W hA hW => ⟨0, hA.sub (by kernel_rfl), hW, hF⟩
    ·
      rintro k15 a W ⟨x13l15, hA, hW, hF⟩
      cases k15 with
      | zero => exact (hF : False).elim
      | succ k15 =>
        refine (?_ : Ok _ _ _ _ _ _) a W hA hW
        clear hA hW
        refine Ok.seq ?_
        refine Ok.region ?_
        refine Ok.batch 1 [(1, .int .i64 pnow), (11, .slice apl pl.length cpl), (12, .int .i64 (pl.length : Int)), (13, .int .i64 x13l15), (14, .bool (decide (x13l15 < (pl.length : Int))))] (by kernel_rfl) ?_
        refine Ok.nil ?_
        refine Ok.thenN ?_
        refine Ok.seq ?_
        refine Ok.cond (b := decide (x13l15 < (pl.length : Int))) rfl (fun hc => ?_) (fun hc => ?_)
        · replace hF := hF.1 hc
          refine Ok.skip ?_
          refine Ok.thenN ?_
          refine Ok.seq ?_
          refine Ok.block ?_
          refine Ok.seq ?_
          refine Ok.region ?_
          obtain ⟨e1, h01, he1, hF⟩ := hF
          refine Ok.op rfl (OpOk.indexRo (e := .pair (.int .i64) (.pair (.int .i64) (.pair (.int .i64) (.pair (.bool) (.pair (.bool) (.pair (.pair (.int .i64) (.pair (.pair (.int .i64) (.pair (.int .i64) (.pair (.int .i64) (.int .i64)))) (.int .i64))) (.slice (.pair (.int .i64) (.pair (.int .i64) (.int .i64)))))))))) (i := x13l15) (el := e1) rfl rfl Try.underlying54 (by kernel_rfl) hRpl h01 he1 rfl fun q1 o1 cs1 _ hat1 hr1 => ?_)
          obtain ⟨_, _, rfl, ⟨rfl, _⟩, ⟨_, _, rfl, ⟨rfl, _⟩, ⟨_, _, rfl, ⟨rfl, _⟩, ⟨_, _, rfl, rfl, ⟨_, _, rfl, rfl, ⟨_, _, rfl, ⟨_, _, rfl, ⟨rfl, _⟩, ⟨_, _, rfl, ⟨_, _, rfl, ⟨rfl, _⟩, ⟨_, _, rfl, ⟨rfl, _⟩, ⟨_, _, rfl, ⟨rfl, _⟩, ⟨rfl, _⟩⟩⟩⟩, ⟨rfl, _⟩⟩⟩, ⟨a1_11, c1_11, rfl, hm1_11, hr1_11⟩⟩⟩⟩⟩⟩⟩ := hr1
          have hR1_11 : Rep g (.slice (.pair (.int .i64) (.pair (.int .i64) (.int .i64)))) [.slice a1_11 e1.2.2.2.2.2.2.length c1_11] e1.2.2.2.2.2.2 := ⟨a1_11, c1_11, rfl, hm1_11, hr1_11⟩
          replace hat1 : At g q1 o1 [.int .i64 e1.1, .int .i64 e1.2.1, .int .i64 e1.2.2.1, .bool e1.2.2.2.1, .bool e1.2.2.2.2.1, .int .i64 e1.2.2.2.2.2.1.1, .int .i64 e1.2.2.2.2.2.1.2.1.1, .int .i64 e1.2.2.2.2.2.1.2.1.2.1, .int .i64 e1.2.2.2.2.2.1.2.1.2.2.1, .int .i64 e1.2.2.2.2.2.1.2.1.2.2.2, .int .i64 e1.2.2.2.2.2.1.2.2, .slice a1_11 e1.2.2.2.2.2.2.length c1_11] := hat1
          refine Ok.op rfl (OpOk.step (v := .agg #[.int .i64 e1.1, .int .i64 e1.2.1, .int .i64 e1.2.2.1, .bool e1.2.2.2.1, .bool e1.2.2.2.2.1, .int .i64 e1.2.2.2.2.2.1.1, .int .i64 e1.2.2.2.2.2.1.2.1.1, .int .i64 e1.2.2.2.2.2.1.2.1.2.1, .int .i64 e1.2.2.2.2.2.1.2.1.2.2.1, .int .i64 e1.2.2.2.2.2.1.2.1.2.2.2, .int .i64 e1.2.2.2.2.2.1.2.2, .slice a1_11 e1.2.2.2.2.2.2.length c1_11]) (Yields.loadAggRo 0 12 #[.int .i64 e1.1, .int .i64 e1.2.1, .int .i64 e1.2.2.1, .bool e1.2.2.2.1, .bool e1.2.2.2.2.1, .int .i64 e1.2.2.2.2.2.1.1, .int .i64 e1.2.2.2.2.2.1.2.1.1, .int .i64 e1.2.2.2.2.2.1.2.1.2.1, .int .i64 e1.2.2.2.2.2.1.2.1.2.2.1, .int .i64 e1.2.2.2.2.2.1.2.1.2.2.2, .int .i64 e1.2.2.2.2.2.1.2.2, .slice a1_11 e1.2.2.2.2.2.2.length c1_11] hat1 (by kernel_rfl) Try.underlying40 rfl (by kernel_rfl) (by kernel_rfl) (by kernel_rfl)) rfl rfl ?_)
          refine Ok.op rfl (OpOk.alloc (z := .agg #[.int .i64 0, .int .i64 0, .int .i64 0, .bool false, .bool false, .int .i64 0, .int .i64 0, .int .i64 0, .int .i64 0, .int .i64 0, .int .i64 0, .slice none 0 0]) (cs := #[.int .i64 0, .int .i64 0, .int .i64 0, .bool false, .bool false, .int .i64 0, .int .i64 0, .int .i64 0, .int .i64 0, .int .i64 0, .int .i64 0, .slice none 0 0]) (by kernel_rfl) (by kernel_rfl) rfl fun b2 => ?_)
          refine Ok.op rfl (OpOk.store (k := 12) (v := .agg #[.int .i64 e1.1, .int .i64 e1.2.1, .int .i64 e1.2.2.1, .bool e1.2.2.2.1, .bool e1.2.2.2.2.1, .int .i64 e1.2.2.2.2.2.1.1, .int .i64 e1.2.2.2.2.2.1.2.1.1, .int .i64 e1.2.2.2.2.2.1.2.1.2.1, .int .i64 e1.2.2.2.2.2.1.2.1.2.2.1, .int .i64 e1.2.2.2.2.2.1.2.1.2.2.2, .int .i64 e1.2.2.2.2.2.1.2.2, .slice a1_11 e1.2.2.2.2.2.2.length c1_11]) (H' := [.blk b2 (.cells #[.int .i64 e1.1, .int .i64 e1.2.1, .int .i64 e1.2.2.1, .bool e1.2.2.2.1, .bool e1.2.2.2.2.1, .int .i64 e1.2.2.2.2.2.1.1, .int .i64 e1.2.2.2.2.2.1.2.1.1, .int .i64 e1.2.2.2.2.2.1.2.1.2.1, .int .i64 e1.2.2.2.2.2.1.2.1.2.2.1, .int .i64 e1.2.2.2.2.2.1.2.1.2.2.2, .int .i64 e1.2.2.2.2.2.1.2.2, .slice a1_11 e1.2.2.2.2.2.2.length c1_11] 40)]) 0 rfl rfl rfl (by kernel_rfl) (by kernel_rfl) (by kernel_rfl) (by kernel_rfl) (by kernel_rfl) ?_)
          refine Ok.nil ?_
          refine Ok.thenN ?_
          refine Ok.seq ?_
          refine Ok.region ?_
          refine Ok.op rfl (OpOk.step (v := .agg #[.int .i64 e1.1, .int .i64 e1.2.1, .int .i64 e1.2.2.1, .bool e1.2.2.2.1, .bool e1.2.2.2.2.1, .int .i64 e1.2.2.2.2.2.1.1, .int .i64 e1.2.2.2.2.2.1.2.1.1, .int .i64 e1.2.2.2.2.2.1.2.1.2.1, .int .i64 e1.2.2.2.2.2.1.2.1.2.2.1, .int .i64 e1.2.2.2.2.2.1.2.1.2.2.2, .int .i64 e1.2.2.2.2.2.1.2.2, .slice a1_11 e1.2.2.2.2.2.2.length c1_11]) (Yields.loadAgg 0 12 #[.int .i64 e1.1, .int .i64 e1.2.1, .int .i64 e1.2.2.1, .bool e1.2.2.2.1, .bool e1.2.2.2.2.1, .int .i64 e1.2.2.2.2.2.1.1, .int .i64 e1.2.2.2.2.2.1.2.1.1, .int .i64 e1.2.2.2.2.2.1.2.1.2.1, .int .i64 e1.2.2.2.2.2.1.2.1.2.2.1, .int .i64 e1.2.2.2.2.2.1.2.1.2.2.2, .int .i64 e1.2.2.2.2.2.1.2.2, .slice a1_11 e1.2.2.2.2.2.2.length c1_11] rfl rfl Try.underlying40 rfl (by kernel_rfl) (by kernel_rfl) (by kernel_rfl)) rfl rfl ?_)
          refine Ok.op rfl (OpOk.call (v := .int .i64 (faultI e1)) (enters (by kernel_rfl) (fun _ => by kernel_rfl)) (check_c e1 hR1_11) rfl rfl ?_)
          refine Ok.batch 1 [(1, .int .i64 pnow), (7, .int .i64 (faultI e1)), (11, .slice apl pl.length cpl), (12, .int .i64 (pl.length : Int)), (13, .int .i64 x13l15)] (by kernel_rfl) ?_
          refine Ok.nil ?_
          refine Ok.thenN ?_
          refine Ok.seq ?_
          refine Ok.region ?_
          refine Ok.batch 2 [(1, .int .i64 pnow), (7, .int .i64 (faultI e1)), (11, .slice apl pl.length cpl), (12, .int .i64 (pl.length : Int)), (13, .int .i64 x13l15), (20, .bool ((faultI e1) != 0))] (by kernel_rfl) ?_
          refine Ok.nil ?_
          refine Ok.thenN ?_
          refine Ok.cond (b := ((faultI e1) != 0)) rfl (fun hc => ?_) (fun hc => ?_)
          · replace hF := hF.1 hc
            refine Ok.seq ?_
            refine Ok.region ?_
            refine Ok.batch 2 [(4, .int .i64 (faultI e1))] (by kernel_rfl) ?_
            refine Ok.nil ?_
            refine Ok.thenN ?_
            refine Ok.ret ?_
            refine Ok.blockR ?_
            refine Ok.thenR ?_
            refine Ok.thenR ?_
            refine Ok.blockR ?_
            refine Ok.thenR ?_
            exact Ok.res1 (.inl rfl) rfl (.tmp rfl) ⟨faultI e1, rfl, hF⟩
          · replace hF := hF.2 hc
            refine Ok.skip ?_
            refine Ok.blockN ?_
            refine Ok.thenN ?_
            refine Ok.region ?_
            refine Ok.batch 2 [(1, .int .i64 pnow), (11, .slice apl pl.length cpl), (12, .int .i64 (pl.length : Int)), (13, .int .i64 (IntKind.wrap .i64 (x13l15 + 1)))] (by kernel_rfl) ?_
            refine Ok.nil ?_
            refine Ok.thenN ?_
            exact fun a W hA hW => ⟨k15, Nat.lt_succ_self _, (IntKind.wrap .i64 (x13l15 + 1)), hA.sub (by kernel_rfl), hW.sub (.cons _ .slnil), hF⟩
        · replace hF := hF.2 hc
          refine Ok.exit ?_
          refine Ok.thenE ?_
          refine Ok.thenE ?_
          refine Ok.blockHit ?_
          refine Ok.thenN ?_
          refine Ok.seq ?_
          refine Ok.seq ?_
          refine Ok.region ?_
          refine Ok.batch 1 [(23, .int .i64 pnow)] (by kernel_rfl) ?_
          refine Ok.op rfl (OpOk.call (v := .bool (inB pnow 0 200000000000)) (enters (by kernel_rfl) (fun _ => by kernel_rfl)) (in_c pnow 0 200000000000) rfl rfl ?_)
          refine Ok.batch 1 [(25, .bool (!(inB pnow 0 200000000000)))] (by kernel_rfl) ?_
          refine Ok.nil ?_
          refine Ok.thenN ?_
          refine Ok.cond (b := !(inB pnow 0 200000000000)) rfl (fun hc => ?_) (fun hc => ?_)
          · replace hF := hF.1 hc
            refine Ok.seq ?_
            refine Ok.region ?_
            refine Ok.batch 1 [(4, .int .i64 1)] (by kernel_rfl) ?_
            refine Ok.nil ?_
            refine Ok.thenN ?_
            refine Ok.ret ?_
            refine Ok.thenR ?_
            exact Ok.res1 (.inl rfl) rfl (.tmp rfl) ⟨1, rfl, hF⟩
          · replace hF := hF.2 hc
            refine Ok.skip ?_
            refine Ok.thenN ?_
            refine Ok.seq ?_
            refine Ok.region ?_
            refine Ok.batch 1 [(4, .int .i64 0)] (by kernel_rfl) ?_
            refine Ok.nil ?_
            refine Ok.thenN ?_
            refine Ok.ret ?_
            exact Ok.res1 (.inl rfl) rfl (.tmp rfl) ⟨0, rfl, hF⟩
theorem first_step {l : List A} {k : Nat} {x : A} (hx : l[k]? = some x) : firstFault (l.drop k) = if faultI x = 0 then firstFault (l.drop (k + 1)) else faultI x := by
  rw [drop_of_get hx]; rfl
theorem first_end {l : List A} {k : Nat} (h : l.length ≤ k) : firstFault (l.drop k) = 0 := by
  rw [List.drop_eq_nil_of_le h]; rfl
theorem right_loop {l : List A} {now : Int} {K : Int → Prop} (hl : (l.length : Int) ≤ 10) : ∀ (n k : Nat), l.length < n + k →
    (¬ firstFault (l.drop k) = 0 → K (firstFault (l.drop k))) → (firstFault (l.drop k) = 0 → K (if inB now 0 200000000000 = true then 0 else 1)) → k ≤ l.length → rightl15 l now K n k := by
  intro n
  induction n with
  | zero => intro k h1 _ _ h2; omega
  | succ n ih =>
    intro k h1 hA hB h2
    show rightl15b l now K k _
    unfold rightl15b
    rw [show (k : Int).toNat = k by omega]
    refine ⟨fun h => ?_, fun h => ⟨fun h3 => ?_, fun h3 => ?_⟩⟩
    · have h := of_decide_eq_true h
      obtain ⟨x, hx⟩ := get_some (l := l) (i := k) (by omega)
      rw [first_step hx] at hA hB
      refine ⟨x, by omega, hx, fun h3 => ?_, fun h3 => ?_⟩
      · have h3 : ¬ faultI x = 0 := by simpa using h3
        rw [if_neg h3] at hA; exact hA h3
      · have h3 : faultI x = 0 := by simpa using h3
        rw [if_pos h3] at hA hB
        rw [i64_in _ (by omega), show (k : Int) + 1 = ((k + 1 : Nat) : Int) by omega]
        exact ih (k + 1) (by omega) hA hB (by omega)
    · have h := of_decide_eq_false h
      have := hB (first_end (by omega))
      rw [if_neg (by simpa using h3)] at this; exact this
    · have h := of_decide_eq_false h
      have := hB (first_end (by omega))
      rw [if_pos (by simpa using h3)] at this; exact this
theorem right_F (l : List A) (now : Int) : rightF l now (fun r => r = rightI l now) := by
  unfold rightF
  refine ⟨fun h => ?_, fun h => ⟨l.length + 1, ?_⟩⟩
  · have h := of_decide_eq_true h
    unfold rightI; rw [if_pos (by omega)]
  · have h := of_decide_eq_false h
    have e : rightI l now = if ¬ firstFault l = 0 then firstFault l else if inB now 0 200000000000 = true then 0 else 1 := by
      unfold rightI; rw [if_neg (by omega)]
    rw [e]
    refine right_loop (K := fun r => r = if ¬ firstFault l = 0 then firstFault l else if inB now 0 200000000000 = true then 0 else 1) (by omega) (l.length + 1) 0 (by omega) (fun h => ?_) (fun h => ?_) (by omega)
    · rw [List.drop_zero] at h ⊢
      rw [if_pos h]
    · rw [List.drop_zero] at h
      rw [if_neg (show ¬ ¬ firstFault l = 0 by simpa using h)]
set_option linter.unusedVariables false in
theorem right_c {g : Ghost} (xl : List (Int × Int × Int × Bool × Bool × (Int × (Int × Int × Int × Int) × Int) × List (Int × Int × Int))) {a0 : Option Addr} {c0 : Nat} (xnow : Int) (hR0 : Rep g (.slice (.pair (.int .i64) (.pair (.int .i64) (.pair (.int .i64) (.pair (.bool) (.pair (.bool) (.pair (.pair (.int .i64) (.pair (.pair (.int .i64) (.pair (.int .i64) (.pair (.int .i64) (.int .i64)))) (.int .i64))) (.slice (.pair (.int .i64) (.pair (.int .i64) (.int .i64))))))))))) [.slice a0 xl.length c0] xl) : CallsG Try.prog 52 #[.slice a0 xl.length c0, .int .i64 xnow] g (.int .i64 (rightI xl xnow)) :=
  (right_ok xl xnow hR0 _ (right_F xl xnow)).gives (by rintro _ ⟨_, rfl, rfl⟩; rfl)
def atatj24 (yb1_0j24 : Int) (yb1_1j24 : Int) (x22l17 : Int) (C17 : Int → Int → Int → Prop) : Prop :=
  C17 (IntKind.wrap .i64 (x22l17 + 1)) yb1_0j24 yb1_1j24
def atatl17b (pl : List (Int × Int × Int × Bool × Bool × (Int × (Int × Int × Int × Int) × Int) × List (Int × Int × Int))) (pnow : Int) (K : Int → Int → Int → Prop) (x22l17 : Int) (yb1_0l17 : Int) (yb1_1l17 : Int) (C17 : Int → Int → Int → Prop) : Prop :=
  ((decide (x22l17 < (pl.length : Int))) = true → ∃ e3 : Int × Int × Int × Bool × Bool × (Int × (Int × Int × Int × Int) × Int) × List (Int × Int × Int), (0 : Int) ≤ x22l17 ∧ pl[Int.toNat x22l17]? = some e3 ∧ tellP e3 pnow ∧ (((tellR e3 pnow).2) = true → atatj24 (((tellR e3 pnow).1).1) (((tellR e3 pnow).1).2) x22l17 C17) ∧ (((tellR e3 pnow).2) = false → atatj24 yb1_0l17 yb1_1l17 x22l17 C17)) ∧ ((decide (x22l17 < (pl.length : Int))) = false → K yb1_0l17 yb1_1l17 0)
def atatl17 (pl : List (Int × Int × Int × Bool × Bool × (Int × (Int × Int × Int × Int) × Int) × List (Int × Int × Int))) (pnow : Int) (K : Int → Int → Int → Prop) : Nat → Int → Int → Int → Prop
  | 0, _, _, _ => False
  | k + 1, x22l17, yb1_0l17, yb1_1l17 => atatl17b pl pnow K x22l17 yb1_0l17 yb1_1l17 (atatl17 pl pnow K k)
def atatF (pl : List (Int × Int × Int × Bool × Bool × (Int × (Int × Int × Int × Int) × Int) × List (Int × Int × Int))) (pbase_Kind : Int) (pbase_N : Int) (pnow : Int) (K : Int → Int → Int → Prop) : Prop :=
  ((((rightI pl pnow) != 0)) = true → K 0 0 (rightI pl pnow)) ∧ ((((rightI pl pnow) != 0)) = false → ∃ k, atatl17 pl pnow K k 0 pbase_Kind pbase_N)
set_option maxHeartbeats 4000000 in
set_option maxRecDepth 100000 in
set_option linter.unusedVariables false in
theorem atat_ok {g : Ghost} {apl : Option Addr} {cpl : Nat} (pl : List (Int × Int × Int × Bool × Bool × (Int × (Int × Int × Int × Int) × Int) × List (Int × Int × Int))) (pbase_Kind : Int) (pbase_N : Int) (pnow : Int) (hRpl : Rep g (.slice (.pair (.int .i64) (.pair (.int .i64) (.pair (.int .i64) (.pair (.bool) (.pair (.bool) (.pair (.pair (.int .i64) (.pair (.pair (.int .i64) (.pair (.int .i64) (.pair (.int .i64) (.int .i64)))) (.int .i64))) (.slice (.pair (.int .i64) (.pair (.int .i64) (.int .i64))))))))))) [.slice apl pl.length cpl] pl) (K : Int → Int → Int → Prop)
    (hF : atatF pl pbase_Kind pbase_N pnow K) : CallsK Try.prog 30 #[.slice apl pl.length cpl, .agg #[.int .i64 pbase_Kind, .int .i64 pbase_N], .int .i64 pnow] g (fun v => ∃ r0 : Int, ∃ r1 : Int, ∃ r2 : Int, v = .tuple #[.agg #[.int .i64 r0, .int .i64 r1], .int .i64 r2] ∧ K r0 r1 r2) := by
  refine CallsK.enter 36 [(0, .slice apl pl.length cpl), (1, .agg #[.int .i64 pbase_Kind, .int .i64 pbase_N]), (2, .int .i64 pnow)] Try.func30 rfl (by kernel_rfl) (by kernel_rfl) (by kernel_rfl) fun w0 => ?_
  refine Ok.seq ?_
  refine Ok.region ?_
  refine Ok.op rfl (OpOk.box (v := .agg #[.int .i64 pbase_Kind, .int .i64 pbase_N]) (cs := #[.int .i64 pbase_Kind, .int .i64 pbase_N]) rfl (by kernel_rfl) rfl fun b1 => ?_)
  refine Ok.op rfl (OpOk.alloc (z := .agg #[.int .i64 0, .int .i64 0]) (cs := #[.int .i64 0, .int .i64 0]) (by kernel_rfl) (by kernel_rfl) rfl fun b2 => ?_)
  refine Ok.batch 1 [(0, .slice apl pl.length cpl), (2, .int .i64 pnow), (4, .pointer (some ⟨b1, 0, none⟩)), (6, .pointer (some ⟨b2, 0, none⟩))] (by kernel_rfl) ?_
  refine Ok.nil ?_
  refine Ok.thenN ?_
  refine Ok.seq ?_
  refine Ok.seq ?_
  refine Ok.region ?_
  refine Ok.batch 2 [(0, .slice apl pl.length cpl), (2, .int .i64 pnow), (4, .pointer (some ⟨b1, 0, none⟩)), (6, .pointer (some ⟨b2, 0, none⟩)), (13, .slice apl pl.length cpl), (14, .int .i64 pnow)] (by kernel_rfl) ?_
  refine Ok.op rfl (OpOk.call (v := .int .i64 (rightI pl pnow)) (enters (by kernel_rfl) (fun _ => by kernel_rfl)) (right_c pl pnow hRpl) rfl rfl ?_)
  refine Ok.batch 1 [(0, .slice apl pl.length cpl), (2, .int .i64 pnow), (4, .pointer (some ⟨b1, 0, none⟩)), (6, .pointer (some ⟨b2, 0, none⟩)), (8, .int .i64 (rightI pl pnow))] (by kernel_rfl) ?_
  refine Ok.nil ?_
  refine Ok.thenN ?_
  refine Ok.seq ?_
  refine Ok.region ?_
  refine Ok.batch 2 [(0, .slice apl pl.length cpl), (2, .int .i64 pnow), (4, .pointer (some ⟨b1, 0, none⟩)), (6, .pointer (some ⟨b2, 0, none⟩)), (8, .int .i64 (rightI pl pnow)), (17, .bool ((rightI pl pnow) != 0))] (by kernel_rfl) ?_
  refine Ok.nil ?_
  refine Ok.thenN ?_
  refine Ok.cond (b := ((rightI pl pnow) != 0)) rfl (fun hc => ?_) (fun hc => ?_)
  · replace hF := hF.1 hc
    refine Ok.seq ?_
    refine Ok.region ?_
    refine Ok.batch 2 [(6, .pointer (some ⟨b2, 0, none⟩)), (18, .agg #[.int .i64 0, .int .i64 0]), (19, .int .i64 (rightI pl pnow))] (by kernel_rfl) ?_
    refine Ok.op rfl (OpOk.store (k := 2) (v := .agg #[.int .i64 0, .int .i64 0]) (H' := [.blk b2 (.cells #[.int .i64 0, .int .i64 0] 44), .blk b1 (.cells #[.int .i64 pbase_Kind, .int .i64 pbase_N] 44)]) 0 rfl rfl rfl (by kernel_rfl) (by kernel_rfl) (by kernel_rfl) (by kernel_rfl) (by kernel_rfl) ?_)
    refine Ok.batch 1 [(6, .pointer (some ⟨b2, 0, none⟩)), (7, .int .i64 (rightI pl pnow))] (by kernel_rfl) ?_
    refine Ok.nil ?_
    refine Ok.thenN ?_
    refine Ok.ret ?_
    refine Ok.thenR ?_
    exact Ok.res2 (.inl rfl) rfl (.cellAgg 0 2 #[.int .i64 0, .int .i64 0] rfl rfl Try.underlying44 rfl (by kernel_rfl) (by kernel_rfl) (by kernel_rfl)) (.tmp rfl) ⟨0, 0, rightI pl pnow, rfl, hF⟩
  · replace hF := hF.2 hc
    refine Ok.skip ?_
    refine Ok.thenN ?_
    refine Ok.seq ?_
    refine Ok.seq ?_
    refine Ok.region ?_
    refine Ok.batch 3 [(2, .int .i64 pnow), (4, .pointer (some ⟨b1, 0, none⟩)), (6, .pointer (some ⟨b2, 0, none⟩)), (20, .slice apl pl.length cpl), (21, .int .i64 (pl.length : Int)), (22, .int .i64 0)] (by kernel_rfl) ?_
    refine Ok.nil ?_
    refine Ok.thenN ?_
    refine Ok.block ?_
    obtain ⟨k, hF⟩ := hF
    refine Ok.loop (fun k a W => ∃ (x22l17 : Int) (yb1_0l17 : Int) (yb1_1l17 : Int), StA 36 [(2, .int .i64 pnow), (4, .pointer (some ⟨b1, 0, none⟩)), (6, .pointer (some ⟨b2, 0, none⟩)), (20, .slice apl pl.length cpl), (21, .int .i64 (pl.length : Int)), (22, .int .i64 x22l17)] a ∧ StW w0 [.blk b2 (.cells #[.int .i64 0, .int .i64 0] 44), .blk b1 (.cells #[.int .i64 yb1_0l17, .int .i64 yb1_1l17] 44)] g W ∧ atatl17 pl pnow K k x22l17 yb1_0l17 yb1_1l17) k ?_ ?_
    ·
      exact fun a W hA hW => ⟨0, pbase_Kind, pbase_N, hA.sub (by kernel_rfl), hW, hF⟩
    ·
      rintro k17 a W ⟨x22l17, yb1_0l17, yb1_1l17, hA, hW, hF⟩
      cases k17 with
      | zero => exact (hF : False).elim
      | succ k17 =>
        refine (?_ : Ok _ _ _ _ _ _) a W hA hW
        clear hA hW
        refine Ok.seq ?_
        refine Ok.region ?_
        refine Ok.batch 1 [(2, .int .i64 pnow), (4, .pointer (some ⟨b1, 0, none⟩)), (6, .pointer (some ⟨b2, 0, none⟩)), (20, .slice apl pl.length cpl), (21, .int .i64 (pl.length : Int)), (22, .int .i64 x22l17), (23, .bool (decide (x22l17 < (pl.length : Int))))] (by kernel_rfl) ?_
        refine Ok.nil ?_
        refine Ok.thenN ?_
        refine Ok.seq ?_
        refine Ok.cond (b := decide (x22l17 < (pl.length : Int))) rfl (fun hc => ?_) (fun hc => ?_)
        · replace hF := hF.1 hc
          refine Ok.skip ?_
          refine Ok.thenN ?_
          refine Ok.cut (fun a W => ∃ (yb1_0j24 : Int) (yb1_1j24 : Int), StA 36 [(2, .int .i64 pnow), (4, .pointer (some ⟨b1, 0, none⟩)), (6, .pointer (some ⟨b2, 0, none⟩)), (20, .slice apl pl.length cpl), (21, .int .i64 (pl.length : Int)), (22, .int .i64 x22l17)] a ∧ StW w0 [.blk b2 (.cells #[.int .i64 0, .int .i64 0] 44), .blk b1 (.cells #[.int .i64 yb1_0j24, .int .i64 yb1_1j24] 44)] g W ∧ atatj24 yb1_0j24 yb1_1j24 x22l17 (atatl17 pl pnow K k17)) ?_ ?_
          ·
            refine Ok.block ?_
            refine Ok.seq ?_
            refine Ok.region ?_
            obtain ⟨e3, h03, he3, hF⟩ := hF
            refine Ok.op rfl (OpOk.indexRo (e := .pair (.int .i64) (.pair (.int .i64) (.pair (.int .i64) (.pair (.bool) (.pair (.bool) (.pair (.pair (.int .i64) (.pair (.pair (.int .i64) (.pair (.int .i64) (.pair (.int .i64) (.int .i64)))) (.int .i64))) (.slice (.pair (.int .i64) (.pair (.int .i64) (.int .i64)))))))))) (i := x22l17) (el := e3) rfl rfl Try.underlying54 (by kernel_rfl) hRpl h03 he3 rfl fun q3 o3 cs3 _ hat3 hr3 => ?_)
            obtain ⟨_, _, rfl, ⟨rfl, _⟩, ⟨_, _, rfl, ⟨rfl, _⟩, ⟨_, _, rfl, ⟨rfl, _⟩, ⟨_, _, rfl, rfl, ⟨_, _, rfl, rfl, ⟨_, _, rfl, ⟨_, _, rfl, ⟨rfl, _⟩, ⟨_, _, rfl, ⟨_, _, rfl, ⟨rfl, _⟩, ⟨_, _, rfl, ⟨rfl, _⟩, ⟨_, _, rfl, ⟨rfl, _⟩, ⟨rfl, _⟩⟩⟩⟩, ⟨rfl, _⟩⟩⟩, ⟨a3_11, c3_11, rfl, hm3_11, hr3_11⟩⟩⟩⟩⟩⟩⟩ := hr3
            have hR3_11 : Rep g (.slice (.pair (.int .i64) (.pair (.int .i64) (.int .i64)))) [.slice a3_11 e3.2.2.2.2.2.2.length c3_11] e3.2.2.2.2.2.2 := ⟨a3_11, c3_11, rfl, hm3_11, hr3_11⟩
            replace hat3 : At g q3 o3 [.int .i64 e3.1, .int .i64 e3.2.1, .int .i64 e3.2.2.1, .bool e3.2.2.2.1, .bool e3.2.2.2.2.1, .int .i64 e3.2.2.2.2.2.1.1, .int .i64 e3.2.2.2.2.2.1.2.1.1, .int .i64 e3.2.2.2.2.2.1.2.1.2.1, .int .i64 e3.2.2.2.2.2.1.2.1.2.2.1, .int .i64 e3.2.2.2.2.2.1.2.1.2.2.2, .int .i64 e3.2.2.2.2.2.1.2.2, .slice a3_11 e3.2.2.2.2.2.2.length c3_11] := hat3
            refine Ok.op rfl (OpOk.step (v := .agg #[.int .i64 e3.1, .int .i64 e3.2.1, .int .i64 e3.2.2.1, .bool e3.2.2.2.1, .bool e3.2.2.2.2.1, .int .i64 e3.2.2.2.2.2.1.1, .int .i64 e3.2.2.2.2.2.1.2.1.1, .int .i64 e3.2.2.2.2.2.1.2.1.2.1, .int .i64 e3.2.2.2.2.2.1.2.1.2.2.1, .int .i64 e3.2.2.2.2.2.1.2.1.2.2.2, .int .i64 e3.2.2.2.2.2.1.2.2, .slice a3_11 e3.2.2.2.2.2.2.length c3_11]) (Yields.loadAggRo 0 12 #[.int .i64 e3.1, .int .i64 e3.2.1, .int .i64 e3.2.2.1, .bool e3.2.2.2.1, .bool e3.2.2.2.2.1, .int .i64 e3.2.2.2.2.2.1.1, .int .i64 e3.2.2.2.2.2.1.2.1.1, .int .i64 e3.2.2.2.2.2.1.2.1.2.1, .int .i64 e3.2.2.2.2.2.1.2.1.2.2.1, .int .i64 e3.2.2.2.2.2.1.2.1.2.2.2, .int .i64 e3.2.2.2.2.2.1.2.2, .slice a3_11 e3.2.2.2.2.2.2.length c3_11] hat3 (by kernel_rfl) Try.underlying40 rfl (by kernel_rfl) (by kernel_rfl) (by kernel_rfl)) rfl rfl ?_)
            refine Ok.op rfl (OpOk.alloc (z := .agg #[.int .i64 0, .int .i64 0, .int .i64 0, .bool false, .bool false, .int .i64 0, .int .i64 0, .int .i64 0, .int .i64 0, .int .i64 0, .int .i64 0, .slice none 0 0]) (cs := #[.int .i64 0, .int .i64 0, .int .i64 0, .bool false, .bool false, .int .i64 0, .int .i64 0, .int .i64 0, .int .i64 0, .int .i64 0, .int .i64 0, .slice none 0 0]) (by kernel_rfl) (by kernel_rfl) rfl fun b4 => ?_)
            refine Ok.op rfl (OpOk.store (k := 12) (v := .agg #[.int .i64 e3.1, .int .i64 e3.2.1, .int .i64 e3.2.2.1, .bool e3.2.2.2.1, .bool e3.2.2.2.2.1, .int .i64 e3.2.2.2.2.2.1.1, .int .i64 e3.2.2.2.2.2.1.2.1.1, .int .i64 e3.2.2.2.2.2.1.2.1.2.1, .int .i64 e3.2.2.2.2.2.1.2.1.2.2.1, .int .i64 e3.2.2.2.2.2.1.2.1.2.2.2, .int .i64 e3.2.2.2.2.2.1.2.2, .slice a3_11 e3.2.2.2.2.2.2.length c3_11]) (H' := [.blk b4 (.cells #[.int .i64 e3.1, .int .i64 e3.2.1, .int .i64 e3.2.2.1, .bool e3.2.2.2.1, .bool e3.2.2.2.2.1, .int .i64 e3.2.2.2.2.2.1.1, .int .i64 e3.2.2.2.2.2.1.2.1.1, .int .i64 e3.2.2.2.2.2.1.2.1.2.1, .int .i64 e3.2.2.2.2.2.1.2.1.2.2.1, .int .i64 e3.2.2.2.2.2.1.2.1.2.2.2, .int .i64 e3.2.2.2.2.2.1.2.2, .slice a3_11 e3.2.2.2.2.2.2.length c3_11] 40), .blk b2 (.cells #[.int .i64 0, .int .i64 0] 44), .blk b1 (.cells #[.int .i64 yb1_0l17, .int .i64 yb1_1l17] 44)]) 0 rfl rfl rfl (by kernel_rfl) (by kernel_rfl) (by kernel_rfl) (by kernel_rfl) (by kernel_rfl) ?_)
            refine Ok.nil ?_
            refine Ok.thenN ?_
            refine Ok.seq ?_
            refine Ok.region ?_
            refine Ok.op rfl (OpOk.step (v := .agg #[.int .i64 e3.1, .int .i64 e3.2.1, .int .i64 e3.2.2.1, .bool e3.2.2.2.1, .bool e3.2.2.2.2.1, .int .i64 e3.2.2.2.2.2.1.1, .int .i64 e3.2.2.2.2.2.1.2.1.1, .int .i64 e3.2.2.2.2.2.1.2.1.2.1, .int .i64 e3.2.2.2.2.2.1.2.1.2.2.1, .int .i64 e3.2.2.2.2.2.1.2.1.2.2.2, .int .i64 e3.2.2.2.2.2.1.2.2, .slice a3_11 e3.2.2.2.2.2.2.length c3_11]) (Yields.loadAgg 0 12 #[.int .i64 e3.1, .int .i64 e3.2.1, .int .i64 e3.2.2.1, .bool e3.2.2.2.1, .bool e3.2.2.2.2.1, .int .i64 e3.2.2.2.2.2.1.1, .int .i64 e3.2.2.2.2.2.1.2.1.1, .int .i64 e3.2.2.2.2.2.1.2.1.2.1, .int .i64 e3.2.2.2.2.2.1.2.1.2.2.1, .int .i64 e3.2.2.2.2.2.1.2.1.2.2.2, .int .i64 e3.2.2.2.2.2.1.2.2, .slice a3_11 e3.2.2.2.2.2.2.length c3_11] rfl rfl Try.underlying40 rfl (by kernel_rfl) (by kernel_rfl) (by kernel_rfl)) rfl rfl ?_)
            refine Ok.batch 1 [(2, .int .i64 pnow), (4, .pointer (some ⟨b1, 0, none⟩)), (6, .pointer (some ⟨b2, 0, none⟩)), (20, .slice apl pl.length cpl), (21, .int .i64 (pl.length : Int)), (22, .int .i64 x22l17), (27, .agg #[.int .i64 e3.1, .int .i64 e3.2.1, .int .i64 e3.2.2.1, .bool e3.2.2.2.1, .bool e3.2.2.2.2.1, .int .i64 e3.2.2.2.2.2.1.1, .int .i64 e3.2.2.2.2.2.1.2.1.1, .int .i64 e3.2.2.2.2.2.1.2.1.2.1, .int .i64 e3.2.2.2.2.2.1.2.1.2.2.1, .int .i64 e3.2.2.2.2.2.1.2.1.2.2.2, .int .i64 e3.2.2.2.2.2.1.2.2, .slice a3_11 e3.2.2.2.2.2.2.length c3_11]), (28, .int .i64 pnow)] (by kernel_rfl) ?_
            obtain ⟨hp, hF⟩ := hF
            refine Ok.op rfl (OpOk.call (v := .tuple #[.agg #[.int .i64 (((tellR e3 pnow).1).1), .int .i64 (((tellR e3 pnow).1).2)], .bool ((tellR e3 pnow).2)]) (enters (by kernel_rfl) (fun _ => by kernel_rfl)) (tells_c e3 pnow hR3_11 hp) rfl rfl ?_)
            refine Ok.batch 3 [(2, .int .i64 pnow), (4, .pointer (some ⟨b1, 0, none⟩)), (6, .pointer (some ⟨b2, 0, none⟩)), (20, .slice apl pl.length cpl), (21, .int .i64 (pl.length : Int)), (22, .int .i64 x22l17), (30, .agg #[.int .i64 (((tellR e3 pnow).1).1), .int .i64 (((tellR e3 pnow).1).2)]), (31, .bool ((tellR e3 pnow).2))] (by kernel_rfl) ?_
            refine Ok.op rfl (OpOk.alloc (z := .agg #[.int .i64 0, .int .i64 0]) (cs := #[.int .i64 0, .int .i64 0]) (by kernel_rfl) (by kernel_rfl) rfl fun b5 => ?_)
            refine Ok.op rfl (OpOk.store (k := 2) (v := .agg #[.int .i64 (((tellR e3 pnow).1).1), .int .i64 (((tellR e3 pnow).1).2)]) (H' := [.blk b5 (.cells #[.int .i64 (((tellR e3 pnow).1).1), .int .i64 (((tellR e3 pnow).1).2)] 44), .blk b4 (.cells #[.int .i64 e3.1, .int .i64 e3.2.1, .int .i64 e3.2.2.1, .bool e3.2.2.2.1, .bool e3.2.2.2.2.1, .int .i64 e3.2.2.2.2.2.1.1, .int .i64 e3.2.2.2.2.2.1.2.1.1, .int .i64 e3.2.2.2.2.2.1.2.1.2.1, .int .i64 e3.2.2.2.2.2.1.2.1.2.2.1, .int .i64 e3.2.2.2.2.2.1.2.1.2.2.2, .int .i64 e3.2.2.2.2.2.1.2.2, .slice a3_11 e3.2.2.2.2.2.2.length c3_11] 40), .blk b2 (.cells #[.int .i64 0, .int .i64 0] 44), .blk b1 (.cells #[.int .i64 yb1_0l17, .int .i64 yb1_1l17] 44)]) 0 rfl rfl rfl (by kernel_rfl) (by kernel_rfl) (by kernel_rfl) (by kernel_rfl) (by kernel_rfl) ?_)
            refine Ok.batch 1 [(2, .int .i64 pnow), (4, .pointer (some ⟨b1, 0, none⟩)), (6, .pointer (some ⟨b2, 0, none⟩)), (11, .pointer (some ⟨b5, 0, none⟩)), (12, .bool ((tellR e3 pnow).2)), (20, .slice apl pl.length cpl), (21, .int .i64 (pl.length : Int)), (22, .int .i64 x22l17)] (by kernel_rfl) ?_
            refine Ok.nil ?_
            refine Ok.thenN ?_
            refine Ok.seq ?_
            refine Ok.region ?_
            refine Ok.batch 1 [(2, .int .i64 pnow), (4, .pointer (some ⟨b1, 0, none⟩)), (6, .pointer (some ⟨b2, 0, none⟩)), (11, .pointer (some ⟨b5, 0, none⟩)), (20, .slice apl pl.length cpl), (21, .int .i64 (pl.length : Int)), (22, .int .i64 x22l17), (32, .bool ((tellR e3 pnow).2))] (by kernel_rfl) ?_
            refine Ok.nil ?_
            refine Ok.thenN ?_
            refine Ok.cond (b := (tellR e3 pnow).2) rfl (fun hc => ?_) (fun hc => ?_)
            · replace hF := hF.1 hc
              refine Ok.region ?_
              refine Ok.op rfl (OpOk.step (v := .agg #[.int .i64 (((tellR e3 pnow).1).1), .int .i64 (((tellR e3 pnow).1).2)]) (Yields.loadAgg 0 2 #[.int .i64 (((tellR e3 pnow).1).1), .int .i64 (((tellR e3 pnow).1).2)] rfl rfl Try.underlying44 rfl (by kernel_rfl) (by kernel_rfl) (by kernel_rfl)) rfl rfl ?_)
              refine Ok.op rfl (OpOk.store (k := 2) (v := .agg #[.int .i64 (((tellR e3 pnow).1).1), .int .i64 (((tellR e3 pnow).1).2)]) (H' := [.blk b5 (.cells #[.int .i64 (((tellR e3 pnow).1).1), .int .i64 (((tellR e3 pnow).1).2)] 44), .blk b4 (.cells #[.int .i64 e3.1, .int .i64 e3.2.1, .int .i64 e3.2.2.1, .bool e3.2.2.2.1, .bool e3.2.2.2.2.1, .int .i64 e3.2.2.2.2.2.1.1, .int .i64 e3.2.2.2.2.2.1.2.1.1, .int .i64 e3.2.2.2.2.2.1.2.1.2.1, .int .i64 e3.2.2.2.2.2.1.2.1.2.2.1, .int .i64 e3.2.2.2.2.2.1.2.1.2.2.2, .int .i64 e3.2.2.2.2.2.1.2.2, .slice a3_11 e3.2.2.2.2.2.2.length c3_11] 40), .blk b2 (.cells #[.int .i64 0, .int .i64 0] 44), .blk b1 (.cells #[.int .i64 (((tellR e3 pnow).1).1), .int .i64 (((tellR e3 pnow).1).2)] 44)]) 3 rfl rfl rfl (by kernel_rfl) (by kernel_rfl) (by kernel_rfl) (by kernel_rfl) (by kernel_rfl) ?_)
              refine Ok.nil ?_
              refine Ok.blockN ?_
              refine Ok.thenN ?_
              exact fun a W hA hW => ⟨(((tellR e3 pnow).1).1), (((tellR e3 pnow).1).2), hA.sub (by kernel_rfl), hW.sub (.cons _ (.cons _ (.cons_cons _ (.cons_cons _ .slnil)))), hF⟩
            · replace hF := hF.2 hc
              refine Ok.skip ?_
              refine Ok.blockN ?_
              refine Ok.thenN ?_
              exact fun a W hA hW => ⟨yb1_0l17, yb1_1l17, hA.sub (by kernel_rfl), hW.sub (.cons _ (.cons _ (.cons_cons _ (.cons_cons _ .slnil)))), hF⟩
          ·
            rintro a W ⟨yb1_0j24, yb1_1j24, hA, hW, hF⟩
            refine (?_ : Ok _ _ _ _ _ _) a W hA hW
            clear hA hW
            refine Ok.region ?_
            refine Ok.batch 2 [(2, .int .i64 pnow), (4, .pointer (some ⟨b1, 0, none⟩)), (6, .pointer (some ⟨b2, 0, none⟩)), (20, .slice apl pl.length cpl), (21, .int .i64 (pl.length : Int)), (22, .int .i64 (IntKind.wrap .i64 (x22l17 + 1)))] (by kernel_rfl) ?_
            refine Ok.nil ?_
            refine Ok.thenN ?_
            exact fun a W hA hW => ⟨k17, Nat.lt_succ_self _, (IntKind.wrap .i64 (x22l17 + 1)), yb1_0j24, yb1_1j24, hA.sub (by kernel_rfl), hW, hF⟩
        · replace hF := hF.2 hc
          refine Ok.exit ?_
          refine Ok.thenE ?_
          refine Ok.thenE ?_
          refine Ok.blockHit ?_
          refine Ok.thenN ?_
          refine Ok.seq ?_
          refine Ok.region ?_
          refine Ok.op rfl (OpOk.step (v := .agg #[.int .i64 yb1_0l17, .int .i64 yb1_1l17]) (Yields.loadAgg 1 2 #[.int .i64 yb1_0l17, .int .i64 yb1_1l17] rfl rfl Try.underlying44 rfl (by kernel_rfl) (by kernel_rfl) (by kernel_rfl)) rfl rfl ?_)
          refine Ok.op rfl (OpOk.store (k := 2) (v := .agg #[.int .i64 yb1_0l17, .int .i64 yb1_1l17]) (H' := [.blk b2 (.cells #[.int .i64 yb1_0l17, .int .i64 yb1_1l17] 44), .blk b1 (.cells #[.int .i64 yb1_0l17, .int .i64 yb1_1l17] 44)]) 0 rfl rfl rfl (by kernel_rfl) (by kernel_rfl) (by kernel_rfl) (by kernel_rfl) (by kernel_rfl) ?_)
          refine Ok.batch 1 [(6, .pointer (some ⟨b2, 0, none⟩)), (7, .int .i64 0)] (by kernel_rfl) ?_
          refine Ok.nil ?_
          refine Ok.thenN ?_
          refine Ok.ret ?_
          exact Ok.res2 (.inl rfl) rfl (.cellAgg 0 2 #[.int .i64 yb1_0l17, .int .i64 yb1_1l17] rfl rfl Try.underlying44 rfl (by kernel_rfl) (by kernel_rfl) (by kernel_rfl)) (.tmp rfl) ⟨yb1_0l17, yb1_1l17, 0, rfl, hF⟩
theorem first_all {l : List A} (h : firstFault l = 0) : ∀ k, firstFault (l.drop k) = 0
  | 0 => by simpa using h
  | k + 1 => by
    have ih := first_all h k
    by_cases hk : k < l.length
    · obtain ⟨x, hx⟩ := get_some hk
      rw [first_step hx] at ih
      split at ih
      · exact ih
      · exact absurd ih (by assumption)
    · exact first_end (by omega)
theorem first_get {l : List A} (h : firstFault l = 0) {k : Nat} {x : A} (hx : l[k]? = some x) : faultI x = 0 := by
  have := first_all h k
  rw [first_step hx] at this
  split at this
  · assumption
  · exact absurd this (by assumption)
theorem right_zero {l : List A} {now : Int} (h : rightI l now = 0) : l.length ≤ 10 ∧ firstFault l = 0 ∧ 0 ≤ now ∧ now ≤ 200000000000 := by
  unfold rightI at h
  split at h
  · cases h
  · split at h
    · exact absurd h (by assumption)
    · split at h
      · rename_i g1 g2 g3
        have := inB_true.1 g3
        exact ⟨by omega, by simpa using g2, this.1, this.2⟩
      · cases h
theorem fold_step {l : List A} {now : Int} {b : V} {k : Nat} {x : A} (hx : l[k]? = some x) : foldV (l.drop k) b now = foldV (l.drop (k + 1)) (if tellB x now = true then tellV x now else b) now := by
  rw [drop_of_get hx]; rfl
theorem fold_end {l : List A} {now : Int} {b : V} {k : Nat} (h : l.length ≤ k) : foldV (l.drop k) b now = b := by
  rw [List.drop_eq_nil_of_le h]; rfl
theorem tellR_two (a : A) (now : Int) : (tellR a now).2 = tellB a now := rfl
theorem tellR_one {a : A} {now : Int} (h : tellB a now = true) : (tellR a now).1 = tellV a now := by
  unfold tellB at h
  simp only [Bool.and_eq_true, decide_eq_true_eq] at h
  unfold tellR
  rw [if_neg (by omega)]
theorem atat_loop {l : List A} {now : Int} {K : Int → Int → Int → Prop} (hr : rightI l now = 0) : ∀ (n k : Nat) (b : V), l.length < n + k → k ≤ l.length →
    K (foldV (l.drop k) b now).1 (foldV (l.drop k) b now).2 0 → atatl17 l now K n k b.1 b.2 := by
  obtain ⟨hl, hf, hn0, hn1⟩ := right_zero hr
  intro n
  induction n with
  | zero => intro k b h1 h2; omega
  | succ n ih =>
    intro k b h1 h2 hK
    show atatl17b l now K k b.1 b.2 _
    unfold atatl17b atatj24
    rw [show (k : Int).toNat = k by omega, i64_in _ (by omega), show (k : Int) + 1 = ((k + 1 : Nat) : Int) by omega]
    refine ⟨fun h => ?_, fun h => ?_⟩
    · have h := of_decide_eq_true h
      obtain ⟨x, hx⟩ := get_some (l := l) (i := k) (by omega)
      rw [fold_step hx] at hK
      refine ⟨x, by omega, hx, ⟨first_get hf hx, hn0, hn1⟩, fun h3 => ?_, fun h3 => ?_⟩
      · rw [tellR_two] at h3
        rw [if_pos h3] at hK
        rw [tellR_one h3]
        exact ih (k + 1) (tellV x now) (by omega) (by omega) hK
      · rw [tellR_two] at h3
        rw [if_neg (by rw [h3]; simp)] at hK
        exact ih (k + 1) b (by omega) (by omega) hK
    · have h := of_decide_eq_false h
      rw [fold_end (by omega)] at hK; exact hK
theorem atat_F (l : List A) (base : V) (now : Int) : atatF l base.1 base.2 now (fun x y e => x = (atR l base now).1.1 ∧ y = (atR l base now).1.2 ∧ e = (atR l base now).2) := by
  unfold atatF
  refine ⟨fun h => ?_, fun h => ⟨l.length + 1, ?_⟩⟩
  · have h : ¬ rightI l now = 0 := by simpa using h
    unfold atR; rw [if_neg h]; exact ⟨rfl, rfl, rfl⟩
  · have h : rightI l now = 0 := by simpa using h
    refine atat_loop (K := fun x y e => x = (atR l base now).1.1 ∧ y = (atR l base now).1.2 ∧ e = (atR l base now).2) h (l.length + 1) 0 base (by omega) (by omega) ?_
    unfold atR; rw [if_pos h, List.drop_zero]; exact ⟨rfl, rfl, rfl⟩
set_option linter.unusedVariables false in
theorem atat_c {g : Ghost} (xl : List (Int × Int × Int × Bool × Bool × (Int × (Int × Int × Int × Int) × Int) × List (Int × Int × Int))) {a0 : Option Addr} {c0 : Nat} (xbase : Int × Int) (xnow : Int) (hR0 : Rep g (.slice (.pair (.int .i64) (.pair (.int .i64) (.pair (.int .i64) (.pair (.bool) (.pair (.bool) (.pair (.pair (.int .i64) (.pair (.pair (.int .i64) (.pair (.int .i64) (.pair (.int .i64) (.int .i64)))) (.int .i64))) (.slice (.pair (.int .i64) (.pair (.int .i64) (.int .i64))))))))))) [.slice a0 xl.length c0] xl) : CallsG Try.prog 30 #[.slice a0 xl.length c0, .agg #[.int .i64 xbase.1, .int .i64 xbase.2], .int .i64 xnow] g (.tuple #[.agg #[.int .i64 (((atR xl xbase xnow).1).1), .int .i64 (((atR xl xbase xnow).1).2)], .int .i64 ((atR xl xbase xnow).2)]) :=
  (atat_ok xl xbase.1 xbase.2 xnow hR0 _ (atat_F xl xbase xnow)).gives (by rintro _ ⟨_, _, _, rfl, rfl, rfl, rfl⟩; rfl)
def atellsj47 (x11l40 : Int) (yb3_0j47 : Int) (yb3_1j47 : Int) (C40 : Int → Int → Int → Prop) : Prop :=
  C40 (IntKind.wrap .i64 (x11l40 + 1)) yb3_0j47 yb3_1j47
def atellsj65 (K : Bool → Prop) (x6j65 : Bool) : Prop :=
  K x6j65
def atellsj57 (pl : List (Int × Int × Int × Bool × Bool × (Int × (Int × Int × Int × Int) × Int) × List (Int × Int × Int))) (pbase_Kind : Int) (pbase_N : Int) (pnow : Int) (K : Bool → Prop) (x8j28 : Int) (yb3_0j57 : Int) (yb3_1j57 : Int) : Prop :=
  ((true) = true → ((([((((atR pl (pbase_Kind, pbase_N) pnow).1).1) == yb3_0j57), ((((atR pl (pbase_Kind, pbase_N) pnow).1).2) == yb3_1j57)].all id)) = true → atellsj65 K (x8j28 == ((atR pl (pbase_Kind, pbase_N) pnow).2))) ∧ ((([((((atR pl (pbase_Kind, pbase_N) pnow).1).1) == yb3_0j57), ((((atR pl (pbase_Kind, pbase_N) pnow).1).2) == yb3_1j57)].all id)) = false → atellsj65 K false)) ∧ ((true) = false → atellsj65 K false)
def atellsj42 (pl : List (Int × Int × Int × Bool × Bool × (Int × (Int × Int × Int × Int) × Int) × List (Int × Int × Int))) (pbase_Kind : Int) (pbase_N : Int) (pnow : Int) (K : Bool → Prop) (x8j28 : Int) (x53j42 : Bool) (x11l40 : Int) (yb3_0l40 : Int) (yb3_1l40 : Int) (C40 : Int → Int → Int → Prop) : Prop :=
  ((x53j42) = true → ∃ e4 : Int × Int × Int × Bool × Bool × (Int × (Int × Int × Int × Int) × Int) × List (Int × Int × Int), (0 : Int) ≤ x11l40 ∧ pl[Int.toNat x11l40]? = some e4 ∧ tellP e4 pnow ∧ (((rtellR e4 pnow).2) = true → atellsj47 x11l40 (((rtellR e4 pnow).1).1) (((rtellR e4 pnow).1).2) C40) ∧ (((rtellR e4 pnow).2) = false → atellsj47 x11l40 yb3_0l40 yb3_1l40 C40)) ∧ ((x53j42) = false → (((x8j28 != 0)) = true → atellsj57 pl pbase_Kind pbase_N pnow K x8j28 0 0) ∧ (((x8j28 != 0)) = false → atellsj57 pl pbase_Kind pbase_N pnow K x8j28 yb3_0l40 yb3_1l40))
def atellsl40b (pl : List (Int × Int × Int × Bool × Bool × (Int × (Int × Int × Int × Int) × Int) × List (Int × Int × Int))) (pbase_Kind : Int) (pbase_N : Int) (pnow : Int) (K : Bool → Prop) (x8j28 : Int) (x11l40 : Int) (yb3_0l40 : Int) (yb3_1l40 : Int) (C40 : Int → Int → Int → Prop) : Prop :=
  ((decide (x11l40 < (pl.length : Int))) = true → atellsj42 pl pbase_Kind pbase_N pnow K x8j28 (x8j28 == 0) x11l40 yb3_0l40 yb3_1l40 C40) ∧ ((decide (x11l40 < (pl.length : Int))) = false → atellsj42 pl pbase_Kind pbase_N pnow K x8j28 false x11l40 yb3_0l40 yb3_1l40 C40)
def atellsl40 (pl : List (Int × Int × Int × Bool × Bool × (Int × (Int × Int × Int × Int) × Int) × List (Int × Int × Int))) (pbase_Kind : Int) (pbase_N : Int) (pnow : Int) (K : Bool → Prop) (x8j28 : Int) : Nat → Int → Int → Int → Prop
  | 0, _, _, _ => False
  | k + 1, x11l40, yb3_0l40, yb3_1l40 => atellsl40b pl pbase_Kind pbase_N pnow K x8j28 x11l40 yb3_0l40 yb3_1l40 (atellsl40 pl pbase_Kind pbase_N pnow K x8j28 k)
def atellsj28 (pl : List (Int × Int × Int × Bool × Bool × (Int × (Int × Int × Int × Int) × Int) × List (Int × Int × Int))) (pbase_Kind : Int) (pbase_N : Int) (pnow : Int) (K : Bool → Prop) (x8j28 : Int) : Prop :=
  ∃ k, atellsl40 pl pbase_Kind pbase_N pnow K x8j28 k 0 pbase_Kind pbase_N
def atellsj29 (pl : List (Int × Int × Int × Bool × Bool × (Int × (Int × Int × Int × Int) × Int) × List (Int × Int × Int))) (pbase_Kind : Int) (pbase_N : Int) (pnow : Int) (K : Bool → Prop) (x8l17 : Int) (x44j29 : Bool) : Prop :=
  ((x44j29) = true → atellsj28 pl pbase_Kind pbase_N pnow K 1) ∧ ((x44j29) = false → atellsj28 pl pbase_Kind pbase_N pnow K x8l17)
def atellsj19 (pl : List (Int × Int × Int × Bool × Bool × (Int × (Int × Int × Int × Int) × Int) × List (Int × Int × Int))) (pbase_Kind : Int) (pbase_N : Int) (pnow : Int) (K : Bool → Prop) (x27j19 : Bool) (x8l17 : Int) (x9l17 : Int) (C17 : Int → Int → Prop) : Prop :=
  ((x27j19) = true → ∃ e2 : Int × Int × Int × Bool × Bool × (Int × (Int × Int × Int × Int) × Int) × List (Int × Int × Int), (0 : Int) ≤ x9l17 ∧ pl[Int.toNat x9l17]? = some e2 ∧ C17 (faultI e2) (IntKind.wrap .i64 (x9l17 + 1))) ∧ ((x27j19) = false → (((x8l17 == 0)) = true → ((decide (pnow < 0)) = true → atellsj29 pl pbase_Kind pbase_N pnow K x8l17 true) ∧ ((decide (pnow < 0)) = false → atellsj29 pl pbase_Kind pbase_N pnow K x8l17 (decide (pnow > 200000000000)))) ∧ (((x8l17 == 0)) = false → atellsj29 pl pbase_Kind pbase_N pnow K x8l17 false))
def atellsl17b (pl : List (Int × Int × Int × Bool × Bool × (Int × (Int × Int × Int × Int) × Int) × List (Int × Int × Int))) (pbase_Kind : Int) (pbase_N : Int) (pnow : Int) (K : Bool → Prop) (x8l17 : Int) (x9l17 : Int) (C17 : Int → Int → Prop) : Prop :=
  ((decide (x9l17 < (pl.length : Int))) = true → atellsj19 pl pbase_Kind pbase_N pnow K (x8l17 == 0) x8l17 x9l17 C17) ∧ ((decide (x9l17 < (pl.length : Int))) = false → atellsj19 pl pbase_Kind pbase_N pnow K false x8l17 x9l17 C17)
def atellsl17 (pl : List (Int × Int × Int × Bool × Bool × (Int × (Int × Int × Int × Int) × Int) × List (Int × Int × Int))) (pbase_Kind : Int) (pbase_N : Int) (pnow : Int) (K : Bool → Prop) : Nat → Int → Int → Prop
  | 0, _, _ => False
  | k + 1, x8l17, x9l17 => atellsl17b pl pbase_Kind pbase_N pnow K x8l17 x9l17 (atellsl17 pl pbase_Kind pbase_N pnow K k)
def atellsj7 (pl : List (Int × Int × Int × Bool × Bool × (Int × (Int × Int × Int × Int) × Int) × List (Int × Int × Int))) (pbase_Kind : Int) (pbase_N : Int) (pnow : Int) (K : Bool → Prop) (x8j7 : Int) : Prop :=
  ∃ k, atellsl17 pl pbase_Kind pbase_N pnow K k x8j7 0
def atellsF (pl : List (Int × Int × Int × Bool × Bool × (Int × (Int × Int × Int × Int) × Int) × List (Int × Int × Int))) (pbase_Kind : Int) (pbase_N : Int) (pnow : Int) (K : Bool → Prop) : Prop :=
  ((decide ((pl.length : Int) > 10)) = true → atellsj7 pl pbase_Kind pbase_N pnow K 2) ∧ ((decide ((pl.length : Int) > 10)) = false → atellsj7 pl pbase_Kind pbase_N pnow K 0)
set_option maxHeartbeats 4000000 in
set_option maxRecDepth 100000 in
set_option linter.unusedVariables false in
theorem atells_ok {g : Ghost} {apl : Option Addr} {cpl : Nat} (pl : List (Int × Int × Int × Bool × Bool × (Int × (Int × Int × Int × Int) × Int) × List (Int × Int × Int))) (pbase_Kind : Int) (pbase_N : Int) (pnow : Int) (hRpl : Rep g (.slice (.pair (.int .i64) (.pair (.int .i64) (.pair (.int .i64) (.pair (.bool) (.pair (.bool) (.pair (.pair (.int .i64) (.pair (.pair (.int .i64) (.pair (.int .i64) (.pair (.int .i64) (.int .i64)))) (.int .i64))) (.slice (.pair (.int .i64) (.pair (.int .i64) (.int .i64))))))))))) [.slice apl pl.length cpl] pl) (K : Bool → Prop)
    (hF : atellsF pl pbase_Kind pbase_N pnow K) : CallsK Try.prog 9 #[.slice apl pl.length cpl, .agg #[.int .i64 pbase_Kind, .int .i64 pbase_N], .int .i64 pnow] g (fun v => ∃ r0 : Bool, v = .bool r0 ∧ K r0) := by
  refine CallsK.enter 88 [(0, .slice apl pl.length cpl), (1, .agg #[.int .i64 pbase_Kind, .int .i64 pbase_N]), (2, .int .i64 pnow)] Try.func9 rfl (by kernel_rfl) (by kernel_rfl) (by kernel_rfl) fun w0 => ?_
  refine Ok.seq ?_
  refine Ok.region ?_
  refine Ok.op rfl (OpOk.box (v := .agg #[.int .i64 pbase_Kind, .int .i64 pbase_N]) (cs := #[.int .i64 pbase_Kind, .int .i64 pbase_N]) rfl (by kernel_rfl) rfl fun b1 => ?_)
  refine Ok.batch 1 [(0, .slice apl pl.length cpl), (2, .int .i64 pnow), (4, .pointer (some ⟨b1, 0, none⟩))] (by kernel_rfl) ?_
  refine Ok.nil ?_
  refine Ok.thenN ?_
  refine Ok.seq ?_
  refine Ok.region ?_
  refine Ok.op rfl (OpOk.call (v := .bool true) (enters (by kernel_rfl) (fun _ => by kernel_rfl)) (stepped_c ) rfl rfl ?_)
  refine Ok.batch 1 [(0, .slice apl pl.length cpl), (2, .int .i64 pnow), (4, .pointer (some ⟨b1, 0, none⟩)), (7, .bool true)] (by kernel_rfl) ?_
  refine Ok.nil ?_
  refine Ok.thenN ?_
  refine Ok.seq ?_
  refine Ok.region ?_
  refine Ok.batch 1 [(0, .slice apl pl.length cpl), (2, .int .i64 pnow), (4, .pointer (some ⟨b1, 0, none⟩)), (7, .bool true), (8, .int .i64 0)] (by kernel_rfl) ?_
  refine Ok.nil ?_
  refine Ok.thenN ?_
  refine Ok.cut (fun a W => ∃ (x8j7 : Int), StA 88 [(0, .slice apl pl.length cpl), (2, .int .i64 pnow), (4, .pointer (some ⟨b1, 0, none⟩)), (7, .bool true), (8, .int .i64 x8j7)] a ∧ StW w0 [.blk b1 (.cells #[.int .i64 pbase_Kind, .int .i64 pbase_N] 44)] g W ∧ atellsj7 pl pbase_Kind pbase_N pnow K x8j7) ?_ ?_
  ·
    refine Ok.seq ?_
    refine Ok.region ?_
    refine Ok.batch 3 [(0, .slice apl pl.length cpl), (2, .int .i64 pnow), (4, .pointer (some ⟨b1, 0, none⟩)), (7, .bool true), (8, .int .i64 0), (19, .bool (decide ((pl.length : Int) > 10)))] (by kernel_rfl) ?_
    refine Ok.nil ?_
    refine Ok.thenN ?_
    refine Ok.cond (b := decide ((pl.length : Int) > 10)) rfl (fun hc => ?_) (fun hc => ?_)
    · replace hF := hF.1 hc
      refine Ok.region ?_
      refine Ok.batch 1 [(0, .slice apl pl.length cpl), (2, .int .i64 pnow), (4, .pointer (some ⟨b1, 0, none⟩)), (7, .bool true), (8, .int .i64 2)] (by kernel_rfl) ?_
      refine Ok.nil ?_
      refine Ok.thenN ?_
      exact fun a W hA hW => ⟨2, hA.sub (by kernel_rfl), hW, hF⟩
    · replace hF := hF.2 hc
      refine Ok.skip ?_
      refine Ok.thenN ?_
      exact fun a W hA hW => ⟨0, hA.sub (by kernel_rfl), hW, hF⟩
  ·
    rintro a W ⟨x8j7, hA, hW, hF⟩
    refine (?_ : Ok _ _ _ _ _ _) a W hA hW
    clear hA hW
    refine Ok.seq ?_
    refine Ok.seq ?_
    refine Ok.region ?_
    refine Ok.batch 1 [(0, .slice apl pl.length cpl), (2, .int .i64 pnow), (4, .pointer (some ⟨b1, 0, none⟩)), (7, .bool true), (8, .int .i64 x8j7), (9, .int .i64 0)] (by kernel_rfl) ?_
    refine Ok.nil ?_
    refine Ok.thenN ?_
    refine Ok.block ?_
    obtain ⟨k, hF⟩ := hF
    refine Ok.loop (fun k a W => ∃ (x8l17 : Int) (x9l17 : Int), StA 88 [(0, .slice apl pl.length cpl), (2, .int .i64 pnow), (4, .pointer (some ⟨b1, 0, none⟩)), (7, .bool true), (8, .int .i64 x8l17), (9, .int .i64 x9l17)] a ∧ StW w0 [.blk b1 (.cells #[.int .i64 pbase_Kind, .int .i64 pbase_N] 44)] g W ∧ atellsl17 pl pbase_Kind pbase_N pnow K k x8l17 x9l17) k ?_ ?_
    ·
      exact fun a W hA hW => ⟨x8j7, 0, hA.sub (by kernel_rfl), hW, hF⟩
    ·
      rintro k17 a W ⟨x8l17, x9l17, hA, hW, hF⟩
      cases k17 with
      | zero => exact (hF : False).elim
      | succ k17 =>
        refine (?_ : Ok _ _ _ _ _ _) a W hA hW
        clear hA hW
        refine Ok.seq ?_
        refine Ok.cut (fun a W => ∃ (x27j19 : Bool), StA 88 [(0, .slice apl pl.length cpl), (2, .int .i64 pnow), (4, .pointer (some ⟨b1, 0, none⟩)), (7, .bool true), (8, .int .i64 x8l17), (9, .int .i64 x9l17), (27, .bool x27j19)] a ∧ StW w0 [.blk b1 (.cells #[.int .i64 pbase_Kind, .int .i64 pbase_N] 44)] g W ∧ atellsj19 pl pbase_Kind pbase_N pnow K x27j19 x8l17 x9l17 (atellsl17 pl pbase_Kind pbase_N pnow K k17)) ?_ ?_
        ·
          refine Ok.region ?_
          refine Ok.batch 5 [(0, .slice apl pl.length cpl), (2, .int .i64 pnow), (4, .pointer (some ⟨b1, 0, none⟩)), (7, .bool true), (8, .int .i64 x8l17), (9, .int .i64 x9l17), (24, .bool (decide (x9l17 < (pl.length : Int))))] (by kernel_rfl) ?_
          refine Ok.boolAt 24 (decide (x9l17 < (pl.length : Int))) rfl (fun hc => ?_) (fun hc => ?_)
          · replace hF := hF.1 hc
            refine Ok.batch 3 [(0, .slice apl pl.length cpl), (2, .int .i64 pnow), (4, .pointer (some ⟨b1, 0, none⟩)), (7, .bool true), (8, .int .i64 x8l17), (9, .int .i64 x9l17), (27, .bool (x8l17 == 0))] (by kernel_rfl) ?_
            refine Ok.nil ?_
            refine Ok.thenN ?_
            exact fun a W hA hW => ⟨(x8l17 == 0), hA.sub (by kernel_rfl), hW, hF⟩
          · replace hF := hF.2 hc
            refine Ok.batch 3 [(0, .slice apl pl.length cpl), (2, .int .i64 pnow), (4, .pointer (some ⟨b1, 0, none⟩)), (7, .bool true), (8, .int .i64 x8l17), (9, .int .i64 x9l17), (27, .bool false)] (by kernel_rfl) ?_
            refine Ok.nil ?_
            refine Ok.thenN ?_
            exact fun a W hA hW => ⟨false, hA.sub (by kernel_rfl), hW, hF⟩
        ·
          rintro a W ⟨x27j19, hA, hW, hF⟩
          refine (?_ : Ok _ _ _ _ _ _) a W hA hW
          clear hA hW
          refine Ok.cond (b := x27j19) rfl (fun hc => ?_) (fun hc => ?_)
          · replace hF := hF.1 hc
            refine Ok.skip ?_
            refine Ok.thenN ?_
            refine Ok.seq ?_
            refine Ok.block ?_
            refine Ok.region ?_
            refine Ok.batch 2 [(0, .slice apl pl.length cpl), (2, .int .i64 pnow), (4, .pointer (some ⟨b1, 0, none⟩)), (7, .bool true), (9, .int .i64 x9l17), (30, .slice apl pl.length cpl), (31, .int .i64 x9l17)] (by kernel_rfl) ?_
            obtain ⟨e2, h02, he2, hF⟩ := hF
            refine Ok.op rfl (OpOk.indexRo (e := .pair (.int .i64) (.pair (.int .i64) (.pair (.int .i64) (.pair (.bool) (.pair (.bool) (.pair (.pair (.int .i64) (.pair (.pair (.int .i64) (.pair (.int .i64) (.pair (.int .i64) (.int .i64)))) (.int .i64))) (.slice (.pair (.int .i64) (.pair (.int .i64) (.int .i64)))))))))) (i := x9l17) (el := e2) rfl rfl Try.underlying54 (by kernel_rfl) hRpl h02 he2 rfl fun q2 o2 cs2 _ hat2 hr2 => ?_)
            obtain ⟨_, _, rfl, ⟨rfl, _⟩, ⟨_, _, rfl, ⟨rfl, _⟩, ⟨_, _, rfl, ⟨rfl, _⟩, ⟨_, _, rfl, rfl, ⟨_, _, rfl, rfl, ⟨_, _, rfl, ⟨_, _, rfl, ⟨rfl, _⟩, ⟨_, _, rfl, ⟨_, _, rfl, ⟨rfl, _⟩, ⟨_, _, rfl, ⟨rfl, _⟩, ⟨_, _, rfl, ⟨rfl, _⟩, ⟨rfl, _⟩⟩⟩⟩, ⟨rfl, _⟩⟩⟩, ⟨a2_11, c2_11, rfl, hm2_11, hr2_11⟩⟩⟩⟩⟩⟩⟩ := hr2
            have hR2_11 : Rep g (.slice (.pair (.int .i64) (.pair (.int .i64) (.int .i64)))) [.slice a2_11 e2.2.2.2.2.2.2.length c2_11] e2.2.2.2.2.2.2 := ⟨a2_11, c2_11, rfl, hm2_11, hr2_11⟩
            replace hat2 : At g q2 o2 [.int .i64 e2.1, .int .i64 e2.2.1, .int .i64 e2.2.2.1, .bool e2.2.2.2.1, .bool e2.2.2.2.2.1, .int .i64 e2.2.2.2.2.2.1.1, .int .i64 e2.2.2.2.2.2.1.2.1.1, .int .i64 e2.2.2.2.2.2.1.2.1.2.1, .int .i64 e2.2.2.2.2.2.1.2.1.2.2.1, .int .i64 e2.2.2.2.2.2.1.2.1.2.2.2, .int .i64 e2.2.2.2.2.2.1.2.2, .slice a2_11 e2.2.2.2.2.2.2.length c2_11] := hat2
            refine Ok.op rfl (OpOk.step (v := .agg #[.int .i64 e2.1, .int .i64 e2.2.1, .int .i64 e2.2.2.1, .bool e2.2.2.2.1, .bool e2.2.2.2.2.1, .int .i64 e2.2.2.2.2.2.1.1, .int .i64 e2.2.2.2.2.2.1.2.1.1, .int .i64 e2.2.2.2.2.2.1.2.1.2.1, .int .i64 e2.2.2.2.2.2.1.2.1.2.2.1, .int .i64 e2.2.2.2.2.2.1.2.1.2.2.2, .int .i64 e2.2.2.2.2.2.1.2.2, .slice a2_11 e2.2.2.2.2.2.2.length c2_11]) (Yields.loadAggRo 0 12 #[.int .i64 e2.1, .int .i64 e2.2.1, .int .i64 e2.2.2.1, .bool e2.2.2.2.1, .bool e2.2.2.2.2.1, .int .i64 e2.2.2.2.2.2.1.1, .int .i64 e2.2.2.2.2.2.1.2.1.1, .int .i64 e2.2.2.2.2.2.1.2.1.2.1, .int .i64 e2.2.2.2.2.2.1.2.1.2.2.1, .int .i64 e2.2.2.2.2.2.1.2.1.2.2.2, .int .i64 e2.2.2.2.2.2.1.2.2, .slice a2_11 e2.2.2.2.2.2.2.length c2_11] hat2 (by kernel_rfl) Try.underlying40 rfl (by kernel_rfl) (by kernel_rfl) (by kernel_rfl)) rfl rfl ?_)
            refine Ok.op rfl (OpOk.call (v := .int .i64 (faultI e2)) (enters (by kernel_rfl) (fun _ => by kernel_rfl)) (fault_c e2 hR2_11) rfl rfl ?_)
            refine Ok.batch 1 [(0, .slice apl pl.length cpl), (2, .int .i64 pnow), (4, .pointer (some ⟨b1, 0, none⟩)), (7, .bool true), (8, .int .i64 (faultI e2)), (9, .int .i64 x9l17)] (by kernel_rfl) ?_
            refine Ok.nil ?_
            refine Ok.blockN ?_
            refine Ok.thenN ?_
            refine Ok.region ?_
            refine Ok.batch 3 [(0, .slice apl pl.length cpl), (2, .int .i64 pnow), (4, .pointer (some ⟨b1, 0, none⟩)), (7, .bool true), (8, .int .i64 (faultI e2)), (9, .int .i64 (IntKind.wrap .i64 (x9l17 + 1)))] (by kernel_rfl) ?_
            refine Ok.nil ?_
            refine Ok.thenN ?_
            exact fun a W hA hW => ⟨k17, Nat.lt_succ_self _, (faultI e2), (IntKind.wrap .i64 (x9l17 + 1)), hA.sub (by kernel_rfl), hW, hF⟩
          · replace hF := hF.2 hc
            refine Ok.exit ?_
            refine Ok.thenE ?_
            refine Ok.thenE ?_
            refine Ok.blockHit ?_
            refine Ok.thenN ?_
            refine Ok.cut (fun a W => ∃ (x8j28 : Int), StA 88 [(0, .slice apl pl.length cpl), (2, .int .i64 pnow), (4, .pointer (some ⟨b1, 0, none⟩)), (7, .bool true), (8, .int .i64 x8j28)] a ∧ StW w0 [.blk b1 (.cells #[.int .i64 pbase_Kind, .int .i64 pbase_N] 44)] g W ∧ atellsj28 pl pbase_Kind pbase_N pnow K x8j28) ?_ ?_
            ·
              refine Ok.cut (fun a W => ∃ (x44j29 : Bool), StA 88 [(0, .slice apl pl.length cpl), (2, .int .i64 pnow), (4, .pointer (some ⟨b1, 0, none⟩)), (7, .bool true), (8, .int .i64 x8l17), (44, .bool x44j29)] a ∧ StW w0 [.blk b1 (.cells #[.int .i64 pbase_Kind, .int .i64 pbase_N] 44)] g W ∧ atellsj29 pl pbase_Kind pbase_N pnow K x8l17 x44j29) ?_ ?_
              ·
                refine Ok.region ?_
                refine Ok.batch 3 [(0, .slice apl pl.length cpl), (2, .int .i64 pnow), (4, .pointer (some ⟨b1, 0, none⟩)), (7, .bool true), (8, .int .i64 x8l17), (37, .bool (x8l17 == 0))] (by kernel_rfl) ?_
                refine Ok.boolAt 37 ((x8l17 == 0)) rfl (fun hc => ?_) (fun hc => ?_)
                · replace hF := hF.1 hc
                  refine Ok.batch 3 [(0, .slice apl pl.length cpl), (2, .int .i64 pnow), (4, .pointer (some ⟨b1, 0, none⟩)), (7, .bool true), (8, .int .i64 x8l17), (37, .bool true), (40, .bool (decide (pnow < 0)))] (by kernel_rfl) ?_
                  refine Ok.boolAt 40 (decide (pnow < 0)) rfl (fun hc => ?_) (fun hc => ?_)
                  · replace hF := hF.1 hc
                    refine Ok.batch 4 [(0, .slice apl pl.length cpl), (2, .int .i64 pnow), (4, .pointer (some ⟨b1, 0, none⟩)), (7, .bool true), (8, .int .i64 x8l17), (44, .bool true)] (by kernel_rfl) ?_
                    refine Ok.nil ?_
                    refine Ok.thenN ?_
                    exact fun a W hA hW => ⟨true, hA.sub (by kernel_rfl), hW, hF⟩
                  · replace hF := hF.2 hc
                    refine Ok.batch 4 [(0, .slice apl pl.length cpl), (2, .int .i64 pnow), (4, .pointer (some ⟨b1, 0, none⟩)), (7, .bool true), (8, .int .i64 x8l17), (44, .bool (decide (pnow > 200000000000)))] (by kernel_rfl) ?_
                    refine Ok.nil ?_
                    refine Ok.thenN ?_
                    exact fun a W hA hW => ⟨(decide (pnow > 200000000000)), hA.sub (by kernel_rfl), hW, hF⟩
                · replace hF := hF.2 hc
                  refine Ok.batch 7 [(0, .slice apl pl.length cpl), (2, .int .i64 pnow), (4, .pointer (some ⟨b1, 0, none⟩)), (7, .bool true), (8, .int .i64 x8l17), (44, .bool false)] (by kernel_rfl) ?_
                  refine Ok.nil ?_
                  refine Ok.thenN ?_
                  exact fun a W hA hW => ⟨false, hA.sub (by kernel_rfl), hW, hF⟩
              ·
                rintro a W ⟨x44j29, hA, hW, hF⟩
                refine (?_ : Ok _ _ _ _ _ _) a W hA hW
                clear hA hW
                refine Ok.cond (b := x44j29) rfl (fun hc => ?_) (fun hc => ?_)
                · replace hF := hF.1 hc
                  refine Ok.region ?_
                  refine Ok.batch 1 [(0, .slice apl pl.length cpl), (2, .int .i64 pnow), (4, .pointer (some ⟨b1, 0, none⟩)), (7, .bool true), (8, .int .i64 1)] (by kernel_rfl) ?_
                  refine Ok.nil ?_
                  refine Ok.thenN ?_
                  exact fun a W hA hW => ⟨1, hA.sub (by kernel_rfl), hW, hF⟩
                · replace hF := hF.2 hc
                  refine Ok.skip ?_
                  refine Ok.thenN ?_
                  exact fun a W hA hW => ⟨x8l17, hA.sub (by kernel_rfl), hW, hF⟩
            ·
              rintro a W ⟨x8j28, hA, hW, hF⟩
              refine (?_ : Ok _ _ _ _ _ _) a W hA hW
              clear hA hW
              refine Ok.seq ?_
              refine Ok.region ?_
              refine Ok.op rfl (OpOk.step (v := .agg #[.int .i64 pbase_Kind, .int .i64 pbase_N]) (Yields.loadAgg 0 2 #[.int .i64 pbase_Kind, .int .i64 pbase_N] rfl rfl Try.underlying44 rfl (by kernel_rfl) (by kernel_rfl) (by kernel_rfl)) rfl rfl ?_)
              refine Ok.op rfl (OpOk.alloc (z := .agg #[.int .i64 0, .int .i64 0]) (cs := #[.int .i64 0, .int .i64 0]) (by kernel_rfl) (by kernel_rfl) rfl fun b3 => ?_)
              refine Ok.op rfl (OpOk.store (k := 2) (v := .agg #[.int .i64 pbase_Kind, .int .i64 pbase_N]) (H' := [.blk b3 (.cells #[.int .i64 pbase_Kind, .int .i64 pbase_N] 44), .blk b1 (.cells #[.int .i64 pbase_Kind, .int .i64 pbase_N] 44)]) 0 rfl rfl rfl (by kernel_rfl) (by kernel_rfl) (by kernel_rfl) (by kernel_rfl) (by kernel_rfl) ?_)
              refine Ok.nil ?_
              refine Ok.thenN ?_
              refine Ok.seq ?_
              refine Ok.seq ?_
              refine Ok.region ?_
              refine Ok.batch 1 [(0, .slice apl pl.length cpl), (2, .int .i64 pnow), (4, .pointer (some ⟨b1, 0, none⟩)), (7, .bool true), (8, .int .i64 x8j28), (10, .pointer (some ⟨b3, 0, none⟩)), (11, .int .i64 0)] (by kernel_rfl) ?_
              refine Ok.nil ?_
              refine Ok.thenN ?_
              refine Ok.block ?_
              obtain ⟨k, hF⟩ := hF
              refine Ok.loop (fun k a W => ∃ (x11l40 : Int) (yb3_0l40 : Int) (yb3_1l40 : Int), StA 88 [(0, .slice apl pl.length cpl), (2, .int .i64 pnow), (4, .pointer (some ⟨b1, 0, none⟩)), (7, .bool true), (8, .int .i64 x8j28), (10, .pointer (some ⟨b3, 0, none⟩)), (11, .int .i64 x11l40)] a ∧ StW w0 [.blk b3 (.cells #[.int .i64 yb3_0l40, .int .i64 yb3_1l40] 44), .blk b1 (.cells #[.int .i64 pbase_Kind, .int .i64 pbase_N] 44)] g W ∧ atellsl40 pl pbase_Kind pbase_N pnow K x8j28 k x11l40 yb3_0l40 yb3_1l40) k ?_ ?_
              ·
                exact fun a W hA hW => ⟨0, pbase_Kind, pbase_N, hA.sub (by kernel_rfl), hW, hF⟩
              ·
                rintro k40 a W ⟨x11l40, yb3_0l40, yb3_1l40, hA, hW, hF⟩
                cases k40 with
                | zero => exact (hF : False).elim
                | succ k40 =>
                  refine (?_ : Ok _ _ _ _ _ _) a W hA hW
                  clear hA hW
                  refine Ok.seq ?_
                  refine Ok.cut (fun a W => ∃ (x53j42 : Bool), StA 88 [(0, .slice apl pl.length cpl), (2, .int .i64 pnow), (4, .pointer (some ⟨b1, 0, none⟩)), (7, .bool true), (8, .int .i64 x8j28), (10, .pointer (some ⟨b3, 0, none⟩)), (11, .int .i64 x11l40), (53, .bool x53j42)] a ∧ StW w0 [.blk b3 (.cells #[.int .i64 yb3_0l40, .int .i64 yb3_1l40] 44), .blk b1 (.cells #[.int .i64 pbase_Kind, .int .i64 pbase_N] 44)] g W ∧ atellsj42 pl pbase_Kind pbase_N pnow K x8j28 x53j42 x11l40 yb3_0l40 yb3_1l40 (atellsl40 pl pbase_Kind pbase_N pnow K x8j28 k40)) ?_ ?_
                  ·
                    refine Ok.region ?_
                    refine Ok.batch 5 [(0, .slice apl pl.length cpl), (2, .int .i64 pnow), (4, .pointer (some ⟨b1, 0, none⟩)), (7, .bool true), (8, .int .i64 x8j28), (10, .pointer (some ⟨b3, 0, none⟩)), (11, .int .i64 x11l40), (50, .bool (decide (x11l40 < (pl.length : Int))))] (by kernel_rfl) ?_
                    refine Ok.boolAt 50 (decide (x11l40 < (pl.length : Int))) rfl (fun hc => ?_) (fun hc => ?_)
                    · replace hF := hF.1 hc
                      refine Ok.batch 3 [(0, .slice apl pl.length cpl), (2, .int .i64 pnow), (4, .pointer (some ⟨b1, 0, none⟩)), (7, .bool true), (8, .int .i64 x8j28), (10, .pointer (some ⟨b3, 0, none⟩)), (11, .int .i64 x11l40), (53, .bool (x8j28 == 0))] (by kernel_rfl) ?_
                      refine Ok.nil ?_
                      refine Ok.thenN ?_
                      exact fun a W hA hW => ⟨(x8j28 == 0), hA.sub (by kernel_rfl), hW, hF⟩
                    · replace hF := hF.2 hc
                      refine Ok.batch 3 [(0, .slice apl pl.length cpl), (2, .int .i64 pnow), (4, .pointer (some ⟨b1, 0, none⟩)), (7, .bool true), (8, .int .i64 x8j28), (10, .pointer (some ⟨b3, 0, none⟩)), (11, .int .i64 x11l40), (53, .bool false)] (by kernel_rfl) ?_
                      refine Ok.nil ?_
                      refine Ok.thenN ?_
                      exact fun a W hA hW => ⟨false, hA.sub (by kernel_rfl), hW, hF⟩
                  ·
                    rintro a W ⟨x53j42, hA, hW, hF⟩
                    refine (?_ : Ok _ _ _ _ _ _) a W hA hW
                    clear hA hW
                    refine Ok.cond (b := x53j42) rfl (fun hc => ?_) (fun hc => ?_)
                    · replace hF := hF.1 hc
                      refine Ok.skip ?_
                      refine Ok.thenN ?_
                      refine Ok.cut (fun a W => ∃ (yb3_0j47 : Int) (yb3_1j47 : Int), StA 88 [(0, .slice apl pl.length cpl), (2, .int .i64 pnow), (4, .pointer (some ⟨b1, 0, none⟩)), (7, .bool true), (8, .int .i64 x8j28), (10, .pointer (some ⟨b3, 0, none⟩)), (11, .int .i64 x11l40)] a ∧ StW w0 [.blk b3 (.cells #[.int .i64 yb3_0j47, .int .i64 yb3_1j47] 44), .blk b1 (.cells #[.int .i64 pbase_Kind, .int .i64 pbase_N] 44)] g W ∧ atellsj47 x11l40 yb3_0j47 yb3_1j47 (atellsl40 pl pbase_Kind pbase_N pnow K x8j28 k40)) ?_ ?_
                      ·
                        refine Ok.block ?_
                        refine Ok.seq ?_
                        refine Ok.region ?_
                        refine Ok.batch 2 [(0, .slice apl pl.length cpl), (2, .int .i64 pnow), (4, .pointer (some ⟨b1, 0, none⟩)), (7, .bool true), (8, .int .i64 x8j28), (10, .pointer (some ⟨b3, 0, none⟩)), (11, .int .i64 x11l40), (57, .slice apl pl.length cpl), (58, .int .i64 x11l40)] (by kernel_rfl) ?_
                        obtain ⟨e4, h04, he4, hF⟩ := hF
                        refine Ok.op rfl (OpOk.indexRo (e := .pair (.int .i64) (.pair (.int .i64) (.pair (.int .i64) (.pair (.bool) (.pair (.bool) (.pair (.pair (.int .i64) (.pair (.pair (.int .i64) (.pair (.int .i64) (.pair (.int .i64) (.int .i64)))) (.int .i64))) (.slice (.pair (.int .i64) (.pair (.int .i64) (.int .i64)))))))))) (i := x11l40) (el := e4) rfl rfl Try.underlying54 (by kernel_rfl) hRpl h04 he4 rfl fun q4 o4 cs4 _ hat4 hr4 => ?_)
                        obtain ⟨_, _, rfl, ⟨rfl, _⟩, ⟨_, _, rfl, ⟨rfl, _⟩, ⟨_, _, rfl, ⟨rfl, _⟩, ⟨_, _, rfl, rfl, ⟨_, _, rfl, rfl, ⟨_, _, rfl, ⟨_, _, rfl, ⟨rfl, _⟩, ⟨_, _, rfl, ⟨_, _, rfl, ⟨rfl, _⟩, ⟨_, _, rfl, ⟨rfl, _⟩, ⟨_, _, rfl, ⟨rfl, _⟩, ⟨rfl, _⟩⟩⟩⟩, ⟨rfl, _⟩⟩⟩, ⟨a4_11, c4_11, rfl, hm4_11, hr4_11⟩⟩⟩⟩⟩⟩⟩ := hr4
                        have hR4_11 : Rep g (.slice (.pair (.int .i64) (.pair (.int .i64) (.int .i64)))) [.slice a4_11 e4.2.2.2.2.2.2.length c4_11] e4.2.2.2.2.2.2 := ⟨a4_11, c4_11, rfl, hm4_11, hr4_11⟩
                        replace hat4 : At g q4 o4 [.int .i64 e4.1, .int .i64 e4.2.1, .int .i64 e4.2.2.1, .bool e4.2.2.2.1, .bool e4.2.2.2.2.1, .int .i64 e4.2.2.2.2.2.1.1, .int .i64 e4.2.2.2.2.2.1.2.1.1, .int .i64 e4.2.2.2.2.2.1.2.1.2.1, .int .i64 e4.2.2.2.2.2.1.2.1.2.2.1, .int .i64 e4.2.2.2.2.2.1.2.1.2.2.2, .int .i64 e4.2.2.2.2.2.1.2.2, .slice a4_11 e4.2.2.2.2.2.2.length c4_11] := hat4
                        refine Ok.op rfl (OpOk.step (v := .agg #[.int .i64 e4.1, .int .i64 e4.2.1, .int .i64 e4.2.2.1, .bool e4.2.2.2.1, .bool e4.2.2.2.2.1, .int .i64 e4.2.2.2.2.2.1.1, .int .i64 e4.2.2.2.2.2.1.2.1.1, .int .i64 e4.2.2.2.2.2.1.2.1.2.1, .int .i64 e4.2.2.2.2.2.1.2.1.2.2.1, .int .i64 e4.2.2.2.2.2.1.2.1.2.2.2, .int .i64 e4.2.2.2.2.2.1.2.2, .slice a4_11 e4.2.2.2.2.2.2.length c4_11]) (Yields.loadAggRo 0 12 #[.int .i64 e4.1, .int .i64 e4.2.1, .int .i64 e4.2.2.1, .bool e4.2.2.2.1, .bool e4.2.2.2.2.1, .int .i64 e4.2.2.2.2.2.1.1, .int .i64 e4.2.2.2.2.2.1.2.1.1, .int .i64 e4.2.2.2.2.2.1.2.1.2.1, .int .i64 e4.2.2.2.2.2.1.2.1.2.2.1, .int .i64 e4.2.2.2.2.2.1.2.1.2.2.2, .int .i64 e4.2.2.2.2.2.1.2.2, .slice a4_11 e4.2.2.2.2.2.2.length c4_11] hat4 (by kernel_rfl) Try.underlying40 rfl (by kernel_rfl) (by kernel_rfl) (by kernel_rfl)) rfl rfl ?_)
                        refine Ok.batch 1 [(0, .slice apl pl.length cpl), (2, .int .i64 pnow), (4, .pointer (some ⟨b1, 0, none⟩)), (7, .bool true), (8, .int .i64 x8j28), (10, .pointer (some ⟨b3, 0, none⟩)), (11, .int .i64 x11l40), (60, .agg #[.int .i64 e4.1, .int .i64 e4.2.1, .int .i64 e4.2.2.1, .bool e4.2.2.2.1, .bool e4.2.2.2.2.1, .int .i64 e4.2.2.2.2.2.1.1, .int .i64 e4.2.2.2.2.2.1.2.1.1, .int .i64 e4.2.2.2.2.2.1.2.1.2.1, .int .i64 e4.2.2.2.2.2.1.2.1.2.2.1, .int .i64 e4.2.2.2.2.2.1.2.1.2.2.2, .int .i64 e4.2.2.2.2.2.1.2.2, .slice a4_11 e4.2.2.2.2.2.2.length c4_11]), (61, .int .i64 pnow)] (by kernel_rfl) ?_
                        obtain ⟨hp, hF⟩ := hF
                        refine Ok.op rfl (OpOk.call (v := .tuple #[.agg #[.int .i64 (((rtellR e4 pnow).1).1), .int .i64 (((rtellR e4 pnow).1).2)], .bool ((rtellR e4 pnow).2)]) (enters (by kernel_rfl) (fun _ => by kernel_rfl)) (rtell_c e4 pnow hR4_11 hp) rfl rfl ?_)
                        refine Ok.batch 3 [(0, .slice apl pl.length cpl), (2, .int .i64 pnow), (4, .pointer (some ⟨b1, 0, none⟩)), (7, .bool true), (8, .int .i64 x8j28), (10, .pointer (some ⟨b3, 0, none⟩)), (11, .int .i64 x11l40), (63, .agg #[.int .i64 (((rtellR e4 pnow).1).1), .int .i64 (((rtellR e4 pnow).1).2)]), (64, .bool ((rtellR e4 pnow).2))] (by kernel_rfl) ?_
                        refine Ok.op rfl (OpOk.alloc (z := .agg #[.int .i64 0, .int .i64 0]) (cs := #[.int .i64 0, .int .i64 0]) (by kernel_rfl) (by kernel_rfl) rfl fun b5 => ?_)
                        refine Ok.op rfl (OpOk.store (k := 2) (v := .agg #[.int .i64 (((rtellR e4 pnow).1).1), .int .i64 (((rtellR e4 pnow).1).2)]) (H' := [.blk b5 (.cells #[.int .i64 (((rtellR e4 pnow).1).1), .int .i64 (((rtellR e4 pnow).1).2)] 44), .blk b3 (.cells #[.int .i64 yb3_0l40, .int .i64 yb3_1l40] 44), .blk b1 (.cells #[.int .i64 pbase_Kind, .int .i64 pbase_N] 44)]) 0 rfl rfl rfl (by kernel_rfl) (by kernel_rfl) (by kernel_rfl) (by kernel_rfl) (by kernel_rfl) ?_)
                        refine Ok.batch 1 [(0, .slice apl pl.length cpl), (2, .int .i64 pnow), (4, .pointer (some ⟨b1, 0, none⟩)), (7, .bool true), (8, .int .i64 x8j28), (10, .pointer (some ⟨b3, 0, none⟩)), (11, .int .i64 x11l40), (12, .pointer (some ⟨b5, 0, none⟩)), (13, .bool ((rtellR e4 pnow).2))] (by kernel_rfl) ?_
                        refine Ok.nil ?_
                        refine Ok.thenN ?_
                        refine Ok.seq ?_
                        refine Ok.region ?_
                        refine Ok.batch 1 [(0, .slice apl pl.length cpl), (2, .int .i64 pnow), (4, .pointer (some ⟨b1, 0, none⟩)), (7, .bool true), (8, .int .i64 x8j28), (10, .pointer (some ⟨b3, 0, none⟩)), (11, .int .i64 x11l40), (12, .pointer (some ⟨b5, 0, none⟩)), (65, .bool ((rtellR e4 pnow).2))] (by kernel_rfl) ?_
                        refine Ok.nil ?_
                        refine Ok.thenN ?_
                        refine Ok.cond (b := (rtellR e4 pnow).2) rfl (fun hc => ?_) (fun hc => ?_)
                        · replace hF := hF.1 hc
                          refine Ok.region ?_
                          refine Ok.op rfl (OpOk.step (v := .agg #[.int .i64 (((rtellR e4 pnow).1).1), .int .i64 (((rtellR e4 pnow).1).2)]) (Yields.loadAgg 0 2 #[.int .i64 (((rtellR e4 pnow).1).1), .int .i64 (((rtellR e4 pnow).1).2)] rfl rfl Try.underlying44 rfl (by kernel_rfl) (by kernel_rfl) (by kernel_rfl)) rfl rfl ?_)
                          refine Ok.op rfl (OpOk.store (k := 2) (v := .agg #[.int .i64 (((rtellR e4 pnow).1).1), .int .i64 (((rtellR e4 pnow).1).2)]) (H' := [.blk b5 (.cells #[.int .i64 (((rtellR e4 pnow).1).1), .int .i64 (((rtellR e4 pnow).1).2)] 44), .blk b3 (.cells #[.int .i64 (((rtellR e4 pnow).1).1), .int .i64 (((rtellR e4 pnow).1).2)] 44), .blk b1 (.cells #[.int .i64 pbase_Kind, .int .i64 pbase_N] 44)]) 1 rfl rfl rfl (by kernel_rfl) (by kernel_rfl) (by kernel_rfl) (by kernel_rfl) (by kernel_rfl) ?_)
                          refine Ok.nil ?_
                          refine Ok.blockN ?_
                          refine Ok.thenN ?_
                          exact fun a W hA hW => ⟨(((rtellR e4 pnow).1).1), (((rtellR e4 pnow).1).2), hA.sub (by kernel_rfl), hW.sub (.cons _ (.cons_cons _ (.cons_cons _ .slnil))), hF⟩
                        · replace hF := hF.2 hc
                          refine Ok.skip ?_
                          refine Ok.blockN ?_
                          refine Ok.thenN ?_
                          exact fun a W hA hW => ⟨yb3_0l40, yb3_1l40, hA.sub (by kernel_rfl), hW.sub (.cons _ (.cons_cons _ (.cons_cons _ .slnil))), hF⟩
                      ·
                        rintro a W ⟨yb3_0j47, yb3_1j47, hA, hW, hF⟩
                        refine (?_ : Ok _ _ _ _ _ _) a W hA hW
                        clear hA hW
                        refine Ok.region ?_
                        refine Ok.batch 3 [(0, .slice apl pl.length cpl), (2, .int .i64 pnow), (4, .pointer (some ⟨b1, 0, none⟩)), (7, .bool true), (8, .int .i64 x8j28), (10, .pointer (some ⟨b3, 0, none⟩)), (11, .int .i64 (IntKind.wrap .i64 (x11l40 + 1)))] (by kernel_rfl) ?_
                        refine Ok.nil ?_
                        refine Ok.thenN ?_
                        exact fun a W hA hW => ⟨k40, Nat.lt_succ_self _, (IntKind.wrap .i64 (x11l40 + 1)), yb3_0j47, yb3_1j47, hA.sub (by kernel_rfl), hW, hF⟩
                    · replace hF := hF.2 hc
                      refine Ok.exit ?_
                      refine Ok.thenE ?_
                      refine Ok.thenE ?_
                      refine Ok.blockHit ?_
                      refine Ok.thenN ?_
                      refine Ok.cut (fun a W => ∃ (yb3_0j57 : Int) (yb3_1j57 : Int), StA 88 [(0, .slice apl pl.length cpl), (2, .int .i64 pnow), (4, .pointer (some ⟨b1, 0, none⟩)), (7, .bool true), (8, .int .i64 x8j28), (10, .pointer (some ⟨b3, 0, none⟩))] a ∧ StW w0 [.blk b3 (.cells #[.int .i64 yb3_0j57, .int .i64 yb3_1j57] 44), .blk b1 (.cells #[.int .i64 pbase_Kind, .int .i64 pbase_N] 44)] g W ∧ atellsj57 pl pbase_Kind pbase_N pnow K x8j28 yb3_0j57 yb3_1j57) ?_ ?_
                      ·
                        refine Ok.seq ?_
                        refine Ok.region ?_
                        refine Ok.batch 2 [(0, .slice apl pl.length cpl), (2, .int .i64 pnow), (4, .pointer (some ⟨b1, 0, none⟩)), (7, .bool true), (8, .int .i64 x8j28), (10, .pointer (some ⟨b3, 0, none⟩)), (68, .bool (x8j28 != 0))] (by kernel_rfl) ?_
                        refine Ok.nil ?_
                        refine Ok.thenN ?_
                        refine Ok.cond (b := (x8j28 != 0)) rfl (fun hc => ?_) (fun hc => ?_)
                        · replace hF := hF.1 hc
                          refine Ok.region ?_
                          refine Ok.batch 1 [(0, .slice apl pl.length cpl), (2, .int .i64 pnow), (4, .pointer (some ⟨b1, 0, none⟩)), (7, .bool true), (8, .int .i64 x8j28), (10, .pointer (some ⟨b3, 0, none⟩)), (69, .agg #[.int .i64 0, .int .i64 0])] (by kernel_rfl) ?_
                          refine Ok.op rfl (OpOk.store (k := 2) (v := .agg #[.int .i64 0, .int .i64 0]) (H' := [.blk b3 (.cells #[.int .i64 0, .int .i64 0] 44), .blk b1 (.cells #[.int .i64 pbase_Kind, .int .i64 pbase_N] 44)]) 0 rfl rfl rfl (by kernel_rfl) (by kernel_rfl) (by kernel_rfl) (by kernel_rfl) (by kernel_rfl) ?_)
                          refine Ok.nil ?_
                          refine Ok.thenN ?_
                          exact fun a W hA hW => ⟨0, 0, hA.sub (by kernel_rfl), hW, hF⟩
                        · replace hF := hF.2 hc
                          refine Ok.skip ?_
                          refine Ok.thenN ?_
                          exact fun a W hA hW => ⟨yb3_0l40, yb3_1l40, hA.sub (by kernel_rfl), hW, hF⟩
                      ·
                        rintro a W ⟨yb3_0j57, yb3_1j57, hA, hW, hF⟩
                        refine (?_ : Ok _ _ _ _ _ _) a W hA hW
                        clear hA hW
                        refine Ok.seq ?_
                        refine Ok.region ?_
                        refine Ok.batch 1 [(2, .int .i64 pnow), (4, .pointer (some ⟨b1, 0, none⟩)), (7, .bool true), (8, .int .i64 x8j28), (10, .pointer (some ⟨b3, 0, none⟩)), (71, .slice apl pl.length cpl)] (by kernel_rfl) ?_
                        refine Ok.op rfl (OpOk.step (v := .agg #[.int .i64 pbase_Kind, .int .i64 pbase_N]) (Yields.loadAgg 1 2 #[.int .i64 pbase_Kind, .int .i64 pbase_N] rfl rfl Try.underlying44 rfl (by kernel_rfl) (by kernel_rfl) (by kernel_rfl)) rfl rfl ?_)
                        refine Ok.batch 1 [(7, .bool true), (8, .int .i64 x8j28), (10, .pointer (some ⟨b3, 0, none⟩)), (71, .slice apl pl.length cpl), (72, .agg #[.int .i64 pbase_Kind, .int .i64 pbase_N]), (73, .int .i64 pnow)] (by kernel_rfl) ?_
                        refine Ok.op rfl (OpOk.call (v := .tuple #[.agg #[.int .i64 (((atR pl (pbase_Kind, pbase_N) pnow).1).1), .int .i64 (((atR pl (pbase_Kind, pbase_N) pnow).1).2)], .int .i64 ((atR pl (pbase_Kind, pbase_N) pnow).2)]) (enters (by kernel_rfl) (fun _ => by kernel_rfl)) (atat_c pl (pbase_Kind, pbase_N) pnow hRpl) rfl rfl ?_)
                        refine Ok.batch 3 [(7, .bool true), (8, .int .i64 x8j28), (10, .pointer (some ⟨b3, 0, none⟩)), (75, .agg #[.int .i64 (((atR pl (pbase_Kind, pbase_N) pnow).1).1), .int .i64 (((atR pl (pbase_Kind, pbase_N) pnow).1).2)]), (76, .int .i64 ((atR pl (pbase_Kind, pbase_N) pnow).2))] (by kernel_rfl) ?_
                        refine Ok.op rfl (OpOk.alloc (z := .agg #[.int .i64 0, .int .i64 0]) (cs := #[.int .i64 0, .int .i64 0]) (by kernel_rfl) (by kernel_rfl) rfl fun b6 => ?_)
                        refine Ok.op rfl (OpOk.store (k := 2) (v := .agg #[.int .i64 (((atR pl (pbase_Kind, pbase_N) pnow).1).1), .int .i64 (((atR pl (pbase_Kind, pbase_N) pnow).1).2)]) (H' := [.blk b6 (.cells #[.int .i64 (((atR pl (pbase_Kind, pbase_N) pnow).1).1), .int .i64 (((atR pl (pbase_Kind, pbase_N) pnow).1).2)] 44), .blk b3 (.cells #[.int .i64 yb3_0j57, .int .i64 yb3_1j57] 44), .blk b1 (.cells #[.int .i64 pbase_Kind, .int .i64 pbase_N] 44)]) 0 rfl rfl rfl (by kernel_rfl) (by kernel_rfl) (by kernel_rfl) (by kernel_rfl) (by kernel_rfl) ?_)
                        refine Ok.batch 1 [(7, .bool true), (8, .int .i64 x8j28), (10, .pointer (some ⟨b3, 0, none⟩)), (14, .pointer (some ⟨b6, 0, none⟩)), (15, .int .i64 ((atR pl (pbase_Kind, pbase_N) pnow).2))] (by kernel_rfl) ?_
                        refine Ok.nil ?_
                        refine Ok.thenN ?_
                        refine Ok.cut (fun a W => ∃ (x6j65 : Bool), StA 88 [(6, .bool x6j65)] a ∧ StW w0 [] g W ∧ atellsj65 K x6j65) ?_ ?_
                        ·
                          refine Ok.region ?_
                          refine Ok.batch 2 [(8, .int .i64 x8j28), (10, .pointer (some ⟨b3, 0, none⟩)), (14, .pointer (some ⟨b6, 0, none⟩)), (15, .int .i64 ((atR pl (pbase_Kind, pbase_N) pnow).2)), (78, .bool true)] (by kernel_rfl) ?_
                          refine Ok.boolAt 78 (true) rfl (fun hc => ?_) (fun hc => ?_)
                          · replace hF := hF.1 hc
                            refine Ok.opYes (j := 1) (d := 78) (want := true) (b := true) rfl (by kernel_rfl) (by kernel_rfl) rfl (OpOk.step (v := .agg #[.int .i64 (((atR pl (pbase_Kind, pbase_N) pnow).1).1), .int .i64 (((atR pl (pbase_Kind, pbase_N) pnow).1).2)]) (Yields.loadAgg 0 2 #[.int .i64 (((atR pl (pbase_Kind, pbase_N) pnow).1).1), .int .i64 (((atR pl (pbase_Kind, pbase_N) pnow).1).2)] rfl rfl Try.underlying44 rfl (by kernel_rfl) (by kernel_rfl) (by kernel_rfl)) rfl rfl ?_)
                            refine Ok.opYes (j := 1) (d := 78) (want := true) (b := true) rfl (by kernel_rfl) (by kernel_rfl) rfl (OpOk.step (v := .agg #[.int .i64 yb3_0j57, .int .i64 yb3_1j57]) (Yields.loadAgg 1 2 #[.int .i64 yb3_0j57, .int .i64 yb3_1j57] rfl rfl Try.underlying44 rfl (by kernel_rfl) (by kernel_rfl) (by kernel_rfl)) rfl rfl ?_)
                            refine Ok.opYes (j := 1) (d := 78) (want := true) (b := true) rfl (by kernel_rfl) (by kernel_rfl) rfl (OpOk.step (v := .bool ([((((atR pl (pbase_Kind, pbase_N) pnow).1).1) == yb3_0j57), ((((atR pl (pbase_Kind, pbase_N) pnow).1).2) == yb3_1j57)].all id)) (Yields.eqAgg (k := 2) rfl rfl (.struct (k := 1) Try.underlying44 (by kernel_rfl) ⟨by decide, ⟨.int .i64 (((atR pl (pbase_Kind, pbase_N) pnow).1).1), .int .i64 yb3_0j57, fun _ => by kernel_rfl, fun _ => by kernel_rfl, EqR.mono (k := 1) (.int Try.underlying3) (by decide)⟩, ⟨by decide, ⟨.int .i64 (((atR pl (pbase_Kind, pbase_N) pnow).1).2), .int .i64 yb3_1j57, fun _ => by kernel_rfl, fun _ => by kernel_rfl, EqR.mono (k := 1) (.int Try.underlying3) (by decide)⟩, trivial⟩⟩) rfl (by kernel_rfl)) rfl rfl ?_)
                            refine Ok.batch 2 [(8, .int .i64 x8j28), (15, .int .i64 ((atR pl (pbase_Kind, pbase_N) pnow).2)), (83, .bool ([((((atR pl (pbase_Kind, pbase_N) pnow).1).1) == yb3_0j57), ((((atR pl (pbase_Kind, pbase_N) pnow).1).2) == yb3_1j57)].all id))] (by kernel_rfl) ?_
                            refine Ok.boolAt 83 (([((((atR pl (pbase_Kind, pbase_N) pnow).1).1) == yb3_0j57), ((((atR pl (pbase_Kind, pbase_N) pnow).1).2) == yb3_1j57)].all id)) rfl (fun hc => ?_) (fun hc => ?_)
                            · replace hF := hF.1 hc
                              refine Ok.batch 5 [(6, .bool (x8j28 == ((atR pl (pbase_Kind, pbase_N) pnow).2)))] (by kernel_rfl) ?_
                              refine Ok.nil ?_
                              refine Ok.thenN ?_
                              exact fun a W hA hW => ⟨(x8j28 == ((atR pl (pbase_Kind, pbase_N) pnow).2)), hA.sub (by kernel_rfl), hW.sub (.cons _ (.cons _ (.cons _ .slnil))), hF⟩
                            · replace hF := hF.2 hc
                              refine Ok.batch 5 [(6, .bool false)] (by kernel_rfl) ?_
                              refine Ok.nil ?_
                              refine Ok.thenN ?_
                              exact fun a W hA hW => ⟨false, hA.sub (by kernel_rfl), hW.sub (.cons _ (.cons _ (.cons _ .slnil))), hF⟩
                          · replace hF := hF.2 hc
                            refine Ok.batch 10 [(6, .bool false)] (by kernel_rfl) ?_
                            refine Ok.nil ?_
                            refine Ok.thenN ?_
                            exact fun a W hA hW => ⟨false, hA.sub (by kernel_rfl), hW.sub (.cons _ (.cons _ (.cons _ .slnil))), hF⟩
                        ·
                          rintro a W ⟨x6j65, hA, hW, hF⟩
                          refine (?_ : Ok _ _ _ _ _ _) a W hA hW
                          clear hA hW
                          refine Ok.ret ?_
                          exact Ok.res1 (.inl rfl) rfl (.tmp rfl) ⟨x6j65, rfl, hF⟩
theorem rtellR_one {a : A} {now : Int} (h : tellB a now = true) : (rtellR a now).1 = tellV a now := by
  unfold rtellR; rw [if_pos h]
theorem atells_57 {l : List A} {base v : V} {now e : Int} (he : e = rightI l now) (hv : v = (atR l base now).1) : atellsj57 l base.1 base.2 now (fun r => r = true) e v.1 v.2 := by
  have h2 : (atR l base now).2 = rightI l now := by
    unfold atR; split
    · rename_i h; rw [h]
    · rfl
  have ee : (atR l (base.1, base.2) now) = atR l base now := rfl
  subst hv
  unfold atellsj57 atellsj65
  rw [ee, h2, he]
  refine ⟨fun _ => ⟨fun _ => by simp, fun h => ?_⟩, fun h => (by cases h)⟩
  simp at h
theorem atells_l40 {l : List A} {base : V} {now : Int} (hr : rightI l now = 0) : ∀ (n k : Nat) (b : V), l.length < n + k → k ≤ l.length → foldV (l.drop k) b now = foldV l base now →
    atellsl40 l base.1 base.2 now (fun r => r = true) 0 n k b.1 b.2 := by
  obtain ⟨hl, hf, hn0, hn1⟩ := right_zero hr
  intro n
  induction n with
  | zero => intro k b h1 h2; omega
  | succ n ih =>
    intro k b h1 h2 hK
    show atellsl40b l base.1 base.2 now _ 0 k b.1 b.2 _
    unfold atellsl40b atellsj42 atellsj47
    rw [show (k : Int).toNat = k by omega, i64_in _ (by omega), show (k : Int) + 1 = ((k + 1 : Nat) : Int) by omega]
    refine ⟨fun h => ⟨fun _ => ?_, fun h => (by cases h)⟩, fun h => ⟨fun h => (by cases h), fun _ => ⟨fun h => (by cases h), fun _ => ?_⟩⟩⟩
    · have h := of_decide_eq_true h
      obtain ⟨x, hx⟩ := get_some (l := l) (i := k) (by omega)
      rw [fold_step hx] at hK
      refine ⟨x, by omega, hx, ⟨first_get hf hx, hn0, hn1⟩, fun h3 => ?_, fun h3 => ?_⟩
      · have h3 : tellB x now = true := h3
        rw [if_pos h3] at hK
        rw [rtellR_one h3]
        exact ih (k + 1) (tellV x now) (by omega) (by omega) hK
      · have h3 : tellB x now = false := h3
        rw [if_neg (by rw [h3]; simp)] at hK
        exact ih (k + 1) b (by omega) (by omega) hK
    · have h := of_decide_eq_false h
      rw [fold_end (by omega)] at hK
      refine atells_57 hr.symm ?_
      unfold atR; rw [if_pos hr]; exact hK
theorem atells_28 {l : List A} {base : V} {now e : Int} (he : e = rightI l now) : atellsj28 l base.1 base.2 now (fun r => r = true) e := by
  unfold atellsj28
  by_cases h : e = 0
  · subst h
    exact ⟨l.length + 1, atells_l40 he.symm (l.length + 1) 0 base (by omega) (by omega) (by rw [List.drop_zero])⟩
  · have e1 : (e == 0) = false := by simpa using h
    have e2 : (e != 0) = true := by simpa using h
    have key : ∀ C, atellsj42 l base.1 base.2 now (fun r => r = true) e false 0 base.1 base.2 C := fun C => by
      unfold atellsj42
      rw [e2]
      refine ⟨fun h => (by cases h), fun _ => ⟨fun _ => ?_, fun h => (by cases h)⟩⟩
      refine atells_57 (v := (0, 0)) he ?_
      unfold atR; rw [if_neg (by rw [← he]; exact h)]
    refine ⟨1, ?_⟩
    show atellsl40b l base.1 base.2 now _ e 0 base.1 base.2 _
    unfold atellsl40b
    rw [e1]
    exact ⟨fun _ => key _, fun _ => key _⟩
theorem atells_29 {l : List A} {base : V} {now e : Int} {b : Bool} (ht : b = true → 1 = rightI l now) (hf : b = false → e = rightI l now) : atellsj29 l base.1 base.2 now (fun r => r = true) e b := by
  unfold atellsj29
  exact ⟨fun h => atells_28 (ht h), fun h => atells_28 (hf h)⟩
theorem atells_stop {l : List A} {base : V} {now e i : Int} {C : Int → Int → Prop} (he : ¬ e = 0) (hr : e = rightI l now) : atellsl17b l base.1 base.2 now (fun r => r = true) e i C := by
  have e1 : (e == 0) = false := by simpa using he
  have key : atellsj19 l base.1 base.2 now (fun r => r = true) false e i C := by
    unfold atellsj19
    rw [e1]
    exact ⟨fun h => (by cases h), fun _ => ⟨fun h => (by cases h), fun _ => atells_29 (fun h => (by cases h)) (fun _ => hr)⟩⟩
  unfold atellsl17b
  rw [e1]
  exact ⟨fun _ => key, fun _ => key⟩
theorem right_eq {l : List A} {now : Int} (hl : l.length ≤ 10) : rightI l now = if ¬ firstFault l = 0 then firstFault l else if inB now 0 200000000000 = true then 0 else 1 := by
  unfold rightI; rw [if_neg (by omega)]
theorem atells_l17 {l : List A} {base : V} {now : Int} (hl : l.length ≤ 10) : ∀ (n k : Nat), l.length < n + k → k ≤ l.length → firstFault (l.drop k) = firstFault l → atellsl17 l base.1 base.2 now (fun r => r = true) (n + 1) 0 k := by
  intro n
  induction n with
  | zero => intro k h1 h2; omega
  | succ n ih =>
    intro k h1 h2 hK
    show atellsl17b l base.1 base.2 now _ 0 k _
    unfold atellsl17b atellsj19
    rw [show (k : Int).toNat = k by omega, i64_in _ (by omega), show (k : Int) + 1 = ((k + 1 : Nat) : Int) by omega]
    refine ⟨fun h => ⟨fun _ => ?_, fun h => (by cases h)⟩, fun h => ⟨fun h => (by cases h), fun _ => ⟨fun _ => ⟨fun h2 => ?_, fun h2 => ?_⟩, fun h => (by cases h)⟩⟩⟩
    · have h := of_decide_eq_true h
      obtain ⟨x, hx⟩ := get_some (l := l) (i := k) (by omega)
      rw [first_step hx] at hK
      refine ⟨x, by omega, hx, ?_⟩
      by_cases hx0 : faultI x = 0
      · rw [if_pos hx0] at hK
        rw [hx0]
        exact ih (k + 1) (by omega) (by omega) hK
      · rw [if_neg hx0] at hK
        refine atells_stop hx0 ?_
        rw [right_eq hl, if_pos (by rw [← hK]; exact hx0)]; exact hK
    all_goals
      have h := of_decide_eq_false h
      have h0 : firstFault l = 0 := by rw [← hK]; exact first_end (by omega)
      have e := right_eq (now := now) hl
      rw [if_neg (by simpa using h0)] at e
    · have h2 := of_decide_eq_true h2
      rw [if_neg (by rw [inB_false.2 (by omega)]; simp)] at e
      exact atells_29 (fun _ => e.symm) (fun h => (by cases h))
    · have h2 := of_decide_eq_false h2
      refine atells_29 (fun h3 => ?_) (fun h3 => ?_)
      · have h3 := of_decide_eq_true h3
        rw [if_neg (by rw [inB_false.2 (by omega)]; simp)] at e; exact e.symm
      · have h3 := of_decide_eq_false h3
        rw [if_pos (inB_true.2 (by omega))] at e; exact e.symm
theorem atells_F (l : List A) (base : V) (now : Int) : atellsF l base.1 base.2 now (fun r => r = true) := by
  unfold atellsF atellsj7
  refine ⟨fun h => ⟨1, ?_⟩, fun h => ⟨l.length + 2, ?_⟩⟩
  · have h := of_decide_eq_true h
    refine atells_stop (by omega) ?_
    unfold rightI; rw [if_pos (by omega)]
  · have h := of_decide_eq_false h
    exact atells_l17 (by omega) (l.length + 1) 0 (by omega) (by omega) (by rw [List.drop_zero])
set_option linter.unusedVariables false in
theorem atells_c {g : Ghost} (xl : List (Int × Int × Int × Bool × Bool × (Int × (Int × Int × Int × Int) × Int) × List (Int × Int × Int))) {a0 : Option Addr} {c0 : Nat} (xbase : Int × Int) (xnow : Int) (hR0 : Rep g (.slice (.pair (.int .i64) (.pair (.int .i64) (.pair (.int .i64) (.pair (.bool) (.pair (.bool) (.pair (.pair (.int .i64) (.pair (.pair (.int .i64) (.pair (.int .i64) (.pair (.int .i64) (.int .i64)))) (.int .i64))) (.slice (.pair (.int .i64) (.pair (.int .i64) (.int .i64))))))))))) [.slice a0 xl.length c0] xl) : CallsG Try.prog 9 #[.slice a0 xl.length c0, .agg #[.int .i64 xbase.1, .int .i64 xbase.2], .int .i64 xnow] g (.bool true) :=
  (atells_ok xl xbase.1 xbase.2 xnow hR0 _ (atells_F xl xbase xnow)).gives (by rintro _ ⟨_, rfl, rfl⟩; rfl)
end Go.Proofs.Ytejkloinamgpaaa.An
