/-
  MatchNths: match.Nth tells of any three numbers just what the reference's counting tells; no condition.
-/
import Derived.Test.YtejkloinamgpaaaRows
import Derived.WalkKit
import Derived.ProofKit
import Derived.OpenShut
import Derived.Lib.Hide
namespace Go.Proofs.Ytejkloinamgpaaa.matchNths
open Go.ChangeShapes Go.WideShapes Go.ChangeAt Go.RowKit

def nthB (a b i : Int) : Bool := if a = 0 then i == b else ((i - b).tmod a == 0) && decide (0 ≤ (i - b).tdiv a)
theorem tdiv_bd (x a : Int) (n : Nat) (h : -n ≤ x) (h' : x ≤ n) : -(n : Int) ≤ x.tdiv a ∧ x.tdiv a ≤ n := by
  have h1 := Int.natAbs_tdiv x a
  have h2 := Nat.div_le_self x.natAbs a.natAbs
  have h3 : x.natAbs.div a.natAbs = x.natAbs / a.natAbs := rfl
  omega
theorem nthB_ne {a b i : Int} (h : ¬ a = 0) : nthB a b i = (((i - b).tmod a == 0) && decide (0 ≤ (i - b).tdiv a)) := if_neg h
set_option maxHeartbeats 400000 in
theorem nth_in (a b i : Int) (w : World) (ha : -1000 ≤ a) (ha' : a ≤ 1000) (hb : -1000 ≤ b) (hb' : b ≤ 1000) (hi : 1 ≤ i) (hi' : i ≤ 200) : Calls Try.prog 12 #[.int .i64 a, .int .i64 b, .int .i64 i] w fun e w' => e = .returned (.bool (nthB a b i)) ∧ w = w' := by
  by_cases h0 : a = 0
  · have e0 : (a == 0) = true := by simp [h0]
    go_enter Try.func12, Try.ntmps12
    go_wp2
    all_goals (go_ret; exact ⟨by simp [nthB], rfl⟩)
  · obtain ⟨d1, d2⟩ := tdiv_bd (i - b) a 2000 (by omega) (by omega)
    go_enter Try.func12, Try.ntmps12
    go_wp2
    all_goals (go_ret; exact ⟨by simp_all [nthB], rfl⟩)
theorem nth_out (a b i : Int) (w : World) (h : a < -1000 ∨ b < -1000 ∨ 1000 < a ∨ 1000 < b ∨ i < 1 ∨ 200 < i) : Calls Try.prog 12 #[.int .i64 a, .int .i64 b, .int .i64 i] w fun e w' => e = .returned (.bool false) ∧ w = w' := by
    go_enter Try.func12, Try.ntmps12
    go_wp2
    all_goals (go_ret; exact ⟨by first | rfl | omega, rfl⟩)
theorem is_out (a b i : Int) (w : World) (h : a < -1000 ∨ b < -1000 ∨ 1000 < a ∨ 1000 < b ∨ i < 1 ∨ 200 < i) : Calls Try.prog 13 #[.int .i64 a, .int .i64 b, .int .i64 i] w fun e w' => e = .returned (.bool false) ∧ w = w' := by
    go_enter Try.func13, Try.ntmps13
    go_wp2
    all_goals (go_ret; exact ⟨by first | rfl | omega, rfl⟩)
def isB (a b i : Int) : Bool := (List.range 1301).any fun k => a * k + b == i
theorem mul_bd (a k : Int) (ha : -1000 ≤ a) (ha' : a ≤ 1000) (hk : 0 ≤ k) (hk' : k ≤ 1300) : -1300000 ≤ a * k ∧ a * k ≤ 1300000 := by
  have h1 := Int.mul_le_mul_of_nonneg_right ha hk
  have h2 := Int.mul_le_mul_of_nonneg_right ha' hk
  omega
theorem isB_true {a b i : Int} (k : Nat) (hk : k ≤ 1300) (h : a * k + b = i) : isB a b i = true := by
  unfold isB; rw [List.any_eq_true]; exact ⟨k, by simp; omega, by simp [h]⟩
theorem isB_false {a b i : Int} (h : ∀ j : Nat, j < 1301 → ¬ a * j + b = i) : isB a b i = false := by
  unfold isB; rw [List.any_eq_false]; intro k hk; simp at hk; simpa using h k hk
theorem same (a b i : Int) (ha : -1000 ≤ a) (ha' : a ≤ 1000) (hb : -1000 ≤ b) (hb' : b ≤ 1000) (hi : 1 ≤ i) (hi' : i ≤ 200) : isB a b i = nthB a b i := by
  by_cases h0 : a = 0
  · subst h0
    by_cases e : i = b
    · rw [isB_true 0 (by omega) (by omega)]; simp [nthB, e]
    · rw [isB_false (fun j _ => by omega)]; simp [nthB, e]
  · rw [nthB_ne h0]
    obtain ⟨d1, d2⟩ := tdiv_bd (i - b) a 1200 (by omega) (by omega)
    have hq := Int.mul_tdiv_add_tmod (i - b) a
    by_cases hm : (i - b).tmod a = 0 ∧ 0 ≤ (i - b).tdiv a
    · obtain ⟨hm, hp⟩ := hm
      rw [isB_true ((i - b).tdiv a).toNat (by omega) (by rw [Int.toNat_of_nonneg hp]; omega)]
      simp [hm, hp]
    · rw [isB_false]
      · simp; intro h; exact Int.lt_of_not_ge fun hp => hm ⟨h, hp⟩
      · intro j _ hj
        have e : i - b = a * j := by omega
        apply hm
        rw [e, Int.mul_tmod_right, Int.mul_tdiv_cancel_left _ h0]
        omega
theorem is_in (a b i : Int) (w : World) (ha : -1000 ≤ a) (ha' : a ≤ 1000) (hb : -1000 ≤ b) (hb' : b ≤ 1000) (hi : 1 ≤ i) (hi' : i ≤ 200) : Calls Try.prog 13 #[.int .i64 a, .int .i64 b, .int .i64 i] w fun e w' => e = .returned (.bool (isB a b i)) ∧ w = w' := by
    go_enter Try.func13, Try.ntmps13
    go_wp2
    go_loop [7] (fun t => ∃ k : Nat, k ≤ 1301 ∧ t = .int .i64 k ∧ ∀ j : Nat, j < k → ¬ a * j + b = i) (fun t => 1301 - (intOf t).toNat)
    case atStart => exact ⟨0, by omega, rfl, fun j hj => by omega⟩
    case round =>
      obtain ⟨k, hk, rfl, hno⟩ := hrel
      have HN := Lib.hid hno
      clear hno
      by_cases hlt : k ≤ 1300
      · obtain ⟨b1, b2⟩ := mul_bd a k ha ha' (by omega) (by omega)
        by_cases hh : a * k + b = i
        · have hh' : (a * k + b == i) = true := by simp [hh]
          have HH := Lib.hid hh
          clear hh
          go_wp2
          go_ret
          exact ⟨by rw [isB_true k hlt HH.out]; rfl, rfl⟩
        · have hh' : (a * k + b == i) = false := by simp [hh]
          have HH := Lib.hid hh
          clear hh
          go_wp2
          go_round
          case rel =>
            refine ⟨k + 1, by omega, by go_num, fun j hj => ?_⟩
            rcases Nat.lt_or_ge j k with h | h
            · exact HN.out j h
            · obtain rfl : j = k := by omega
              exact HH.out
          case measure => simp [intOf]; omega
      · go_wp2
        go_ret
        exact ⟨by rw [isB_false fun j hj => HN.out j (by omega)]; rfl, rfl⟩

/-- the law's walk -/
theorem walk (a b i : Int) (w : World) :
    Calls Try.prog 3 #[.int .i64 a, .int .i64 b, .int .i64 i] w fun e w' => e = .returned (.bool true) ∧ Grown w w' := by
  have k1 : nthB 2 1 5 = true := by decide
  have k2 : nthB 2 1 4 = false := by decide
  by_cases h : a < -1000 ∨ b < -1000 ∨ 1000 < a ∨ 1000 < b ∨ i < 1 ∨ 200 < i
  · have H := Lib.hid h
    clear h
    have K1 := Lib.hid k1
    have K2 := Lib.hid k2
    clear k1 k2
    go_enter Try.func3, Try.ntmps3
    go_wp2_with fail
    refine (nth_in 2 1 5 _ (by omega) (by omega) (by omega) (by omega) (by omega) (by omega)).mono ?_
    rintro e w' ⟨rfl, rfl⟩
    rw [K1.out]
    go_wp2_with fail
    refine (nth_in 2 1 4 _ (by omega) (by omega) (by omega) (by omega) (by omega) (by omega)).mono ?_
    rintro e w' ⟨rfl, rfl⟩
    rw [K2.out]
    go_wp2_with fail
    refine (nth_out a b i _ H.out).mono ?_
    rintro e w' ⟨rfl, rfl⟩
    go_wp2_with fail
    refine (is_out a b i _ H.out).mono ?_
    rintro e w' ⟨rfl, rfl⟩
    go_wp2_with fail
    go_ret
    exact ⟨rfl, Grown.refl _⟩
  · have h1 : (-1000 ≤ a ∧ a ≤ 1000) ∧ (-1000 ≤ b ∧ b ≤ 1000) ∧ 1 ≤ i ∧ i ≤ 200 := by omega
    obtain ⟨⟨g1, g2⟩, ⟨g3, g4⟩, g5, g6⟩ := h1
    clear h
    have K1 := Lib.hid k1
    have K2 := Lib.hid k2
    have S := Lib.hid (same a b i g1 g2 g3 g4 g5 g6)
    clear k1 k2
    go_enter Try.func3, Try.ntmps3
    go_wp2_with fail
    refine (nth_in 2 1 5 _ (by omega) (by omega) (by omega) (by omega) (by omega) (by omega)).mono ?_
    rintro e w' ⟨rfl, rfl⟩
    rw [K1.out]
    go_wp2_with fail
    refine (nth_in 2 1 4 _ (by omega) (by omega) (by omega) (by omega) (by omega) (by omega)).mono ?_
    rintro e w' ⟨rfl, rfl⟩
    rw [K2.out]
    go_wp2_with fail
    refine (nth_in a b i _ g1 g2 g3 g4 g5 g6).mono ?_
    rintro e w' ⟨rfl, rfl⟩
    go_wp2_with fail
    refine (is_in a b i _ g1 g2 g3 g4 g5 g6).mono ?_
    rintro e w' ⟨rfl, rfl⟩
    rw [S.out]
    go_wp2_with fail
    go_ret
    exact ⟨by simp, Grown.refl _⟩

theorem own : ownKnob Try.prog.godebug = none := by kernel_rfl
set_option linter.unusedVariables false
/-! ### THE ROW's STEP: WRITTEN OUT: LEAVE IT -/
set_option maxRecDepth 100000 in
theorem lifted (os : Os) (started : os.Started) (H : Type) (enc : TypeId × Value → H) :
    ReturnsInHanded {} Try.checked os 3 .any (Rows.matchNthsSpec.pre6 enc Try.prog Try.f3 Rows.matchNthsRow.domain false) (Rows.matchNthsSpec.post enc Try.prog Try.f3 false true false false) := by
  refine returnsInHanded_of_change (C := Try.checked) own started (by kernel_rfl) Try.func3
    (ChangeSpec.witness6 (enc := enc) (C := Try.checked) false ⟨#[], #[.int .i64 0, .int .i64 0, .int .i64 0], []⟩ 8 (by kernel_rfl) (by kernel_rfl) (by kernel_rfl) (by kernel_rfl)) ?_
  intro W base args ds gs before hval0 hW hcnd _
  have hval : ∀ (j : Nat) t v, Try.f3.params[j]? = some t → args[j]? = some v → Value.okWide Try.prog W .any base t v := hval0
  have hW' := hW
  obtain ⟨p, q, hA0, hV, rfl, hfz, hnd⟩ := hW
  have hA : DataW.TrodAll enc Try.prog W 0 (fun _ => true) true Try.f3.params.toList args.toList ds p := hA0
  rw [Try.params3] at hA hval
  obtain ⟨v0, vs0, d0, ds0, p0, q0, hargs, rfl, rfl, h0, r0⟩ := trodAll_cons hA
  obtain ⟨v1, vs1, d1, ds1, p1, q1, rfl, rfl, rfl, h1, r1⟩ := trodAll_cons r0
  obtain ⟨v2, vs2, d2, ds2, p2, q2, rfl, rfl, rfl, h2, r2⟩ := trodAll_cons r1
  obtain ⟨rfl, rfl, rfl⟩ := trodAll_nil r2
  obtain rfl : args = #[v0, v1, v2] := by cases args; simp_all
  obtain ⟨rfl, rfl⟩ := trodVars_none hV
  obtain ⟨a0, rfl, rfl, rfl, w0⟩ := open_int Try.underlying3 (hval 0 3 v0 rfl rfl) h0
  obtain ⟨a1, rfl, rfl, rfl, w1⟩ := open_int Try.underlying3 (hval 1 3 v1 rfl rfl) h1
  obtain ⟨a2, rfl, rfl, rfl, w2⟩ := open_int Try.underlying3 (hval 2 3 v2 rfl rfl) h2
  clear hA0 hval0
  simp only [List.append_nil] at hW'
  refine (walk a0 a1 a2 W).mono fun e W' ⟨he, hg⟩ => ?_
  subst he
  exact ⟨_, rfl, post_of_same (pa := []) (pv := []) hW' (fun _ _ _ => (trodAll_cons_mk (shut_bool Try.underlying4 _) trodAll_mk0)) (fun sp _ => (trodAll_cons_mk (shut_int Try.underlying3 w0) (trodAll_cons_mk (shut_int Try.underlying3 w1) (trodAll_cons_mk (shut_int Try.underlying3 w2) trodAll_mk0)))) (fun _ _ => rfl) rfl
    (hg.frame _) hg.2.1 (ok_one (by kernel_rfl) rfl (okWide_bool_mk Try.underlying4 _))⟩

theorem over : Rows.matchNthsRow.holds Try.pinned (OpenSpec.ofChange Rows.matchNthsSpec) :=
  OpenClaim.holds_of_wide 3 Try.f3 rfl rfl rfl rfl rfl rfl rfl ⟨rfl, rfl, rfl, rfl, rfl⟩ rfl rfl rfl rfl rfl (by kernel_rfl) Try.func3 (by kernel_rfl)
    (of_decide_eq_true (by kernel_rfl)) (by unfold Func.isWrapper; first | (rw [if_pos (by decide +kernel)]; kernel_rfl) | (rw [if_neg (by decide +kernel)]; exact ⟨rfl, rfl⟩))
    (fun os started H enc _ => lifted os started H enc)

/-- ████ THE STATEMENT ████ -/
theorem proved : Rows.MatchNthsSaid :=
  over
#print axioms proved
end Go.Proofs.Ytejkloinamgpaaa.matchNths
