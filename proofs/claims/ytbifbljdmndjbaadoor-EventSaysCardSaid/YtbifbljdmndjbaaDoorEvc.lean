/- Events: the reference, the law. -/
import Derived.Test.YtbifbljdmndjbaaDoorEvb
import Derived.Test.YtbifbljdmndjbaaDoorLaid
namespace Go.Proofs.YtbifbljdmndjbaaDoor.Ev
open Go Go.Eng Go.RowKit Do
set_option maxHeartbeats 4000000
set_option maxRecDepth 100000
set_option linter.unusedSimpArgs false
set_option linter.unusedVariables false
noncomputable section
def ehql15b (xs1 : List (Int × Int × Int)) (xs2 : List (Int × Int × Int)) (K : Bool → Prop) (x13l15 : Int) (C15 : Int → Prop) : Prop :=
 ((decide (x13l15 < (xs1.length : Int))) = true → (0 : Int) ≤ x13l15 ∧ Int.toNat x13l15 < xs1.length ∧ (0 : Int) ≤ x13l15 ∧ Int.toNat x13l15 < xs2.length ∧ ((!([((xs1.getD (Int.toNat x13l15) default).1 == (xs2.getD (Int.toNat x13l15) default).1), ((xs1.getD (Int.toNat x13l15) default).2.1 == (xs2.getD (Int.toNat x13l15) default).2.1), ((xs1.getD (Int.toNat x13l15) default).2.2 == (xs2.getD (Int.toNat x13l15) default).2.2)].all id)) = true → K false) ∧ ((!([((xs1.getD (Int.toNat x13l15) default).1 == (xs2.getD (Int.toNat x13l15) default).1), ((xs1.getD (Int.toNat x13l15) default).2.1 == (xs2.getD (Int.toNat x13l15) default).2.1), ((xs1.getD (Int.toNat x13l15) default).2.2 == (xs2.getD (Int.toNat x13l15) default).2.2)].all id)) = false → C15 (w6 (x13l15 + 1)))) ∧ ((decide (x13l15 < (xs1.length : Int))) = false → K true)
def ehql15 (xs1 : List (Int × Int × Int)) (xs2 : List (Int × Int × Int)) (K : Bool → Prop) : Nat → Int → Prop
 | 0, _ => False
 | k + 1, x13l15 => ehql15b xs1 xs2 K x13l15 (ehql15 xs1 xs2 K k)
def ehqF (xs1 : List (Int × Int × Int)) (xs2 : List (Int × Int × Int)) (K : Bool → Prop) : Prop :=
 ((((xs1.length : Int) != (xs2.length : Int))) = true → K false) ∧ ((((xs1.length : Int) != (xs2.length : Int))) = false → ∃ k, ehql15 xs1 xs2 K k 0)
theorem ehq_ok {g : Ghost} {axs1_0 : Option Addr} {cxs1_0 : Nat} (xs1 : List (Int × Int × Int)) {axs2_0 : Option Addr} {cxs2_0 : Nat} (xs2 : List (Int × Int × Int)) (hRxs1_0 : Rep g (.slice (.pair (.int .i64) (.pair (.int .i64) (.int .i64)))) [.slice axs1_0 xs1.length cxs1_0] xs1) (hRxs2_0 : Rep g (.slice (.pair (.int .i64) (.pair (.int .i64) (.int .i64)))) [.slice axs2_0 xs2.length cxs2_0] xs2) (K : Bool → Prop)
  (hF : ehqF xs1 xs2 K) : CallsH Tryd.prog 9 #[.slice axs1_0 xs1.length cxs1_0, .slice axs2_0 xs2.length cxs2_0] g [] (fun g' H' v => ∃ (r0 : Bool), v = .bool r0 ∧ H' = [] ∧ K r0) := by
 refine CallsH.enter 26 [(0, .slice axs1_0 xs1.length cxs1_0), (1, .slice axs2_0 xs2.length cxs2_0)] Tryd.func9 rfl (by kernel_rfl) (by kernel_rfl) (by kernel_rfl) fun w0 => ?_
 refine Ok.seq (Ok.region (Ok.batch 1 [(0, .slice axs1_0 xs1.length cxs1_0), (1, .slice axs2_0 xs2.length cxs2_0)] (by kernel_rfl) (Ok.nil (Ok.thenN (Ok.seq (Ok.seq (Ok.region (Ok.bat 5 [0, 1] [(10, .bool ((xs1.length : Int) != (xs2.length : Int)))] ?_))))))))
 refine Ok.nil (Ok.thenN (Ok.cond (b := ((xs1.length : Int) != (xs2.length : Int))) rfl (fun hc1 => ?_) (fun hc1 => ?_)))
 ·replace hF := hF.1 hc1
  refine Ok.seq (Ok.region (Ok.batch 1 [(4, .bool false)] (by kernel_rfl) (Ok.nil (Ok.thenN (Ok.ret (Ok.thenR ?_))))))
  exact Ok.resH (vs := [.bool false]) (.inl rfl) rfl (.cons (.tmp rfl) .nil) (Gext.refl w0 g) ⟨false, rfl, rfl, hF⟩
 ·replace hF := hF.2 hc1
  refine Ok.skip (Ok.thenN (Ok.seq (Ok.seq (Ok.region (Ok.bat 3 [0, 1] [(12, .int .i64 (xs1.length : Int)), (13, .int .i64 0)] ?_)))))
  refine Ok.nil (Ok.thenN (Ok.block ?_))
  obtain ⟨k, hF⟩ := hF
  refine Ok.loop (fun k a W => ∃ (x13l15 : Int), StA 26 [(0, .slice axs1_0 xs1.length cxs1_0), (1, .slice axs2_0 xs2.length cxs2_0), (12, .int .i64 (xs1.length : Int)), (13, .int .i64 x13l15)] a ∧ StW w0 [] g W ∧ ehql15 xs1 xs2 K k x13l15) k ?_ ?_
  ·
   exact fun a W hA hW => ⟨0, hA.sub (by kernel_rfl), hW, hF⟩
  ·
   clear hF
   rintro k15 a W ⟨x13l15, hA, hW, hF⟩
   cases k15 with
   | zero => exact (hF : False).elim
   | succ k15 =>
    refine (?_ : Ok _ _ _ _ _ _) a W hA hW
    clear hA hW
    refine Ok.seq (Ok.region (Ok.bat 1 [0, 1, 12, 13] [(14, .bool (decide (x13l15 < (xs1.length : Int))))] ?_))
    refine Ok.nil (Ok.thenN (Ok.seq (Ok.cond (b := decide (x13l15 < (xs1.length : Int))) rfl (fun hc2 => ?_) (fun hc2 => ?_))))
    ·replace hF := hF.1 hc2
     refine Ok.skip (Ok.thenN (Ok.seq (Ok.block (Ok.seq (Ok.region (Ok.bat 2 [0, 1, 12, 13] [(5, .int .i64 x13l15)] ?_))))))
     refine Ok.nil (Ok.thenN (Ok.seq (Ok.quiet' (by kernel_rfl) (by kernel_rfl) (OkQ.bat 2 [0, 1, 5, 12, 13] [(16, .slice axs1_0 xs1.length cxs1_0), (17, .int .i64 x13l15)] ?_))))
     obtain ⟨h04, h14, hF⟩ := hF
     have he4 := get_of (l := xs1) (default : Int × Int × Int) h14
     generalize hg4 : (xs1.getD (Int.toNat x13l15) default) = e4 at he4 hF ⊢
     refine OkQ.op rfl (OpQ.indexRo (e := .pair (.int .i64) (.pair (.int .i64) (.int .i64))) (i := x13l15) (el := e4) rfl rfl Tryd.underlying32 (by kernel_rfl) hRxs1_0 h04 he4 rfl fun q3 o3 cs3 _ hat3 hr3 => ?_)
     obtain ⟨_, _, rfl, rfl, ⟨_, _, rfl, rfl, rfl⟩⟩ := hr3
     replace hat3 : At g q3 o3 [.int .i64 e4.1, .int .i64 e4.2.1, .int .i64 e4.2.2] := hat3
     refine OkQ.op rfl (OpQ.step (v := .agg #[.int .i64 e4.1, .int .i64 e4.2.1, .int .i64 e4.2.2]) (Yields.loadAggRo 0 3 #[.int .i64 e4.1, .int .i64 e4.2.1, .int .i64 e4.2.2] hat3 (by kernel_rfl) Tryd.underlying38 rfl (by kernel_rfl) (by kernel_rfl) (by kernel_rfl)) rfl rfl (OkQ.bat 2 [0, 1, 12, 13] [(19, .agg #[.int .i64 e4.1, .int .i64 e4.2.1, .int .i64 e4.2.2]), (20, .slice axs2_0 xs2.length cxs2_0), (21, .int .i64 x13l15)] ?_))
     obtain ⟨h06, h16, hF⟩ := hF
     have he6 := get_of (l := xs2) (default : Int × Int × Int) h16
     generalize hg6 : (xs2.getD (Int.toNat x13l15) default) = e6 at he6 hF ⊢
     refine OkQ.op rfl (OpQ.indexRo (e := .pair (.int .i64) (.pair (.int .i64) (.int .i64))) (i := x13l15) (el := e6) rfl rfl Tryd.underlying32 (by kernel_rfl) hRxs2_0 h06 he6 rfl fun q5 o5 cs5 _ hat5 hr5 => ?_)
     obtain ⟨_, _, rfl, rfl, ⟨_, _, rfl, rfl, rfl⟩⟩ := hr5
     replace hat5 : At g q5 o5 [.int .i64 e6.1, .int .i64 e6.2.1, .int .i64 e6.2.2] := hat5
     refine OkQ.op rfl (OpQ.step (v := .agg #[.int .i64 e6.1, .int .i64 e6.2.1, .int .i64 e6.2.2]) (Yields.loadAggRo 0 3 #[.int .i64 e6.1, .int .i64 e6.2.1, .int .i64 e6.2.2] hat5 (by kernel_rfl) Tryd.underlying38 rfl (by kernel_rfl) (by kernel_rfl) (by kernel_rfl)) rfl rfl (OkQ.op rfl (OpQ.step (v := .bool (!([(e4.1 == e6.1), (e4.2.1 == e6.2.1), (e4.2.2 == e6.2.2)].all id))) (Yields.neAgg (k := 2) rfl rfl (.struct (k := 1) Tryd.underlying38 (by kernel_rfl) ⟨by decide, ⟨.int .i64 e4.1, .int .i64 e6.1, fun _ => by kernel_rfl, fun _ => by kernel_rfl, EqR.mono (k := 1) (.int Tryd.underlying3) (by decide)⟩, ⟨by decide, ⟨.int .i64 e4.2.1, .int .i64 e6.2.1, fun _ => by kernel_rfl, fun _ => by kernel_rfl, EqR.mono (k := 1) (.int Tryd.underlying3) (by decide)⟩, ⟨by decide, ⟨.int .i64 e4.2.2, .int .i64 e6.2.2, fun _ => by kernel_rfl, fun _ => by kernel_rfl, EqR.mono (k := 1) (.int Tryd.underlying3) (by decide)⟩, trivial⟩⟩⟩) rfl (by kernel_rfl)) rfl rfl ?_)))
     refine OkQ.nil (Ok.thenN (Ok.cond (b := !([(e4.1 == e6.1), (e4.2.1 == e6.2.1), (e4.2.2 == e6.2.2)].all id)) rfl (fun hc7 => ?_) (fun hc7 => ?_)))
     ·replace hF := hF.1 hc7
      refine Ok.seq (Ok.region (Ok.batch 1 [(4, .bool false)] (by kernel_rfl) (Ok.nil (Ok.thenN (Ok.ret (Ok.blockR (Ok.thenR (Ok.thenR (Ok.blockR (Ok.thenR ?_))))))))))
      exact Ok.resH (vs := [.bool false]) (.inl rfl) rfl (.cons (.tmp rfl) .nil) (Gext.refl w0 g) ⟨false, rfl, rfl, hF⟩
     ·replace hF := hF.2 hc7
      refine Ok.skip (Ok.blockN (Ok.thenN (Ok.region (Ok.bat 2 [0, 1, 12] [(13, .int .i64 (w6 (x13l15 + 1)))] ?_))))
      refine Ok.nil (Ok.thenN ?_)
      subst hg6
      subst hg4
      exact fun a W hA hW => ⟨k15, Nat.lt_succ_self _, w6 (x13l15 + 1), hA.sub (by kernel_rfl), hW, hF⟩
    ·replace hF := hF.2 hc2
     refine Ok.exit (Ok.thenE (Ok.thenE (Ok.blockHit (Ok.thenN (Ok.seq (Ok.region (Ok.batch 1 [(4, .bool true)] (by kernel_rfl) (Ok.nil (Ok.thenN (Ok.ret ?_))))))))))
     exact Ok.resH (vs := [.bool true]) (.inl rfl) rfl (.cons (.tmp rfl) .nil) (Gext.refl w0 g) ⟨true, rfl, rfl, hF⟩
def ehqS (a b : List (HD)) : Bool := a == b
def ehqP (a b : List (HD)) : Prop := a.length ≤ 1000000 ∧ b.length ≤ 1000000
theorem ehq_F (p q : List (HD)) (hp : ehqP p q) : ehqF p q (fun r => r = ehqS p q) := by
 obtain ⟨hp1, hp2⟩ := hp
 unfold ehqS
 refine ⟨fun h => ?_, fun h => ?_⟩
 ·have h : p.length ≠ q.length := by rw [bne_iff_ne] at h; omega
  have : (p == q) = false := by
   rw [beq_eq_false_iff_ne]
   intro h2; exact h (congrArg List.length h2)
  rw [this]
 ·have hlen : p.length = q.length := by
   rw [bne_eq_false_iff_eq] at h; omega
  have loop : ∀ (k i : Nat), i + k = p.length → (p == q) = (p.drop i == q.drop i) → ehql15 p q (fun r => r = (p == q)) (k + 1) (i : Int) := by
   intro k
   induction k with
   | zero =>
    intro i h1 he
    rw [List.drop_of_length_le (by omega), List.drop_of_length_le (by omega)] at he
    exact ⟨fun h => by have := of_decide_eq_true h; omega, fun _ => by rw [he]; rfl⟩
   | succ k ih =>
    intro i h1 he
    have hi : i < p.length := by omega
    rw [drop_get (l := p) default hi, drop_get (l := q) default (by omega)] at he
    refine ⟨fun _ => ?_, fun h => by have := of_decide_eq_false h; omega⟩
    rw [Int.toNat_natCast]
    have hd : ∀ x y : HD, [x.1 == y.1, x.2.1 == y.2.1, x.2.2 == y.2.2].all id = (x == y) := fun x y => by
     simp only [List.all_cons, List.all_nil, id, Bool.and_true]; rfl
    rw [hd]
    refine ⟨by omega, by omega, by omega, by omega, fun h => ?_, fun h => ?_⟩
    ·have h : (p.getD i default == q.getD i default) = false := by rw [Bool.not_eq_true'] at h; exact h
     rw [he, List.cons_beq_cons, h]; rfl
    ·have h : (p.getD i default == q.getD i default) = true := by rw [Bool.not_eq_false'] at h; exact h
     rw [w64 (by omega)]
     refine ih (i + 1) (by omega) ?_
     rw [he, List.cons_beq_cons, h]; rfl
  exact ⟨_, loop p.length 0 (by omega) rfl⟩
theorem ehq_c {g : Ghost} {axs1_0 : Option Addr} {cxs1_0 : Nat} (xs1 : List (Int × Int × Int)) {axs2_0 : Option Addr} {cxs2_0 : Nat} (xs2 : List (Int × Int × Int)) (hRxs1_0 : Rep g (.slice (.pair (.int .i64) (.pair (.int .i64) (.int .i64)))) [.slice axs1_0 xs1.length cxs1_0] xs1) (hRxs2_0 : Rep g (.slice (.pair (.int .i64) (.pair (.int .i64) (.int .i64)))) [.slice axs2_0 xs2.length cxs2_0] xs2)  (hp : ehqP xs1 xs2) : CallsG Tryd.prog 9 #[.slice axs1_0 xs1.length cxs1_0, .slice axs2_0 xs2.length cxs2_0] g (.bool (ehqS xs1 xs2)) :=
 (ehq_ok xs1 xs2 hRxs1_0 hRxs2_0 _ (ehq_F xs1 xs2 hp)).gives (by rintro g' H' v _ ⟨r0, rfl, rfl, hK⟩; subst hK; rfl)

def elql15b (xs1 : List (LI)) (xs2 : List (LI)) (K : Bool → Prop) (x13l15 : Int) (C15 : Int → Prop) : Prop :=
 ((decide (x13l15 < (xs1.length : Int))) = true → (0 : Int) ≤ x13l15 ∧ Int.toNat x13l15 < xs1.length ∧ (0 : Int) ≤ x13l15 ∧ Int.toNat x13l15 < xs2.length ∧ ((!([((xs1.getD (Int.toNat x13l15) default).1 == (xs2.getD (Int.toNat x13l15) default).1), ((xs1.getD (Int.toNat x13l15) default).2.1 == (xs2.getD (Int.toNat x13l15) default).2.1), ((xs1.getD (Int.toNat x13l15) default).2.2.1 == (xs2.getD (Int.toNat x13l15) default).2.2.1), ((xs1.getD (Int.toNat x13l15) default).2.2.2.1 == (xs2.getD (Int.toNat x13l15) default).2.2.2.1), ((xs1.getD (Int.toNat x13l15) default).2.2.2.2.1 == (xs2.getD (Int.toNat x13l15) default).2.2.2.2.1), ((xs1.getD (Int.toNat x13l15) default).2.2.2.2.2.1 == (xs2.getD (Int.toNat x13l15) default).2.2.2.2.2.1), ((xs1.getD (Int.toNat x13l15) default).2.2.2.2.2.2.1 == (xs2.getD (Int.toNat x13l15) default).2.2.2.2.2.2.1), ((xs1.getD (Int.toNat x13l15) default).2.2.2.2.2.2.2 == (xs2.getD (Int.toNat x13l15) default).2.2.2.2.2.2.2)].all id)) = true → K false) ∧ ((!([((xs1.getD (Int.toNat x13l15) default).1 == (xs2.getD (Int.toNat x13l15) default).1), ((xs1.getD (Int.toNat x13l15) default).2.1 == (xs2.getD (Int.toNat x13l15) default).2.1), ((xs1.getD (Int.toNat x13l15) default).2.2.1 == (xs2.getD (Int.toNat x13l15) default).2.2.1), ((xs1.getD (Int.toNat x13l15) default).2.2.2.1 == (xs2.getD (Int.toNat x13l15) default).2.2.2.1), ((xs1.getD (Int.toNat x13l15) default).2.2.2.2.1 == (xs2.getD (Int.toNat x13l15) default).2.2.2.2.1), ((xs1.getD (Int.toNat x13l15) default).2.2.2.2.2.1 == (xs2.getD (Int.toNat x13l15) default).2.2.2.2.2.1), ((xs1.getD (Int.toNat x13l15) default).2.2.2.2.2.2.1 == (xs2.getD (Int.toNat x13l15) default).2.2.2.2.2.2.1), ((xs1.getD (Int.toNat x13l15) default).2.2.2.2.2.2.2 == (xs2.getD (Int.toNat x13l15) default).2.2.2.2.2.2.2)].all id)) = false → C15 (w6 (x13l15 + 1)))) ∧ ((decide (x13l15 < (xs1.length : Int))) = false → K true)
def elql15 (xs1 : List (LI)) (xs2 : List (LI)) (K : Bool → Prop) : Nat → Int → Prop
 | 0, _ => False
 | k + 1, x13l15 => elql15b xs1 xs2 K x13l15 (elql15 xs1 xs2 K k)
def elqF (xs1 : List (LI)) (xs2 : List (LI)) (K : Bool → Prop) : Prop :=
 ((((xs1.length : Int) != (xs2.length : Int))) = true → K false) ∧ ((((xs1.length : Int) != (xs2.length : Int))) = false → ∃ k, elql15 xs1 xs2 K k 0)
theorem elq_ok {g : Ghost} {axs1_0 : Option Addr} {cxs1_0 : Nat} (xs1 : List (LI)) {axs2_0 : Option Addr} {cxs2_0 : Nat} (xs2 : List (LI)) (hRxs1_0 : Rep g (.slice (.pair (.int .i64) (.pair (.int .i64) (.pair (.str) (.pair (.bool) (.pair (.bool) (.pair (.bool) (.pair (.bool) (.bool))))))))) [.slice axs1_0 xs1.length cxs1_0] xs1) (hRxs2_0 : Rep g (.slice (.pair (.int .i64) (.pair (.int .i64) (.pair (.str) (.pair (.bool) (.pair (.bool) (.pair (.bool) (.pair (.bool) (.bool))))))))) [.slice axs2_0 xs2.length cxs2_0] xs2) (K : Bool → Prop)
  (hF : elqF xs1 xs2 K) : CallsH Tryd.prog 10 #[.slice axs1_0 xs1.length cxs1_0, .slice axs2_0 xs2.length cxs2_0] g [] (fun g' H' v => ∃ (r0 : Bool), v = .bool r0 ∧ H' = [] ∧ K r0) := by
 refine CallsH.enter 26 [(0, .slice axs1_0 xs1.length cxs1_0), (1, .slice axs2_0 xs2.length cxs2_0)] Tryd.func10 rfl (by kernel_rfl) (by kernel_rfl) (by kernel_rfl) fun w0 => ?_
 refine Ok.seq (Ok.region (Ok.batch 1 [(0, .slice axs1_0 xs1.length cxs1_0), (1, .slice axs2_0 xs2.length cxs2_0)] (by kernel_rfl) (Ok.nil (Ok.thenN (Ok.seq (Ok.seq (Ok.region (Ok.bat 5 [0, 1] [(10, .bool ((xs1.length : Int) != (xs2.length : Int)))] ?_))))))))
 refine Ok.nil (Ok.thenN (Ok.cond (b := ((xs1.length : Int) != (xs2.length : Int))) rfl (fun hc1 => ?_) (fun hc1 => ?_)))
 ·replace hF := hF.1 hc1
  refine Ok.seq (Ok.region (Ok.batch 1 [(4, .bool false)] (by kernel_rfl) (Ok.nil (Ok.thenN (Ok.ret (Ok.thenR ?_))))))
  exact Ok.resH (vs := [.bool false]) (.inl rfl) rfl (.cons (.tmp rfl) .nil) (Gext.refl w0 g) ⟨false, rfl, rfl, hF⟩
 ·replace hF := hF.2 hc1
  refine Ok.skip (Ok.thenN (Ok.seq (Ok.seq (Ok.region (Ok.bat 3 [0, 1] [(12, .int .i64 (xs1.length : Int)), (13, .int .i64 0)] ?_)))))
  refine Ok.nil (Ok.thenN (Ok.block ?_))
  obtain ⟨k, hF⟩ := hF
  refine Ok.loop (fun k a W => ∃ (x13l15 : Int), StA 26 [(0, .slice axs1_0 xs1.length cxs1_0), (1, .slice axs2_0 xs2.length cxs2_0), (12, .int .i64 (xs1.length : Int)), (13, .int .i64 x13l15)] a ∧ StW w0 [] g W ∧ elql15 xs1 xs2 K k x13l15) k ?_ ?_
  ·
   exact fun a W hA hW => ⟨0, hA.sub (by kernel_rfl), hW, hF⟩
  ·
   clear hF
   rintro k15 a W ⟨x13l15, hA, hW, hF⟩
   cases k15 with
   | zero => exact (hF : False).elim
   | succ k15 =>
    refine (?_ : Ok _ _ _ _ _ _) a W hA hW
    clear hA hW
    refine Ok.seq (Ok.region (Ok.bat 1 [0, 1, 12, 13] [(14, .bool (decide (x13l15 < (xs1.length : Int))))] ?_))
    refine Ok.nil (Ok.thenN (Ok.seq (Ok.cond (b := decide (x13l15 < (xs1.length : Int))) rfl (fun hc2 => ?_) (fun hc2 => ?_))))
    ·replace hF := hF.1 hc2
     refine Ok.skip (Ok.thenN (Ok.seq (Ok.block (Ok.seq (Ok.region (Ok.bat 2 [0, 1, 12, 13] [(5, .int .i64 x13l15)] ?_))))))
     refine Ok.nil (Ok.thenN (Ok.seq (Ok.quiet' (by kernel_rfl) (by kernel_rfl) (OkQ.bat 2 [0, 1, 5, 12, 13] [(16, .slice axs1_0 xs1.length cxs1_0), (17, .int .i64 x13l15)] ?_))))
     obtain ⟨h04, h14, hF⟩ := hF
     have he4 := get_of (l := xs1) (default : LI) h14
     generalize hg4 : (xs1.getD (Int.toNat x13l15) default) = e4 at he4 hF ⊢
     refine OkQ.op rfl (OpQ.indexRo (e := .pair (.int .i64) (.pair (.int .i64) (.pair (.str) (.pair (.bool) (.pair (.bool) (.pair (.bool) (.pair (.bool) (.bool)))))))) (i := x13l15) (el := e4) rfl rfl Tryd.underlying25 (by kernel_rfl) hRxs1_0 h04 he4 rfl fun q3 o3 cs3 _ hat3 hr3 => ?_)
     obtain ⟨_, _, rfl, rfl, ⟨_, _, rfl, rfl, ⟨_, _, rfl, rfl, ⟨_, _, rfl, rfl, ⟨_, _, rfl, rfl, ⟨_, _, rfl, rfl, ⟨_, _, rfl, rfl, rfl⟩⟩⟩⟩⟩⟩⟩ := hr3
     replace hat3 : At g q3 o3 [.int .i64 e4.1, .int .i64 e4.2.1, sv e4.2.2.1, .bool e4.2.2.2.1, .bool e4.2.2.2.2.1, .bool e4.2.2.2.2.2.1, .bool e4.2.2.2.2.2.2.1, .bool e4.2.2.2.2.2.2.2] := hat3
     refine OkQ.op rfl (OpQ.step (v := .agg #[.int .i64 e4.1, .int .i64 e4.2.1, sv e4.2.2.1, .bool e4.2.2.2.1, .bool e4.2.2.2.2.1, .bool e4.2.2.2.2.2.1, .bool e4.2.2.2.2.2.2.1, .bool e4.2.2.2.2.2.2.2]) (Yields.loadAggRo 0 8 #[.int .i64 e4.1, .int .i64 e4.2.1, sv e4.2.2.1, .bool e4.2.2.2.1, .bool e4.2.2.2.2.1, .bool e4.2.2.2.2.2.1, .bool e4.2.2.2.2.2.2.1, .bool e4.2.2.2.2.2.2.2] hat3 (by kernel_rfl) Tryd.underlying41 rfl (by kernel_rfl) (by kernel_rfl) (by kernel_rfl)) rfl rfl (OkQ.bat 2 [0, 1, 12, 13] [(19, .agg #[.int .i64 e4.1, .int .i64 e4.2.1, sv e4.2.2.1, .bool e4.2.2.2.1, .bool e4.2.2.2.2.1, .bool e4.2.2.2.2.2.1, .bool e4.2.2.2.2.2.2.1, .bool e4.2.2.2.2.2.2.2]), (20, .slice axs2_0 xs2.length cxs2_0), (21, .int .i64 x13l15)] ?_))
     obtain ⟨h06, h16, hF⟩ := hF
     have he6 := get_of (l := xs2) (default : LI) h16
     generalize hg6 : (xs2.getD (Int.toNat x13l15) default) = e6 at he6 hF ⊢
     refine OkQ.op rfl (OpQ.indexRo (e := .pair (.int .i64) (.pair (.int .i64) (.pair (.str) (.pair (.bool) (.pair (.bool) (.pair (.bool) (.pair (.bool) (.bool)))))))) (i := x13l15) (el := e6) rfl rfl Tryd.underlying25 (by kernel_rfl) hRxs2_0 h06 he6 rfl fun q5 o5 cs5 _ hat5 hr5 => ?_)
     obtain ⟨_, _, rfl, rfl, ⟨_, _, rfl, rfl, ⟨_, _, rfl, rfl, ⟨_, _, rfl, rfl, ⟨_, _, rfl, rfl, ⟨_, _, rfl, rfl, ⟨_, _, rfl, rfl, rfl⟩⟩⟩⟩⟩⟩⟩ := hr5
     replace hat5 : At g q5 o5 [.int .i64 e6.1, .int .i64 e6.2.1, sv e6.2.2.1, .bool e6.2.2.2.1, .bool e6.2.2.2.2.1, .bool e6.2.2.2.2.2.1, .bool e6.2.2.2.2.2.2.1, .bool e6.2.2.2.2.2.2.2] := hat5
     refine OkQ.op rfl (OpQ.step (v := .agg #[.int .i64 e6.1, .int .i64 e6.2.1, sv e6.2.2.1, .bool e6.2.2.2.1, .bool e6.2.2.2.2.1, .bool e6.2.2.2.2.2.1, .bool e6.2.2.2.2.2.2.1, .bool e6.2.2.2.2.2.2.2]) (Yields.loadAggRo 0 8 #[.int .i64 e6.1, .int .i64 e6.2.1, sv e6.2.2.1, .bool e6.2.2.2.1, .bool e6.2.2.2.2.1, .bool e6.2.2.2.2.2.1, .bool e6.2.2.2.2.2.2.1, .bool e6.2.2.2.2.2.2.2] hat5 (by kernel_rfl) Tryd.underlying41 rfl (by kernel_rfl) (by kernel_rfl) (by kernel_rfl)) rfl rfl (OkQ.op rfl (OpQ.step (v := .bool (!([(e4.1 == e6.1), (e4.2.1 == e6.2.1), (e4.2.2.1 == e6.2.2.1), (e4.2.2.2.1 == e6.2.2.2.1), (e4.2.2.2.2.1 == e6.2.2.2.2.1), (e4.2.2.2.2.2.1 == e6.2.2.2.2.2.1), (e4.2.2.2.2.2.2.1 == e6.2.2.2.2.2.2.1), (e4.2.2.2.2.2.2.2 == e6.2.2.2.2.2.2.2)].all id))) (Yields.neAgg (k := 2) rfl rfl (.struct (k := 1) Tryd.underlying41 (by kernel_rfl) ⟨by decide, ⟨.int .i64 e4.1, .int .i64 e6.1, fun _ => by kernel_rfl, fun _ => by kernel_rfl, EqR.mono (k := 1) (.int Tryd.underlying3) (by decide)⟩, ⟨by decide, ⟨.int .i64 e4.2.1, .int .i64 e6.2.1, fun _ => by kernel_rfl, fun _ => by kernel_rfl, EqR.mono (k := 1) (.int Tryd.underlying3) (by decide)⟩, ⟨by decide, ⟨sv e4.2.2.1, sv e6.2.2.1, fun _ => by kernel_rfl, fun _ => by kernel_rfl, EqR.mono (k := 1) (.str Tryd.underlying9) (by decide)⟩, ⟨by decide, ⟨.bool e4.2.2.2.1, .bool e6.2.2.2.1, fun _ => by kernel_rfl, fun _ => by kernel_rfl, EqR.mono (k := 1) (.bool Tryd.underlying4) (by decide)⟩, ⟨by decide, ⟨.bool e4.2.2.2.2.1, .bool e6.2.2.2.2.1, fun _ => by kernel_rfl, fun _ => by kernel_rfl, EqR.mono (k := 1) (.bool Tryd.underlying4) (by decide)⟩, ⟨by decide, ⟨.bool e4.2.2.2.2.2.1, .bool e6.2.2.2.2.2.1, fun _ => by kernel_rfl, fun _ => by kernel_rfl, EqR.mono (k := 1) (.bool Tryd.underlying4) (by decide)⟩, ⟨by decide, ⟨.bool e4.2.2.2.2.2.2.1, .bool e6.2.2.2.2.2.2.1, fun _ => by kernel_rfl, fun _ => by kernel_rfl, EqR.mono (k := 1) (.bool Tryd.underlying4) (by decide)⟩, ⟨by decide, ⟨.bool e4.2.2.2.2.2.2.2, .bool e6.2.2.2.2.2.2.2, fun _ => by kernel_rfl, fun _ => by kernel_rfl, EqR.mono (k := 1) (.bool Tryd.underlying4) (by decide)⟩, trivial⟩⟩⟩⟩⟩⟩⟩⟩) rfl (by kernel_rfl)) rfl rfl ?_)))
     refine OkQ.nil (Ok.thenN (Ok.cond (b := !([(e4.1 == e6.1), (e4.2.1 == e6.2.1), (e4.2.2.1 == e6.2.2.1), (e4.2.2.2.1 == e6.2.2.2.1), (e4.2.2.2.2.1 == e6.2.2.2.2.1), (e4.2.2.2.2.2.1 == e6.2.2.2.2.2.1), (e4.2.2.2.2.2.2.1 == e6.2.2.2.2.2.2.1), (e4.2.2.2.2.2.2.2 == e6.2.2.2.2.2.2.2)].all id)) rfl (fun hc7 => ?_) (fun hc7 => ?_)))
     ·replace hF := hF.1 hc7
      refine Ok.seq (Ok.region (Ok.batch 1 [(4, .bool false)] (by kernel_rfl) (Ok.nil (Ok.thenN (Ok.ret (Ok.blockR (Ok.thenR (Ok.thenR (Ok.blockR (Ok.thenR ?_))))))))))
      exact Ok.resH (vs := [.bool false]) (.inl rfl) rfl (.cons (.tmp rfl) .nil) (Gext.refl w0 g) ⟨false, rfl, rfl, hF⟩
     ·replace hF := hF.2 hc7
      refine Ok.skip (Ok.blockN (Ok.thenN (Ok.region (Ok.bat 2 [0, 1, 12] [(13, .int .i64 (w6 (x13l15 + 1)))] ?_))))
      refine Ok.nil (Ok.thenN ?_)
      subst hg6
      subst hg4
      exact fun a W hA hW => ⟨k15, Nat.lt_succ_self _, w6 (x13l15 + 1), hA.sub (by kernel_rfl), hW, hF⟩
    ·replace hF := hF.2 hc2
     refine Ok.exit (Ok.thenE (Ok.thenE (Ok.blockHit (Ok.thenN (Ok.seq (Ok.region (Ok.batch 1 [(4, .bool true)] (by kernel_rfl) (Ok.nil (Ok.thenN (Ok.ret ?_))))))))))
     exact Ok.resH (vs := [.bool true]) (.inl rfl) rfl (.cons (.tmp rfl) .nil) (Gext.refl w0 g) ⟨true, rfl, rfl, hF⟩
def elqS (a b : List (LI)) : Bool := a == b
def elqP (a b : List (LI)) : Prop := a.length ≤ 1000000 ∧ b.length ≤ 1000000
theorem elq_F (p q : List (LI)) (hp : elqP p q) : elqF p q (fun r => r = elqS p q) := by
 obtain ⟨hp1, hp2⟩ := hp
 unfold elqS
 refine ⟨fun h => ?_, fun h => ?_⟩
 ·have h : p.length ≠ q.length := by rw [bne_iff_ne] at h; omega
  have : (p == q) = false := by
   rw [beq_eq_false_iff_ne]
   intro h2; exact h (congrArg List.length h2)
  rw [this]
 ·have hlen : p.length = q.length := by
   rw [bne_eq_false_iff_eq] at h; omega
  have loop : ∀ (k i : Nat), i + k = p.length → (p == q) = (p.drop i == q.drop i) → elql15 p q (fun r => r = (p == q)) (k + 1) (i : Int) := by
   intro k
   induction k with
   | zero =>
    intro i h1 he
    rw [List.drop_of_length_le (by omega), List.drop_of_length_le (by omega)] at he
    exact ⟨fun h => by have := of_decide_eq_true h; omega, fun _ => by rw [he]; rfl⟩
   | succ k ih =>
    intro i h1 he
    have hi : i < p.length := by omega
    rw [drop_get (l := p) default hi, drop_get (l := q) default (by omega)] at he
    refine ⟨fun _ => ?_, fun h => by have := of_decide_eq_false h; omega⟩
    rw [Int.toNat_natCast]
    have hd : ∀ x y : LI, [x.1 == y.1, x.2.1 == y.2.1, x.2.2.1 == y.2.2.1, x.2.2.2.1 == y.2.2.2.1, x.2.2.2.2.1 == y.2.2.2.2.1, x.2.2.2.2.2.1 == y.2.2.2.2.2.1, x.2.2.2.2.2.2.1 == y.2.2.2.2.2.2.1, x.2.2.2.2.2.2.2 == y.2.2.2.2.2.2.2].all id = (x == y) := fun x y => by
     simp only [List.all_cons, List.all_nil, id, Bool.and_true]; rfl
    rw [hd]
    refine ⟨by omega, by omega, by omega, by omega, fun h => ?_, fun h => ?_⟩
    ·have h : (p.getD i default == q.getD i default) = false := by rw [Bool.not_eq_true'] at h; exact h
     rw [he, List.cons_beq_cons, h]; rfl
    ·have h : (p.getD i default == q.getD i default) = true := by rw [Bool.not_eq_false'] at h; exact h
     rw [w64 (by omega)]
     refine ih (i + 1) (by omega) ?_
     rw [he, List.cons_beq_cons, h]; rfl
  exact ⟨_, loop p.length 0 (by omega) rfl⟩
theorem elq_c {g : Ghost} {axs1_0 : Option Addr} {cxs1_0 : Nat} (xs1 : List (Int × Int × Bs × Bool × Bool × Bool × Bool × Bool)) {axs2_0 : Option Addr} {cxs2_0 : Nat} (xs2 : List (Int × Int × Bs × Bool × Bool × Bool × Bool × Bool)) (hRxs1_0 : Rep g (.slice (.pair (.int .i64) (.pair (.int .i64) (.pair (.str) (.pair (.bool) (.pair (.bool) (.pair (.bool) (.pair (.bool) (.bool))))))))) [.slice axs1_0 xs1.length cxs1_0] xs1) (hRxs2_0 : Rep g (.slice (.pair (.int .i64) (.pair (.int .i64) (.pair (.str) (.pair (.bool) (.pair (.bool) (.pair (.bool) (.pair (.bool) (.bool))))))))) [.slice axs2_0 xs2.length cxs2_0] xs2)  (hp : elqP xs1 xs2) : CallsG Tryd.prog 10 #[.slice axs1_0 xs1.length cxs1_0, .slice axs2_0 xs2.length cxs2_0] g (.bool (elqS xs1 xs2)) :=
 (elq_ok xs1 xs2 hRxs1_0 hRxs2_0 _ (elq_F xs1 xs2 hp)).gives (by rintro g' H' v _ ⟨r0, rfl, rfl, hK⟩; subst hK; rfl)

def rbtF (xn : Int) (xlow : Int) (xhigh : Int) (K : Bool → Prop) : Prop :=
 K ((decide (xlow ≤ xn)) && (decide (xn ≤ xhigh)))
theorem rbt_ok {g : Ghost} (xn : Int) (xlow : Int) (xhigh : Int) (K : Bool → Prop)
  (hF : rbtF xn xlow xhigh K) : CallsH Tryd.prog 19 #[.int .i64 xn, .int .i64 xlow, .int .i64 xhigh] g [] (fun g' H' v => ∃ (r0 : Bool), v = .bool r0 ∧ H' = [] ∧ K r0) := by
 refine CallsH.enter 15 [(0, .int .i64 xn), (1, .int .i64 xlow), (2, .int .i64 xhigh)] Tryd.func19 rfl (by kernel_rfl) (by kernel_rfl) (by kernel_rfl) fun w0 => ?_
 refine Ok.seq (Ok.region (Ok.batch 1 [(0, .int .i64 xn), (1, .int .i64 xlow), (2, .int .i64 xhigh)] (by kernel_rfl) (Ok.nil (Ok.thenN (Ok.seq (Ok.region (Ok.bat 4 [0, 2] [(10, .bool (decide (xlow ≤ xn)))] ?_)))))))
 refine Ok.midway 4 [(14, .bool ((decide (xlow ≤ xn)) && (decide (xn ≤ xhigh))))] (fun hR1 => ?_) ?_
 ·refine Ok.boolAt 10 (decide (xlow ≤ xn)) rfl (fun hc2 => ?_) (fun hc2 => ?_)
  ·skip
   refine Ok.batch 4 [(14, .bool (decide (xn ≤ xhigh)))] (by kernel_rfl) (Ok.reval 14 rfl (show (.bool (decide (xn ≤ xhigh)) : Value) = .bool ((decide (xlow ≤ xn)) && (decide (xn ≤ xhigh))) from congrArg Value.bool (mand_t hc2)) (Ok.batch 0 [(14, .bool ((decide (xlow ≤ xn)) && (decide (xn ≤ xhigh))))] (by kernel_rfl) ?_))
   exact hR1
  ·skip
   refine Ok.batch 4 [(14, .bool false)] (by kernel_rfl) (Ok.reval 14 rfl (show (.bool false : Value) = .bool ((decide (xlow ≤ xn)) && (decide (xn ≤ xhigh))) from congrArg Value.bool (mand_f hc2)) (Ok.batch 0 [(14, .bool ((decide (xlow ≤ xn)) && (decide (xn ≤ xhigh))))] (by kernel_rfl) ?_))
   exact hR1
 refine Ok.batch 1 [(6, .bool ((decide (xlow ≤ xn)) && (decide (xn ≤ xhigh))))] (by kernel_rfl) (Ok.nil (Ok.thenN (Ok.ret ?_)))
 exact Ok.resH (vs := [.bool ((decide (xlow ≤ xn)) && (decide (xn ≤ xhigh)))]) (.inl rfl) rfl (.cons (.tmp rfl) .nil) (Gext.refl w0 g) ⟨((decide (xlow ≤ xn)) && (decide (xn ≤ xhigh))), rfl, rfl, hF⟩
def rbtM (xn : Int) (xlow : Int) (xhigh : Int) : Bool := ((decide (xlow ≤ xn)) && (decide (xn ≤ xhigh)))
theorem rbtF_A (xn : Int) (xlow : Int) (xhigh : Int) (P : Bool → Prop) (h : P (rbtM xn xlow xhigh)) : rbtF xn xlow xhigh (fun k0 => P k0) := by
 unfold rbtM at h
 unfold rbtF
 exact h
theorem rbt_F (xn : Int) (xlow : Int) (xhigh : Int) : rbtF xn xlow xhigh (fun k0 => k0 = rbtM xn xlow xhigh) :=
 rbtF_A xn xlow xhigh (fun z => z = rbtM xn xlow xhigh) rfl
theorem rbt_c {g : Ghost} (xn : Int) (xlow : Int) (xhigh : Int)  : CallsG Tryd.prog 19 #[.int .i64 xn, .int .i64 xlow, .int .i64 xhigh] g (.bool (rbtM xn xlow xhigh)) :=
 (rbt_ok xn xlow xhigh _ (rbt_F xn xlow xhigh)).gives (by rintro g' H' v _ ⟨r0, rfl, rfl, hK⟩; subst hK; rfl)
def rwtV0 (xd : (List (Int × Bs × (List (Bs × Bs)) × Bs × Int × List (Int))) × Bool) (e11 : Int) (x8l39 : Int) (x32l39 : Int) : Int :=
 (if (ecoS (xd.1.getD (Int.toNat x32l39) default).2.2.2.2.2 e11) = true then x32l39 else x8l39)
def rwtj46 (xd : (List (Int × Bs × (List (Bs × Bs)) × Bs × Int × List (Int))) × Bool) (e11 : Int) (x8l39 : Int) (x32l39 : Int) (C39 : Int → Int → Prop) : Prop :=
 C39 (rwtV0 xd e11 x8l39 x32l39) (w6 (x32l39 + 1))
def rwtl39b (xd : (List (Int × Bs × (List (Bs × Bs)) × Bs × Int × List (Int))) × Bool) (K : (List (Int)) → Int → Prop) (e11 : Int) (yown9_0l25 : List (Int)) (C25 : (List (Int)) → Prop) (x8l39 : Int) (x32l39 : Int) (C39 : Int → Int → Prop) : Prop :=
 ((decide (x32l39 < (xd.1.length : Int))) = true → (0 : Int) ≤ x32l39 ∧ Int.toNat x32l39 < xd.1.length ∧ ecoP (xd.1.getD (Int.toNat x32l39) default).2.2.2.2.2 e11 ∧ (((ecoS (xd.1.getD (Int.toNat x32l39) default).2.2.2.2.2 e11)) = true → rwtj46 xd e11 x8l39 x32l39 C39) ∧ (((ecoS (xd.1.getD (Int.toNat x32l39) default).2.2.2.2.2 e11)) = false → rwtj46 xd e11 x8l39 x32l39 C39)) ∧ ((decide (x32l39 < (xd.1.length : Int))) = false → ((decide (x8l39 < 0)) = true → K ([] : List (Int)) 5) ∧ ((decide (x8l39 < 0)) = false → (([x8l39] : List (Int)) ++ yown9_0l25).length ≤ 17592186044416 ∧ C25 (([x8l39] : List (Int)) ++ yown9_0l25)))
def rwtl39 (xd : (List (Int × Bs × (List (Bs × Bs)) × Bs × Int × List (Int))) × Bool) (K : (List (Int)) → Int → Prop) (e11 : Int) (yown9_0l25 : List (Int)) (C25 : (List (Int)) → Prop) : Nat → Int → Int → Prop
 | 0, _, _ => False
 | k + 1, x8l39, x32l39 => rwtl39b xd K e11 yown9_0l25 C25 x8l39 x32l39 (rwtl39 xd K e11 yown9_0l25 C25 k)
def rwtl25b (xd : (List (Int × Bs × (List (Bs × Bs)) × Bs × Int × List (Int))) × Bool) (K : (List (Int)) → Int → Prop) (yown9_0l25 : List (Int)) (C25 : (List (Int)) → Prop) : Prop :=
 (0 : Int) ≤ 0 ∧ Int.toNat 0 < yown9_0l25.length ∧ ((((yown9_0l25.getD (Int.toNat 0) default) != 0)) = true → ∃ k, rwtl39 xd K (yown9_0l25.getD (Int.toNat 0) default) yown9_0l25 C25 k (-1) 0) ∧ ((((yown9_0l25.getD (Int.toNat 0) default) != 0)) = false → K yown9_0l25 0)
def rwtl25 (xd : (List (Int × Bs × (List (Bs × Bs)) × Bs × Int × List (Int))) × Bool) (K : (List (Int)) → Int → Prop) : Nat → (List (Int)) → Prop
 | 0, _ => False
 | k + 1, yown9_0l25 => rwtl25b xd K yown9_0l25 (rwtl25 xd K k)
def rwtF (xd : (List (Int × Bs × (List (Bs × Bs)) × Bs × Int × List (Int))) × Bool) (xn : Int) (K : (List (Int)) → Int → Prop) : Prop :=
 dchkP xd ∧ ((((dchkS xd) != 0)) = true → K ([] : List (Int)) (dchkS xd)) ∧ ((((dchkS xd) != 0)) = false → ((!(rbtM xn 0 (w6 ((xd.1.length : Int) - 1)))) = true → K ([] : List (Int)) 1) ∧ ((!(rbtM xn 0 (w6 ((xd.1.length : Int) - 1)))) = false → ∃ k, rwtl25 xd K k ([xn] : List (Int))))
theorem rwt_ok {g : Ghost} {axd_0 : Option Addr} {cxd_0 : Nat} (xd : (List (Int × Bs × (List (Bs × Bs)) × Bs × Int × List (Int))) × Bool) (xn : Int) (hRxd_0 : Rep g (.slice (.pair (.int .i64) (.pair (.str) (.pair (.slice (.pair (.str) (.str))) (.pair (.str) (.pair (.int .i64) (.slice (.int .i64)))))))) [.slice axd_0 xd.1.length cxd_0] xd.1) (K : (List (Int)) → Int → Prop)
  (hF : rwtF xd xn K) : CallsH Tryd.prog 6 #[.agg #[.slice axd_0 xd.1.length cxd_0, .bool xd.2], .int .i64 xn] g [] (fun g' H' v => ∃ (r0 : List (Int)), ∃ (r1 : Int), ∃ (ar0_0 : Option Addr) (cr0_0 : Nat), v = .tuple #[.slice ar0_0 r0.length cr0_0, .int .i64 r1] ∧ Rep g' (.slice (.int .i64)) [.slice ar0_0 r0.length cr0_0] r0 ∧ H' = [] ∧ K r0 r1) := by
 refine CallsH.enter 52 [(0, .agg #[.slice axd_0 xd.1.length cxd_0, .bool xd.2]), (1, .int .i64 xn)] Tryd.func6 rfl (by kernel_rfl) (by kernel_rfl) (by kernel_rfl) fun w0 => ?_
 refine Ok.seq (Ok.region (Ok.op rfl (OpOk.box (v := .agg #[.slice axd_0 xd.1.length cxd_0, .bool xd.2]) (cs := #[.slice axd_0 xd.1.length cxd_0, .bool xd.2]) rfl (by kernel_rfl) rfl fun b1 => ?_)))
 refine Ok.batch 1 [(1, .int .i64 xn), (2, pv b1 0)] (by kernel_rfl) (Ok.bat 1 [1, 2] [] ?_)
 refine Ok.nil (Ok.thenN (Ok.seq (Ok.seq (Ok.region (Ok.op rfl (OpOk.step (v := .agg #[.slice axd_0 xd.1.length cxd_0, .bool xd.2]) (Yields.loadAgg 0 2 #[.slice axd_0 xd.1.length cxd_0, .bool xd.2] rfl rfl Tryd.underlying24 rfl (by kernel_rfl) (by kernel_rfl) (by kernel_rfl)) rfl rfl ?_))))))
 obtain ⟨hp2, hF⟩ := hF
 refine Ok.op rfl (OpOk.callG (v := .int .i64 (dchkS xd)) enr (fun W hW => dchk_c xd (hRxd_0.mono hW.sees) hp2) rfl ?_)
 refine Ok.bat 1 [1, 2] [(6, .int .i64 (dchkS xd))] ?_
 refine Ok.nil (Ok.thenN (Ok.seq (Ok.region (Ok.bat 2 [1, 2, 6] [(14, .bool ((dchkS xd) != 0))] ?_))))
 refine Ok.nil (Ok.thenN (Ok.cond (b := ((dchkS xd) != 0)) rfl (fun hc3 => ?_) (fun hc3 => ?_)))
 ·replace hF := hF.1 hc3
  refine Ok.seq (Ok.region (Ok.batch 2 [(4, .slice none 0 0), (15, .int .i64 (dchkS xd))] (by kernel_rfl) ?_))
  have hL4 : RepL g (.int .i64) [] [] := rfl
  refine Ok.ownNil 3 1 (Ok.batch 1 [(4, .slice none ([] : List (Int)).length 0), (5, .int .i64 (dchkS xd))] (by kernel_rfl) (Ok.nil (Ok.thenN (Ok.ret (Ok.thenR (Ok.frz 0 rfl hL4 fun g5 hx5 hRf5 => ?_))))))
  replace hRxd_0 := hRxd_0.mono hx5.1
  exact Ok.resP (vs := [.slice none ([] : List (Int)).length 0, .int .i64 (dchkS xd)]) [] [] (by decide) rfl (.inl rfl) rfl (.cons (.tmp rfl) (.cons (.tmp rfl) .nil)) hx5 ⟨([] : List (Int)), (dchkS xd), none, 0, rfl, hRf5, rfl, hF⟩
 ·replace hF := hF.2 hc3
  refine Ok.skip (Ok.thenN (Ok.seq (Ok.seq (Ok.region (Ok.bat 2 [1, 2] [(16, .int .i64 xn), (17, pv b1 0)] ?_)))))
  refine Ok.op rfl (OpOk.step (v := .slice axd_0 xd.1.length cxd_0) (Yields.load 0 rfl rfl Tryd.underlying22 rfl (by kernel_rfl)) rfl rfl (Ok.bat 2 [1, 2, 16] [(20, .int .i64 (w6 ((xd.1.length : Int) - 1)))] ?_))
  refine Ok.op rfl (OpOk.callG (v := .bool (rbtM xn 0 (w6 ((xd.1.length : Int) - 1)))) enr (fun W hW => rbt_c xn 0 (w6 ((xd.1.length : Int) - 1))) rfl ?_)
  refine Ok.bat 1 [1, 2] [(22, .bool (!(rbtM xn 0 (w6 ((xd.1.length : Int) - 1)))))] ?_
  refine Ok.nil (Ok.thenN (Ok.cond (b := !(rbtM xn 0 (w6 ((xd.1.length : Int) - 1)))) rfl (fun hc6 => ?_) (fun hc6 => ?_)))
  ·replace hF := hF.1 hc6
   refine Ok.seq (Ok.region (Ok.batch 1 [(4, .slice none 0 0)] (by kernel_rfl) ?_))
   have hL7 : RepL g (.int .i64) [] [] := rfl
   refine Ok.ownNil 3 1 (Ok.batch 1 [(4, .slice none ([] : List (Int)).length 0), (5, .int .i64 1)] (by kernel_rfl) (Ok.nil (Ok.thenN (Ok.ret (Ok.thenR (Ok.frz 0 rfl hL7 fun g8 hx8 hRf8 => ?_))))))
   replace hRxd_0 := hRxd_0.mono hx8.1
   exact Ok.resP (vs := [.slice none ([] : List (Int)).length 0, .int .i64 1]) [] [] (by decide) rfl (.inl rfl) rfl (.cons (.tmp rfl) (.cons (.tmp rfl) .nil)) hx8 ⟨([] : List (Int)), 1, none, 0, rfl, hRf8, rfl, hF⟩
  ·replace hF := hF.2 hc6
   refine Ok.skip (Ok.thenN (Ok.seq (Ok.region (Ok.bat 1 [2] [(23, .int .i64 xn)] ?_))))
   have hL9 : RepL g (.int .i64) ([.int .i64 xn] : List Value) ([xn] : List (Int)) := (RepL.consN (c := [.int .i64 xn]) rfl rfl)
   refine Ok.op rfl (OpOk.lit (E := 3) (.int .i64) ([xn] : List (Int)) ([.int .i64 xn] : List Value) (by kernel_rfl) (by kernel_rfl) rfl (by kernel_rfl) hL9 rfl fun b9 => ?_)
   refine Ok.bat 1 [2] [(7, .slice (some ⟨b9, 0, none⟩) ([xn] : List (Int)).length 1)] ?_
   refine Ok.nil (Ok.thenN (Ok.seq (Ok.block ?_)))
   obtain ⟨k, hF⟩ := hF
   refine Ok.loop (fun k a W => ∃ gl25 : Ghost, Gext w0 g gl25 ∧ ∃ (ayown9_0l25 : Option Addr) (cyown9_0l25 : Nat) (yown9_0l25 : List (Int)) (xsyown9_0l25 : List Value), RepL gl25 (.int .i64) xsyown9_0l25 yown9_0l25 ∧ StA 52 [(2, pv b1 0), (7, .slice ayown9_0l25 yown9_0l25.length cyown9_0l25)] a ∧ StW w0 [.own (.slice ayown9_0l25 yown9_0l25.length cyown9_0l25) 3 1 yown9_0l25.length xsyown9_0l25, .blk b1 (.cells #[.slice axd_0 xd.1.length cxd_0, .bool xd.2] 24)] gl25 W ∧ rwtl25 xd K k yown9_0l25) k ?_ ?_
   ·
    exact fun a W hA hW => ⟨g, (Gext.refl w0 g), (some ⟨b9, 0, none⟩), 1, ([xn] : List (Int)), ([.int .i64 xn] : List Value), hL9, hA.sub (by kernel_rfl), hW, hF⟩
   ·
    clear hF
    rintro k25 a W ⟨gl25, hxl25, ayown9_0l25, cyown9_0l25, yown9_0l25, xsyown9_0l25, hLyown9_0l25, hA, hW, hF⟩
    cases k25 with
    | zero => exact (hF : False).elim
    | succ k25 =>
     refine (?_ : Ok _ _ _ _ _ _) a W hA hW
     clear hA hW
     replace hRxd_0 := hRxd_0.mono hxl25.1
     refine Ok.seq (Ok.seq (Ok.region (Ok.bat 1 [2, 7] [(25, .slice ayown9_0l25 yown9_0l25.length cyown9_0l25)] ?_)))
     obtain ⟨h011, h111, hF⟩ := hF
     have he11 := get_of (l := yown9_0l25) (default : Int) h111
     generalize hg11 : (yown9_0l25.getD (Int.toNat 0) default) = e11 at he11 hF ⊢
     refine Ok.op rfl (OpOk.indexOwn (e := .int .i64) (q := 0) (el := e11) 0 rfl hLyown9_0l25 rfl rfl Tryd.underlying28 (by kernel_rfl) (by kernel_rfl) h011 he11 rfl fun cs10 _ hr10 hc10 => ?_)
     obtain rfl := hr10
     replace hc10 : ∀ j v, ([.int .i64 e11] : List Value)[j]? = some v → xsyown9_0l25[Int.toNat 0 * 1 + j]? = some v := hc10
     refine Ok.op rfl (OpOk.step (v := .int .i64 e11) (Yields.loadOwn 0 0 rfl hc10 rfl Tryd.underlying3 rfl (by kernel_rfl)) rfl rfl (Ok.bat 1 [2, 7] [(28, .bool (e11 != 0))] ?_))
     refine Ok.nil (Ok.thenN (Ok.cond (b := (e11 != 0)) rfl (fun hc12 => ?_) (fun hc12 => ?_)))
     ·replace hF := hF.1 hc12
      refine Ok.skip (Ok.thenN (Ok.block (Ok.seq (Ok.region (Ok.bat 1 [2, 7] [(8, .int .i64 (-1))] ?_)))))
      refine Ok.nil (Ok.thenN (Ok.seq (Ok.seq (Ok.region (Ok.bat 1 [2, 7, 8] [(29, pv b1 0)] ?_)))))
      refine Ok.op rfl (OpOk.step (v := .slice axd_0 xd.1.length cxd_0) (Yields.load 1 rfl rfl Tryd.underlying22 rfl (by kernel_rfl)) rfl rfl (Ok.bat 2 [2, 7, 8] [(30, .slice axd_0 xd.1.length cxd_0), (31, .int .i64 (xd.1.length : Int)), (32, .int .i64 0)] ?_))
      refine Ok.nil (Ok.thenN (Ok.block ?_))
      obtain ⟨k, hF⟩ := hF
      refine Ok.loop (fun k a W => ∃ gl39 : Ghost, Gext w0 gl25 gl39 ∧ ∃ (x8l39 : Int) (x32l39 : Int), StA 52 [(2, pv b1 0), (7, .slice ayown9_0l25 yown9_0l25.length cyown9_0l25), (8, .int .i64 x8l39), (30, .slice axd_0 xd.1.length cxd_0), (31, .int .i64 (xd.1.length : Int)), (32, .int .i64 x32l39)] a ∧ StW w0 [.own (.slice ayown9_0l25 yown9_0l25.length cyown9_0l25) 3 1 yown9_0l25.length xsyown9_0l25, .blk b1 (.cells #[.slice axd_0 xd.1.length cxd_0, .bool xd.2] 24)] gl39 W ∧ rwtl39 xd K e11 yown9_0l25 (rwtl25 xd K k25) k x8l39 x32l39) k ?_ ?_
      ·
       exact fun a W hA hW => ⟨gl25, (Gext.refl w0 gl25), -1, 0, hA.sub (by kernel_rfl), hW, hF⟩
      ·
       clear hF
       rintro k39 a W ⟨gl39, hxl39, x8l39, x32l39, hA, hW, hF⟩
       cases k39 with
       | zero => exact (hF : False).elim
       | succ k39 =>
        refine (?_ : Ok _ _ _ _ _ _) a W hA hW
        clear hA hW
        replace hLyown9_0l25 := hLyown9_0l25.mono hxl39.1
        replace hRxd_0 := hRxd_0.mono hxl39.1
        refine Ok.seq (Ok.region (Ok.bat 1 [2, 7, 8, 30, 31, 32] [(33, .bool (decide (x32l39 < (xd.1.length : Int))))] ?_))
        refine Ok.nil (Ok.thenN (Ok.seq (Ok.cond (b := decide (x32l39 < (xd.1.length : Int))) rfl (fun hc13 => ?_) (fun hc13 => ?_))))
        ·replace hF := hF.1 hc13
         refine Ok.skip (Ok.thenN (Ok.cut (fun a W => ∃ gj46 : Ghost, Gext w0 gl39 gj46 ∧ StA 52 [(2, pv b1 0), (7, .slice ayown9_0l25 yown9_0l25.length cyown9_0l25), (8, .int .i64 (rwtV0 xd e11 x8l39 x32l39)), (30, .slice axd_0 xd.1.length cxd_0), (31, .int .i64 (xd.1.length : Int)), (32, .int .i64 x32l39)] a ∧ StW w0 [.own (.slice ayown9_0l25 yown9_0l25.length cyown9_0l25) 3 1 yown9_0l25.length xsyown9_0l25, .blk b1 (.cells #[.slice axd_0 xd.1.length cxd_0, .bool xd.2] 24)] gj46 W ∧ rwtj46 xd e11 x8l39 x32l39 (rwtl39 xd K e11 yown9_0l25 (rwtl25 xd K k25) k39)) ?_ ?_))
         ·
          refine Ok.block (Ok.seq (Ok.region (Ok.bat 1 [2, 7, 8, 30, 31, 32] [(34, .int .i64 x32l39)] ?_)))
          obtain ⟨h015, h115, hF⟩ := hF
          have he15 := get_of (l := xd.1) (default : Int × Bs × (List (Bs × Bs)) × Bs × Int × List (Int)) h115
          generalize hg15 : (xd.1.getD (Int.toNat x32l39) default) = e15 at he15 hF ⊢
          refine Ok.op rfl (OpOk.indexRo (e := .pair (.int .i64) (.pair (.str) (.pair (.slice (.pair (.str) (.str))) (.pair (.str) (.pair (.int .i64) (.slice (.int .i64))))))) (i := x32l39) (el := e15) rfl rfl Tryd.underlying22 (by kernel_rfl) hRxd_0 h015 he15 rfl fun q14 o14 cs14 _ hat14 hr14 => ?_)
          obtain ⟨_, _, rfl, rfl, ⟨_, _, rfl, rfl, ⟨_, _, rfl, ⟨a14_2, c14_2, rfl, hm14_2, hr14_2⟩, ⟨_, _, rfl, rfl, ⟨_, _, rfl, rfl, ⟨a14_5, c14_5, rfl, hm14_5, hr14_5⟩⟩⟩⟩⟩⟩ := hr14
          have hR14_2 : Rep gl39 (.slice (.pair (.str) (.str))) [.slice a14_2 e15.2.2.1.length c14_2] e15.2.2.1 := ⟨a14_2, c14_2, rfl, hm14_2, hr14_2⟩
          have hR14_5 : Rep gl39 (.slice (.int .i64)) [.slice a14_5 e15.2.2.2.2.2.length c14_5] e15.2.2.2.2.2 := ⟨a14_5, c14_5, rfl, hm14_5, hr14_5⟩
          replace hat14 : At gl39 q14 o14 [.int .i64 e15.1, sv e15.2.1, .slice a14_2 e15.2.2.1.length c14_2, sv e15.2.2.2.1, .int .i64 e15.2.2.2.2.1, .slice a14_5 e15.2.2.2.2.2.length c14_5] := hat14
          refine Ok.op rfl (OpOk.step (v := .agg #[.int .i64 e15.1, sv e15.2.1, .slice a14_2 e15.2.2.1.length c14_2, sv e15.2.2.2.1, .int .i64 e15.2.2.2.2.1, .slice a14_5 e15.2.2.2.2.2.length c14_5]) (Yields.loadAggRo 0 6 #[.int .i64 e15.1, sv e15.2.1, .slice a14_2 e15.2.2.1.length c14_2, sv e15.2.2.2.1, .int .i64 e15.2.2.2.2.1, .slice a14_5 e15.2.2.2.2.2.length c14_5] hat14 (by kernel_rfl) Tryd.underlying46 rfl (by kernel_rfl) (by kernel_rfl) (by kernel_rfl)) rfl rfl ?_)
          have hL16 : RepL gl39 (.int .i64) [] [] := rfl
          refine Ok.ownNil 3 1 (Ok.op rfl (OpOk.alloc (z := .agg #[.int .i64 0, sv ([] : Bs), .slice none 0 0, sv ([] : Bs), .int .i64 0, .slice none ([] : List (Int)).length 0]) (cs := #[.int .i64 0, sv ([] : Bs), .slice none 0 0, sv ([] : Bs), .int .i64 0, .slice none ([] : List (Int)).length 0]) (by kernel_rfl) (by kernel_rfl) rfl fun b17 => ?_))
          refine Ok.bat 1 [2, 7, 8, 30, 31, 32] [(9, .int .i64 x32l39), (10, pv b17 0), (36, .agg #[.int .i64 e15.1, sv e15.2.1, .slice a14_2 e15.2.2.1.length c14_2, sv e15.2.2.2.1, .int .i64 e15.2.2.2.2.1, .slice a14_5 e15.2.2.2.2.2.length c14_5])] ?_
          refine Ok.op rfl (OpOk.sto (k := 6) (v := .agg #[.int .i64 e15.1, sv e15.2.1, .slice a14_2 e15.2.2.1.length c14_2, sv e15.2.2.2.1, .int .i64 e15.2.2.2.2.1, .slice a14_5 e15.2.2.2.2.2.length c14_5]) 0 #[.int .i64 e15.1, sv e15.2.1, .slice a14_2 e15.2.2.1.length c14_2, sv e15.2.2.2.1, .int .i64 e15.2.2.2.2.1, .slice a14_5 e15.2.2.2.2.2.length c14_5] rfl rfl rfl ?_)
          refine Ok.nil (Ok.thenN (Ok.seq (Ok.quiet' (by kernel_rfl) (by kernel_rfl) (OkQ.bat 1 [2, 7, 8, 9, 30, 31, 32] [(37, pv b17 5)] ?_))))
          refine OkQ.op rfl (OpQ.step (v := .slice a14_5 e15.2.2.2.2.2.length c14_5) (Yields.load 0 rfl rfl Tryd.underlying28 rfl (by kernel_rfl)) rfl rfl (OkQ.bat 1 [2, 7, 8, 9, 30, 31, 32] [(38, .slice a14_5 e15.2.2.2.2.2.length c14_5), (39, .slice ayown9_0l25 yown9_0l25.length cyown9_0l25)] ?_))
          refine OkQ.op rfl (OpQ.indexOwn (e := .int .i64) (q := 0) (el := e11) 2 rfl hLyown9_0l25 rfl rfl Tryd.underlying28 (by kernel_rfl) (by kernel_rfl) h011 he11 rfl fun cs18 _ hr18 hc18 => ?_)
          obtain rfl := hr18
          replace hc18 : ∀ j v, ([.int .i64 e11] : List Value)[j]? = some v → xsyown9_0l25[Int.toNat 0 * 1 + j]? = some v := hc18
          refine OkQ.op rfl (OpQ.step (v := .int .i64 e11) (Yields.loadOwn 2 0 rfl hc18 rfl Tryd.underlying3 rfl (by kernel_rfl)) rfl rfl ?_)
          obtain ⟨hp19, hF⟩ := hF
          refine OkQ.op rfl (OpQ.callG (v := .bool (ecoS e15.2.2.2.2.2 e11)) enr (fun W hW => eco_c e15.2.2.2.2.2 e11 (hR14_5.mono hW.sees) hp19) rfl ?_)
          refine OkQ.nil (Ok.thenN (Ok.cond (b := (ecoS e15.2.2.2.2.2 e11)) rfl (fun hc20 => ?_) (fun hc20 => ?_)))
          ·replace hF := hF.1 hc20
           refine Ok.region (Ok.bat 2 [2, 7, 30, 31, 32] [(8, .int .i64 x32l39)] ?_)
           refine Ok.nil (Ok.blockN (Ok.thenN ?_))
           subst hg15
           refine Ok.reval 8 rfl (show (.int .i64 x32l39 : Value) = .int .i64 (rwtV0 xd e11 x8l39 x32l39) from congrArg (Value.int .i64) ((if_t hc20).symm)) ?_
           exact fun a W hA hW => ⟨gl39, (Gext.refl w0 gl39), hA.sub (by kernel_rfl), hW.sub (.cons _ (.cons _ (.cons_cons _ (.cons_cons _ .slnil)))), hF⟩
          ·replace hF := hF.2 hc20
           refine Ok.skip (Ok.blockN (Ok.thenN ?_))
           subst hg15
           refine Ok.reval 8 rfl (show (.int .i64 x8l39 : Value) = .int .i64 (rwtV0 xd e11 x8l39 x32l39) from congrArg (Value.int .i64) ((if_f hc20).symm)) ?_
           exact fun a W hA hW => ⟨gl39, (Gext.refl w0 gl39), hA.sub (by kernel_rfl), hW.sub (.cons _ (.cons _ (.cons_cons _ (.cons_cons _ .slnil)))), hF⟩
         ·
          clear hF
          rintro a W ⟨gj46, hxj46, hA, hW, hF⟩
          refine (?_ : Ok _ _ _ _ _ _) a W hA hW
          clear hA hW
          replace hLyown9_0l25 := hLyown9_0l25.mono hxj46.1
          replace hRxd_0 := hRxd_0.mono hxj46.1
          refine Ok.region (Ok.bat 2 [2, 7, 8, 30, 31] [(32, .int .i64 (w6 (x32l39 + 1)))] ?_)
          refine Ok.nil (Ok.thenN ?_)
          exact fun a W hA hW => ⟨k39, Nat.lt_succ_self _, gj46, (hxl39.trans hxj46), (rwtV0 xd e11 x8l39 x32l39), w6 (x32l39 + 1), hA.sub (by kernel_rfl), hW, hF⟩
        ·replace hF := hF.2 hc13
         refine Ok.exit (Ok.thenE (Ok.thenE (Ok.blockHit (Ok.thenN (Ok.seq (Ok.seq (Ok.region (Ok.bat 2 [2, 7, 8] [(46, .bool (decide (x8l39 < 0)))] ?_))))))))
         refine Ok.nil (Ok.thenN (Ok.cond (b := decide (x8l39 < 0)) rfl (fun hc21 => ?_) (fun hc21 => ?_)))
         ·replace hF := hF.1 hc21
          refine Ok.seq (Ok.region (Ok.batch 1 [(4, .slice none 0 0)] (by kernel_rfl) ?_))
          have hL22 : RepL gl39 (.int .i64) [] [] := rfl
          refine Ok.ownNil 3 1 (Ok.batch 1 [(4, .slice none ([] : List (Int)).length 0), (5, .int .i64 5)] (by kernel_rfl) (Ok.nil (Ok.thenN (Ok.ret (Ok.thenR (Ok.blockR (Ok.thenR (Ok.blockR (Ok.thenR (Ok.frz 0 rfl hL22 fun g23 hx23 hRf23 => ?_))))))))))
          replace hLyown9_0l25 := hLyown9_0l25.mono hx23.1
          replace hRxd_0 := hRxd_0.mono hx23.1
          exact Ok.resP (vs := [.slice none ([] : List (Int)).length 0, .int .i64 5]) [] [] (by decide) rfl (.inl rfl) rfl (.cons (.tmp rfl) (.cons (.tmp rfl) .nil)) ((hxl25.trans hxl39).trans hx23) ⟨([] : List (Int)), 5, none, 0, rfl, hRf23, rfl, hF⟩
         ·replace hF := hF.2 hc21
          refine Ok.skip (Ok.thenN (Ok.region (Ok.bat 1 [2, 7] [(47, .int .i64 x8l39)] ?_)))
          have hL24 : RepL gl39 (.int .i64) ([.int .i64 x8l39] : List Value) ([x8l39] : List (Int)) := (RepL.consN (c := [.int .i64 x8l39]) rfl rfl)
          refine Ok.op rfl (OpOk.lit (E := 3) (.int .i64) ([x8l39] : List (Int)) ([.int .i64 x8l39] : List Value) (by kernel_rfl) (by kernel_rfl) rfl (by kernel_rfl) hL24 rfl fun b24 => ?_)
          refine Ok.bat 1 [2] [(48, .slice (some ⟨b24, 0, none⟩) ([x8l39] : List (Int)).length 1), (49, .slice ayown9_0l25 yown9_0l25.length cyown9_0l25)] ?_
          obtain ⟨hb25, hF⟩ := hF
          refine Ok.op rfl (OpOk.append' (e := .int .i64) 8 17592186044416 0 1 rfl rfl rfl rfl hL24 hLyown9_0l25 Tryd.underlying28 (by kernel_rfl) (by kernel_rfl) (by kernel_rfl) hb25 rfl fun a25 c25 xs25 hL25 => ?_)
          refine Ok.bat 1 [2] [(7, .slice a25 (([x8l39] : List (Int)) ++ yown9_0l25).length c25)] ?_
          refine Ok.nil (Ok.blockN (Ok.thenN ?_))
          subst hg11
          exact fun a W hA hW => ⟨k25, Nat.lt_succ_self _, gl39, (hxl25.trans hxl39), a25, c25, (([x8l39] : List (Int)) ++ yown9_0l25), xs25, hL25, hA.sub (by kernel_rfl), hW.sub (.cons_cons _ (.cons _ (.cons_cons _ .slnil))), hF⟩
     ·replace hF := hF.2 hc12
      refine Ok.exit (Ok.thenE (Ok.thenE (Ok.blockHit (Ok.thenN (Ok.seq (Ok.region (Ok.batch 3 [(4, .slice ayown9_0l25 yown9_0l25.length cyown9_0l25), (5, .int .i64 0)] (by kernel_rfl) (Ok.nil (Ok.thenN (Ok.ret (Ok.frz 0 rfl hLyown9_0l25 fun g26 hx26 hRf26 => ?_)))))))))))
      replace hRxd_0 := hRxd_0.mono hx26.1
      exact Ok.resP (vs := [.slice ayown9_0l25 yown9_0l25.length cyown9_0l25, .int .i64 0]) [] [] (by decide) rfl (.inl rfl) rfl (.cons (.tmp rfl) (.cons (.tmp rfl) .nil)) (hxl25.trans hx26) ⟨yown9_0l25, 0, ayown9_0l25, cyown9_0l25, rfl, hRf26, rfl, hF⟩
/-- the last node that has it among its kids -/
theorem kid_last {l : List ND} (h : KGood l) {m : Int} (h0 : 0 ≤ m) (h1 : m < (l.length : Int)) {i : Nat} (hi : i < l.length) : ecoS (kidsOf l i) m = true ↔ par l m.toNat = (i : Int) := by
 rw [eco_iff]
 constructor
 ·intro hm; exact (h.kid i hi m hm).2.2
 ·intro hp
  rcases h.up m.toNat (by omega) with h2 | ⟨j, hj, h2, h3⟩
  ·omega
  ·have : j = i := by omega
   subst this
   rwa [Int.toNat_of_nonneg h0] at h3
/-- different numbers below n: at most n -/
theorem few_of {l : List Int} (h : l.Nodup) (n : Nat) (hb : ∀ k ∈ l, 0 ≤ k ∧ k < (n : Int)) : l.length ≤ n := by
 have h2 : (l.map Int.toNat).Nodup := by
  refine List.pairwise_map.2 (List.Pairwise.imp_of_mem (fun {a b} ha hb2 hab => ?_) h)
  have := hb a ha
  have := hb b hb2
  omega
 have := List.Nodup.length_le_of_subset (l₁ := l.map Int.toNat) (l₂ := List.range n) h2 fun k hk => by
  obtain ⟨x, hx, rfl⟩ := List.mem_map.1 hk
  have := hb x hx
  exact List.mem_range.2 (by omega)
 rwa [List.length_map, List.length_range] at this
theorem rwt_F (d : DC) (n : Int) (hp : epaP d n) : rwtF d n (fun a b => (a, b) = epaS d n) := by
 refine ⟨hp, fun h => by unfold epaS; rw [if_t h], fun h => ?_⟩
 have hG := (dchk_sp d hp).2 (by simpa using h)
 have h200 := hG.few
 have hK := hG.kids
 have hb : (!(rbtM n 0 (w6 ((d.1.length : Int) - 1)))) = (decide (n < 0) || decide (n ≥ (d.1.length : Int))) := by
  rw [w64 (by omega)]
  unfold rbtM
  by_cases h1 : n < 0
  ·rw [decide_eq_true h1, decide_eq_false (show ¬ (n ≥ 0) by omega)]; rfl
  ·by_cases h2 : n ≥ (d.1.length : Int)
   ·rw [decide_eq_true h2, decide_eq_false (show ¬ (n ≤ (d.1.length : Int) - 1) by omega)]; simp
   ·rw [decide_eq_false h1, decide_eq_false h2, decide_eq_true (show n ≥ 0 by omega), decide_eq_true (show n ≤ (d.1.length : Int) - 1 by omega)]; rfl
 rw [hb]
 refine ⟨fun h2 => by unfold epaS; rw [if_f h, if_t h2], fun h2 => ?_⟩
 have hR : epaS d n = finC (chainN d.1 41 n) := by unfold epaS; rw [if_f h, if_f h2]
 generalize epaS d n = R at hR ⊢
 simp only [Bool.or_eq_false_iff, decide_eq_false_iff_not] at h2
 have kids : ∀ x ∈ d.1, x.2.2.2.2.2.length ≤ 1000000 := fun x hx => by
  obtain ⟨i, hi, rfl⟩ := List.getElem_of_mem hx
  have hnd := hK.nodup i hi
  have e : kidsOf d.1 i = d.1[i].2.2.2.2.2 := by unfold kidsOf; rw [List.getD_eq_getElem?_getD, List.getElem?_eq_getElem hi, Option.getD_some]
  rw [e] at hnd
  have := few_of hnd d.1.length fun k hk => by
   have := hK.kid i hi k (by rw [e]; exact hk)
   exact ⟨this.1, this.2.1⟩
  omega
 have inner : ∀ (m : Int) (acc : List Int) (C : List Int → Prop), 0 ≤ m → m < (d.1.length : Int) → acc.length ≤ 1000 → (par d.1 m.toNat < 0 → (([] : List Int), (5 : Int)) = R) → (0 ≤ par d.1 m.toNat → C ([par d.1 m.toNat] ++ acc)) → ∀ (q i : Nat) (u : Int), i + q = d.1.length → u = (if 0 ≤ par d.1 m.toNat ∧ par d.1 m.toNat < (i : Int) then par d.1 m.toNat else -1) → rwtl39 d (fun a b => (a, b) = R) m acc C (q + 1) u (i : Int) := by
  intro m acc C h0 h1 ha hno hyes q
  induction q with
  | zero =>
   intro i u hi hu
   refine ⟨fun h => by have := of_decide_eq_true h; omega, fun _ => ⟨fun h => ?_, fun h => ?_⟩⟩
   ·have h := of_decide_eq_true h
    refine hno ?_
    apply Classical.byContradiction
    intro hn
    have hin := up_in hK h0 h1 (by omega)
    rw [if_pos ⟨by omega, by omega⟩] at hu
    omega
   ·have h := of_decide_eq_false h
    by_cases hc : 0 ≤ par d.1 m.toNat ∧ par d.1 m.toNat < (i : Int)
    ·rw [if_pos hc] at hu
     rw [hu]
     exact ⟨by rw [List.length_append, List.length_singleton]; omega, hyes hc.1⟩
    ·rw [if_neg hc] at hu; omega
  | succ q ih =>
   intro i u hi hu
   have hil : i < d.1.length := by omega
   have hkl := kid_last hK h0 h1 hil
   have j46 : rwtj46 d m u (i : Int) (rwtl39 d (fun a b => (a, b) = R) m acc C (q + 1)) := by
    unfold rwtj46
    rw [w64 (by omega)]
    refine ih (i + 1) _ (by omega) ?_
    have e : ecoS (d.1.getD (Int.toNat (i : Int)) default).2.2.2.2.2 m = ecoS (kidsOf d.1 i) m := rfl
    unfold rwtV0
    rw [e]
    by_cases hc : ecoS (kidsOf d.1 i) m = true
    ·have := hkl.1 hc
     rw [if_pos hc, if_pos ⟨by omega, by omega⟩]; exact this.symm
    ·have hne : par d.1 m.toNat ≠ (i : Int) := fun h => hc (hkl.2 h)
     rw [if_neg hc, hu]
     by_cases h3 : 0 ≤ par d.1 m.toNat ∧ par d.1 m.toNat < (i : Int)
     ·rw [if_pos h3, if_pos ⟨h3.1, by omega⟩]
     ·rw [if_neg h3, if_neg (by omega)]
   exact ⟨fun _ => ⟨by omega, by omega, by rw [Int.toNat_natCast]; exact kids _ (mem_getD default hil), two j46⟩, fun h => by have := of_decide_eq_false h; omega⟩
 have outer : ∀ (k : Nat) (m : Int) (acc : List Int), Ends d.1 k m → 0 ≤ m → m < (d.1.length : Int) → (m :: acc).length + k ≤ 1000 → R = finC (acc.reverse ++ chainN d.1 k m) → rwtl25 d (fun a b => (a, b) = R) (k + 1) (m :: acc) := by
  intro k
  induction k with
  | zero => intro m acc h h0; have h : m < 0 := h; omega
  | succ k ih =>
   intro m acc he h0 h1 hl hR
   rcases he with he | ⟨-, he⟩
   ·omega
   have hch : chainN d.1 (k + 1) m = m :: chainN d.1 k (par d.1 m.toNat) := by rw [chainN, if_f (decide_eq_false (by omega))]
   rw [hch] at hR
   refine ⟨Int.le_refl _, by show 0 < _; simp, fun hm => ⟨d.1.length + 1, ?_⟩, fun hm => ?_⟩
   ·have hm : (m != 0) = true := hm
    refine inner m (m :: acc) _ h0 h1 (by rw [List.length_cons] at hl ⊢; omega) (fun hneg => ?_) (fun hpos => ?_) d.1.length 0 (-1) (by omega) (by rw [if_neg (by omega)])
    ·have e0 : chainN d.1 k (par d.1 m.toNat) = [] := by
      cases k with
      | zero => rfl
      | succ k => rw [chainN, if_t (decide_eq_true hneg)]
     rw [e0] at hR
     rw [hR]
     unfold finC
     rw [List.reverse_append, List.reverse_reverse]
     rw [if_t (show (([m].reverse ++ acc).getD (Int.toNat 0) default != 0) = true from hm)]
    ·exact ih (par d.1 m.toNat) (m :: acc) he hpos (up_in hK h0 h1 hpos) (by simp only [List.length_cons] at hl ⊢; omega) (by rw [List.reverse_cons, List.append_assoc]; exact hR)
   ·have hm : (m != 0) = false := hm
    have hz : m = 0 := by simpa using hm
    have e0 : chainN d.1 k (par d.1 m.toNat) = [] := by
     subst hz
     rw [show par d.1 (Int.toNat 0) = -1 from hK.root]
     cases k with
     | zero => rfl
     | succ k => rfl
    rw [e0] at hR
    show (m :: acc, (0 : Int)) = R
    rw [hR]
    unfold finC
    rw [List.reverse_append, List.reverse_reverse]
    rw [if_f (show (([m].reverse ++ acc).getD (Int.toNat 0) default != 0) = false from hm)]; rfl
 refine ⟨42, outer 41 n [] ?_ (by omega) (by omega) (by simp) hR⟩
 have := ends_ok hG (n := n.toNat) (by omega)
 rwa [Int.toNat_of_nonneg (by omega)] at this
theorem rwt_c {g : Ghost} {axd_0 : Option Addr} {cxd_0 : Nat} (xd : (List (Int × Bs × (List (Bs × Bs)) × Bs × Int × List (Int))) × Bool) (xn : Int) (hRxd_0 : Rep g (.slice (.pair (.int .i64) (.pair (.str) (.pair (.slice (.pair (.str) (.str))) (.pair (.str) (.pair (.int .i64) (.slice (.int .i64)))))))) [.slice axd_0 xd.1.length cxd_0] xd.1)  (hp : epaP xd xn) : CallsH Tryd.prog 6 #[.agg #[.slice axd_0 xd.1.length cxd_0, .bool xd.2], .int .i64 xn] g [] (fun g' H' v => ∃ (ar0_0 : Option Addr) (cr0_0 : Nat), v = .tuple #[.slice ar0_0 ((epaS xd xn).1).length cr0_0, .int .i64 (epaS xd xn).2] ∧ Rep g' (.slice (.int .i64)) [.slice ar0_0 ((epaS xd xn).1).length cr0_0] (epaS xd xn).1 ∧ H' = []) :=
 (rwt_ok xd xn hRxd_0 _ (rwt_F xd xn hp)).mono (by rintro g' H' v _ ⟨r0, r1, ar0_0, cr0_0, rfl, hRr0_0, rfl, hK⟩; obtain ⟨rfl, rfl⟩ : r0 = (epaS xd xn).1 ∧ r1 = (epaS xd xn).2 := ⟨congrArg (fun z => z.1) hK, congrArg (fun z => z.2) hK⟩; exact ⟨ar0_0, cr0_0, rfl, hRr0_0, rfl⟩)
/-! the reference's sending -/
abbrev RS := Bool × Bool × List Int × List HD
def hearR (e : EV) (a : SP) (s : RS) (x : LI) : RS := (s.1 || (x.2.2.2.2.2.1 || x.2.2.2.2.2.2.1), s.2.1 || (x.2.2.2.2.2.2.2 && e.2.2.2.2.2.2), if x.2.2.2.2.1 = true then s.2.2.1 ++ [x.1] else s.2.2.1, s.2.2.2 ++ [(x.1, x.2.1, a.2.1)])
def atR (e : EV) (a : SP) : List LI → RS → RS
 | [], s => s
 | x :: l, s => if hitP e a x = true then (if x.2.2.2.2.2.2.1 = true then hearR e a s x else atR e a l (hearR e a s x)) else atR e a l s
def stR (e : EV) (l : List LI) (s : RS) (a : SP) : RS := if s.1 = true then s else atR e a l s
def toR (s : PS) : RS := (s.1 || s.2.1, s.2.2.1, s.2.2.2.2, s.2.2.2.1)
theorem do_all (e : EV) (a : SP) : ∀ (l : List LI) (s : PS), s.2.1 = true → doP e a l s = s
 | [], _, _ => rfl
 | x :: l, s, h => by
  have hn : nextP e a s x = s := by unfold nextP; rw [h]; rfl
  rw [doP, hn]; exact do_all e a l s h
theorem at_eq (e : EV) (a : SP) : ∀ (l : List LI) (s : PS), s.2.1 = false → toR (doP e a l s) = atR e a l (toR s)
 | [], _, _ => rfl
 | x :: l, s, h => by
  rw [doP, atR]
  cases hh : hitP e a x with
  | false =>
   have hn : nextP e a s x = s := by unfold nextP; rw [hh, Bool.and_false]; rfl
   rw [hn, if_f rfl]; exact at_eq e a l s h
  | true =>
   have hn : nextP e a s x = hearP e a s x := by unfold nextP; rw [hh, h]; rfl
   have hr : toR (hearP e a s x) = hearR e a (toR s) x := by
    unfold hitP at hh
    rw [Bool.and_eq_true] at hh
    have h1 := eq_of_beq hh.1
    unfold toR hearP hearR
    rw [h1, h]
    simp [Bool.or_assoc]
   rw [hn, if_t rfl]
   by_cases hs : x.2.2.2.2.2.2.1 = true
   ·rw [if_pos hs, do_all e a l _ (by show (s.2.1 || x.2.2.2.2.2.2.1) = true; rw [hs, Bool.or_true]), hr]
   ·rw [if_neg hs, at_eq e a l _ (by show (s.2.1 || x.2.2.2.2.2.2.1) = false; rw [h]; simpa using hs), hr]
theorem st_eq (e : EV) (l : List LI) (s : PS) (a : SP) : toR (stepP e l s a) = stR e l (toR s) a := by
 unfold stepP stR
 have h : (toR s).1 = (s.1 || s.2.1) := rfl
 rw [h]
 cases h1 : s.1 <;> cases h2 : s.2.1
 ·exact at_eq e a l s h2
 ·rfl
 ·rfl
 ·rfl
theorem run_eq (e : EV) (l : List LI) : ∀ (sts : List SP) (s : PS), toR (runP e l sts s) = sts.foldl (stR e l) (toR s)
 | [], _ => rfl
 | a :: sts, s => by
  show toR (runP e l sts (stepP e l s a)) = sts.foldl (stR e l) (stR e l (toR s) a)
  rw [run_eq e l sts, st_eq]
def finR (l : List LI) (s : RS) : List HD × Bool × List LI × Int := (s.2.2.2, s.2.1, l.filter (fun x => !(ecoS s.2.2.1 x.1)), 0)
theorem at_len (e : EV) (a : SP) : ∀ (l : List LI) (s : RS), (atR e a l s).2.2.1.length ≤ s.2.2.1.length + l.length ∧ (atR e a l s).2.2.2.length ≤ s.2.2.2.length + l.length
 | [], s => ⟨Nat.le_refl _, Nat.le_refl _⟩
 | x :: l, s => by
  have h1 : (hearR e a s x).2.2.1.length ≤ s.2.2.1.length + 1 := by unfold hearR; simp only []; split <;> simp
  have h2 : (hearR e a s x).2.2.2.length ≤ s.2.2.2.length + 1 := by unfold hearR; simp
  rw [atR, List.length_cons]
  split
  ·split
   ·exact ⟨by omega, by omega⟩
   ·have := at_len e a l (hearR e a s x); exact ⟨by omega, by omega⟩
  ·have := at_len e a l s; exact ⟨by omega, by omega⟩
theorem st_len (e : EV) (l : List LI) (s : RS) (a : SP) : (stR e l s a).2.2.1.length ≤ s.2.2.1.length + l.length ∧ (stR e l s a).2.2.2.length ≤ s.2.2.2.length + l.length := by
 unfold stR
 split
 ·exact ⟨by omega, by omega⟩
 ·exact at_len e a l s
end
end Go.Proofs.YtbifbljdmndjbaaDoor.Ev
