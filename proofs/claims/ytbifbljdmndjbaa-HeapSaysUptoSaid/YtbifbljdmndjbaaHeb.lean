/- Heaps: the reference, and HeapAlike. -/
import Derived.Test.YtbifbljdmndjbaaHea
namespace Go.Proofs.Ytbifbljdmndjbaa.Hp
open Go Go.Eng Go.RowKit
set_option linter.unusedVariables false
def seql15b (xs1 : List (List UInt8)) (xs2 : List (List UInt8)) (K : Bool → Prop) (x13l15 : Int) (C15 : Int → Prop) : Prop :=
  ((decide (x13l15 < (xs1.length : Int))) = true → (0 : Int) ≤ x13l15 ∧ Int.toNat x13l15 < xs1.length ∧ (0 : Int) ≤ x13l15 ∧ Int.toNat x13l15 < xs2.length ∧ ((!((xs1.getD (Int.toNat x13l15) default) == (xs2.getD (Int.toNat x13l15) default))) = true → K false) ∧ ((!((xs1.getD (Int.toNat x13l15) default) == (xs2.getD (Int.toNat x13l15) default))) = false → C15 (IntKind.wrap .i64 (x13l15 + 1)))) ∧ ((decide (x13l15 < (xs1.length : Int))) = false → K true)
def seql15 (xs1 : List (List UInt8)) (xs2 : List (List UInt8)) (K : Bool → Prop) : Nat → Int → Prop
  | 0, _ => False
  | k + 1, x13l15 => seql15b xs1 xs2 K x13l15 (seql15 xs1 xs2 K k)
def seqF (xs1 : List (List UInt8)) (xs2 : List (List UInt8)) (K : Bool → Prop) : Prop :=
  ((((xs1.length : Int) != (xs2.length : Int))) = true → K false) ∧ ((((xs1.length : Int) != (xs2.length : Int))) = false → ∃ k, seql15 xs1 xs2 K k 0)
set_option maxHeartbeats 4000000 in
set_option maxRecDepth 100000 in
set_option linter.unusedVariables false in
theorem seq_ok {g : Ghost} {axs1_0 : Option Addr} {cxs1_0 : Nat} (xs1 : List (List UInt8)) {axs2_0 : Option Addr} {cxs2_0 : Nat} (xs2 : List (List UInt8)) (hRxs1_0 : Rep g (.slice (.str)) [.slice axs1_0 xs1.length cxs1_0] xs1) (hRxs2_0 : Rep g (.slice (.str)) [.slice axs2_0 xs2.length cxs2_0] xs2) (K : Bool → Prop)
    (hF : seqF xs1 xs2 K) : CallsH Try.prog 39 #[.slice axs1_0 xs1.length cxs1_0, .slice axs2_0 xs2.length cxs2_0] g [] (fun g' H' v => ∃ (r0 : Bool), v = .bool r0 ∧ H' = [] ∧ K r0) := by
  refine CallsH.enter 26 [(0, .slice axs1_0 xs1.length cxs1_0), (1, .slice axs2_0 xs2.length cxs2_0)] Try.func39 rfl (by kernel_rfl) (by kernel_rfl) (by kernel_rfl) fun w0 => ?_
  refine Ok.seq ?_
  refine Ok.region ?_
  refine Ok.batch 1 [(0, .slice axs1_0 xs1.length cxs1_0), (1, .slice axs2_0 xs2.length cxs2_0)] (by kernel_rfl) ?_
  refine Ok.nil ?_
  refine Ok.thenN ?_
  refine Ok.seq ?_
  refine Ok.seq ?_
  refine Ok.region ?_
  refine Ok.batch 5 [(0, .slice axs1_0 xs1.length cxs1_0), (1, .slice axs2_0 xs2.length cxs2_0), (10, .bool ((xs1.length : Int) != (xs2.length : Int)))] (by kernel_rfl) ?_
  refine Ok.nil ?_
  refine Ok.thenN ?_
  refine Ok.cond (b := ((xs1.length : Int) != (xs2.length : Int))) rfl (fun hc1 => ?_) (fun hc1 => ?_)
  · replace hF := hF.1 hc1
    refine Ok.seq ?_
    refine Ok.region ?_
    refine Ok.batch 1 [(4, .bool false)] (by kernel_rfl) ?_
    refine Ok.nil ?_
    refine Ok.thenN ?_
    refine Ok.ret ?_
    refine Ok.thenR ?_
    exact Ok.resH (vs := [.bool false]) (.inl rfl) rfl (.cons (.tmp rfl) .nil) (Gext.refl w0 g) ⟨false, rfl, rfl, hF⟩
  · replace hF := hF.2 hc1
    refine Ok.skip ?_
    refine Ok.thenN ?_
    refine Ok.seq ?_
    refine Ok.seq ?_
    refine Ok.region ?_
    refine Ok.batch 3 [(0, .slice axs1_0 xs1.length cxs1_0), (1, .slice axs2_0 xs2.length cxs2_0), (12, .int .i64 (xs1.length : Int)), (13, .int .i64 0)] (by kernel_rfl) ?_
    refine Ok.nil ?_
    refine Ok.thenN ?_
    refine Ok.block ?_
    obtain ⟨k, hF⟩ := hF
    refine Ok.loop (fun k a W => ∃ (x13l15 : Int), StA 26 [(0, .slice axs1_0 xs1.length cxs1_0), (1, .slice axs2_0 xs2.length cxs2_0), (12, .int .i64 (xs1.length : Int)), (13, .int .i64 x13l15)] a ∧ StW w0 [] g W ∧ seql15 xs1 xs2 K k x13l15) k ?_ ?_
    ·
      exact fun a W hA hW => ⟨0, hA.sub (by kernel_rfl), hW, hF⟩
    ·
      clear hF
      rintro k15 a W ⟨x13l15, hA, hW, hF⟩
      cases k15 with
      | zero => exact (hF : False).elim
      | succ k15 =>
        refine (?_ : Ok _ _ _ _ _ _) a W hA hW
        clear hA hW
        refine Ok.seq ?_
        refine Ok.region ?_
        refine Ok.batch 1 [(0, .slice axs1_0 xs1.length cxs1_0), (1, .slice axs2_0 xs2.length cxs2_0), (12, .int .i64 (xs1.length : Int)), (13, .int .i64 x13l15), (14, .bool (decide (x13l15 < (xs1.length : Int))))] (by kernel_rfl) ?_
        refine Ok.nil ?_
        refine Ok.thenN ?_
        refine Ok.seq ?_
        refine Ok.cond (b := decide (x13l15 < (xs1.length : Int))) rfl (fun hc2 => ?_) (fun hc2 => ?_)
        · replace hF := hF.1 hc2
          refine Ok.skip ?_
          refine Ok.thenN ?_
          refine Ok.seq ?_
          refine Ok.block ?_
          refine Ok.seq ?_
          refine Ok.region ?_
          refine Ok.batch 2 [(0, .slice axs1_0 xs1.length cxs1_0), (1, .slice axs2_0 xs2.length cxs2_0), (5, .int .i64 x13l15), (12, .int .i64 (xs1.length : Int)), (13, .int .i64 x13l15)] (by kernel_rfl) ?_
          refine Ok.nil ?_
          refine Ok.thenN ?_
          refine Ok.seq ?_
          refine Ok.quiet' (by kernel_rfl) (by kernel_rfl) ?_
          refine OkQ.batch 2 [(0, .slice axs1_0 xs1.length cxs1_0), (1, .slice axs2_0 xs2.length cxs2_0), (5, .int .i64 x13l15), (12, .int .i64 (xs1.length : Int)), (13, .int .i64 x13l15), (16, .slice axs1_0 xs1.length cxs1_0), (17, .int .i64 x13l15)] (by kernel_rfl) ?_
          obtain ⟨h04, h14, hF⟩ := hF
          have he4 := get_of (l := xs1) (default : List UInt8) h14
          generalize hg4 : (xs1.getD (Int.toNat x13l15) default) = e4 at he4 hF ⊢
          refine OkQ.op rfl (OpQ.indexRo (e := .str) (i := x13l15) (el := e4) rfl rfl Try.underlying70 (by kernel_rfl) hRxs1_0 h04 he4 rfl fun q3 o3 cs3 _ hat3 hr3 => ?_)
          obtain rfl := hr3
          replace hat3 : At g q3 o3 [.string ⟨⟨e4⟩⟩] := hat3
          refine OkQ.op rfl (OpQ.step (v := .string ⟨⟨e4⟩⟩) (Yields.loadRo 0 hat3 (by kernel_rfl) Try.underlying9 rfl (by kernel_rfl)) rfl rfl ?_)
          refine OkQ.batch 2 [(0, .slice axs1_0 xs1.length cxs1_0), (1, .slice axs2_0 xs2.length cxs2_0), (12, .int .i64 (xs1.length : Int)), (13, .int .i64 x13l15), (19, .string ⟨⟨e4⟩⟩), (20, .slice axs2_0 xs2.length cxs2_0), (21, .int .i64 x13l15)] (by kernel_rfl) ?_
          obtain ⟨h06, h16, hF⟩ := hF
          have he6 := get_of (l := xs2) (default : List UInt8) h16
          generalize hg6 : (xs2.getD (Int.toNat x13l15) default) = e6 at he6 hF ⊢
          refine OkQ.op rfl (OpQ.indexRo (e := .str) (i := x13l15) (el := e6) rfl rfl Try.underlying70 (by kernel_rfl) hRxs2_0 h06 he6 rfl fun q5 o5 cs5 _ hat5 hr5 => ?_)
          obtain rfl := hr5
          replace hat5 : At g q5 o5 [.string ⟨⟨e6⟩⟩] := hat5
          refine OkQ.op rfl (OpQ.step (v := .string ⟨⟨e6⟩⟩) (Yields.loadRo 0 hat5 (by kernel_rfl) Try.underlying9 rfl (by kernel_rfl)) rfl rfl ?_)
          refine OkQ.op rfl (OpQ.step (v := .bool (!(e4 == e6))) (Yields.strCmp (f := .neq) (a := e4) (b := e6) (by kernel_rfl) (by kernel_rfl) rfl) rfl rfl ?_)
          refine OkQ.nil ?_
          refine Ok.thenN ?_
          refine Ok.cond (b := !(e4 == e6)) rfl (fun hc7 => ?_) (fun hc7 => ?_)
          · replace hF := hF.1 hc7
            refine Ok.seq ?_
            refine Ok.region ?_
            refine Ok.batch 1 [(4, .bool false)] (by kernel_rfl) ?_
            refine Ok.nil ?_
            refine Ok.thenN ?_
            refine Ok.ret ?_
            refine Ok.blockR ?_
            refine Ok.thenR ?_
            refine Ok.thenR ?_
            refine Ok.blockR ?_
            refine Ok.thenR ?_
            exact Ok.resH (vs := [.bool false]) (.inl rfl) rfl (.cons (.tmp rfl) .nil) (Gext.refl w0 g) ⟨false, rfl, rfl, hF⟩
          · replace hF := hF.2 hc7
            refine Ok.skip ?_
            refine Ok.blockN ?_
            refine Ok.thenN ?_
            refine Ok.region ?_
            refine Ok.batch 2 [(0, .slice axs1_0 xs1.length cxs1_0), (1, .slice axs2_0 xs2.length cxs2_0), (12, .int .i64 (xs1.length : Int)), (13, .int .i64 (IntKind.wrap .i64 (x13l15 + 1)))] (by kernel_rfl) ?_
            refine Ok.nil ?_
            refine Ok.thenN ?_
            subst hg6
            subst hg4
            exact fun a W hA hW => ⟨k15, Nat.lt_succ_self _, IntKind.wrap .i64 (x13l15 + 1), hA.sub (by kernel_rfl), hW, hF⟩
        · replace hF := hF.2 hc2
          refine Ok.exit ?_
          refine Ok.thenE ?_
          refine Ok.thenE ?_
          refine Ok.blockHit ?_
          refine Ok.thenN ?_
          refine Ok.seq ?_
          refine Ok.region ?_
          refine Ok.batch 1 [(4, .bool true)] (by kernel_rfl) ?_
          refine Ok.nil ?_
          refine Ok.thenN ?_
          refine Ok.ret ?_
          exact Ok.resH (vs := [.bool true]) (.inl rfl) rfl (.cons (.tmp rfl) .nil) (Gext.refl w0 g) ⟨true, rfl, rfl, hF⟩
def seqS (a b : List (List UInt8)) : Bool := a == b
def seqP (a b : List (List UInt8)) : Prop := a.length ≤ 1000000 ∧ b.length ≤ 1000000
theorem seq_F (p q : List (List UInt8)) (hp : seqP p q) : seqF p q (fun r => r = seqS p q) := by
  obtain ⟨hp1, hp2⟩ := hp
  unfold seqS
  refine ⟨fun h => ?_, fun h => ?_⟩
  · have h : p.length ≠ q.length := by rw [bne_iff_ne] at h; omega
    have : (p == q) = false := by
      rw [beq_eq_false_iff_ne]
      intro h2; exact h (congrArg List.length h2)
    rw [this]
  · have hlen : p.length = q.length := by
      rw [bne_eq_false_iff_eq] at h; omega
    have loop : ∀ (k i : Nat), i + k = p.length → (p == q) = (p.drop i == q.drop i) → seql15 p q (fun r => r = (p == q)) (k + 1) (i : Int) := by
      intro k
      induction k with
      | zero =>
        intro i h1 he
        rw [List.drop_of_length_le (by omega), List.drop_of_length_le (by omega)] at he
        exact ⟨fun h => by have := of_decide_eq_true h; omega, fun _ => by rw [he]; rfl⟩
      | succ k ih =>
        intro i h1 he
        have hi : i < p.length := by omega
        rw [drop_get (l := p) default hi, drop_get (l := q) default (by omega)] at he
        refine ⟨fun _ => ?_, fun h => by have := of_decide_eq_false h; omega⟩
        rw [Int.toNat_natCast]
        refine ⟨by omega, by omega, by omega, by omega, fun h => ?_, fun h => ?_⟩
        · have h : (p.getD i default == q.getD i default) = false := by rw [Bool.not_eq_true'] at h; exact h
          rw [he, List.cons_beq_cons, h]; rfl
        · have h : (p.getD i default == q.getD i default) = true := by rw [Bool.not_eq_false'] at h; exact h
          rw [w64 (by omega)]
          refine ih (i + 1) (by omega) ?_
          rw [he, List.cons_beq_cons, h]; rfl
    exact ⟨_, loop p.length 0 (by omega) rfl⟩
set_option linter.unusedVariables false in
theorem seq_c {g : Ghost} {axs1_0 : Option Addr} {cxs1_0 : Nat} (xs1 : List (List UInt8)) {axs2_0 : Option Addr} {cxs2_0 : Nat} (xs2 : List (List UInt8)) (hRxs1_0 : Rep g (.slice (.str)) [.slice axs1_0 xs1.length cxs1_0] xs1) (hRxs2_0 : Rep g (.slice (.str)) [.slice axs2_0 xs2.length cxs2_0] xs2)  (hp : seqP xs1 xs2) : CallsG Try.prog 39 #[.slice axs1_0 xs1.length cxs1_0, .slice axs2_0 xs2.length cxs2_0] g (.bool (seqS xs1 xs2)) :=
  (seq_ok xs1 xs2 hRxs1_0 hRxs2_0 _ (seq_F xs1 xs2 hp)).gives (by rintro g' H' v _ ⟨r0, rfl, rfl, hK⟩; subst hK; rfl)
def veql15b (xs1 : List (JV)) (xs2 : List (JV)) (K : Bool → Prop) (x13l15 : Int) (C15 : Int → Prop) : Prop :=
  ((decide (x13l15 < (xs1.length : Int))) = true → (0 : Int) ≤ x13l15 ∧ Int.toNat x13l15 < xs1.length ∧ (0 : Int) ≤ x13l15 ∧ Int.toNat x13l15 < xs2.length ∧ ((!([((xs1.getD (Int.toNat x13l15) default).1 == (xs2.getD (Int.toNat x13l15) default).1), ((xs1.getD (Int.toNat x13l15) default).2.1 == (xs2.getD (Int.toNat x13l15) default).2.1), ((xs1.getD (Int.toNat x13l15) default).2.2 == (xs2.getD (Int.toNat x13l15) default).2.2)].all id)) = true → K false) ∧ ((!([((xs1.getD (Int.toNat x13l15) default).1 == (xs2.getD (Int.toNat x13l15) default).1), ((xs1.getD (Int.toNat x13l15) default).2.1 == (xs2.getD (Int.toNat x13l15) default).2.1), ((xs1.getD (Int.toNat x13l15) default).2.2 == (xs2.getD (Int.toNat x13l15) default).2.2)].all id)) = false → C15 (IntKind.wrap .i64 (x13l15 + 1)))) ∧ ((decide (x13l15 < (xs1.length : Int))) = false → K true)
def veql15 (xs1 : List (JV)) (xs2 : List (JV)) (K : Bool → Prop) : Nat → Int → Prop
  | 0, _ => False
  | k + 1, x13l15 => veql15b xs1 xs2 K x13l15 (veql15 xs1 xs2 K k)
def veqF (xs1 : List (JV)) (xs2 : List (JV)) (K : Bool → Prop) : Prop :=
  ((((xs1.length : Int) != (xs2.length : Int))) = true → K false) ∧ ((((xs1.length : Int) != (xs2.length : Int))) = false → ∃ k, veql15 xs1 xs2 K k 0)
set_option maxHeartbeats 4000000 in
set_option maxRecDepth 100000 in
set_option linter.unusedVariables false in
theorem veq_ok {g : Ghost} {axs1_0 : Option Addr} {cxs1_0 : Nat} (xs1 : List (JV)) {axs2_0 : Option Addr} {cxs2_0 : Nat} (xs2 : List (JV)) (hRxs1_0 : Rep g (.slice (.pair (.int .i64) (.pair (.int .i64) (.str)))) [.slice axs1_0 xs1.length cxs1_0] xs1) (hRxs2_0 : Rep g (.slice (.pair (.int .i64) (.pair (.int .i64) (.str)))) [.slice axs2_0 xs2.length cxs2_0] xs2) (K : Bool → Prop)
    (hF : veqF xs1 xs2 K) : CallsH Try.prog 33 #[.slice axs1_0 xs1.length cxs1_0, .slice axs2_0 xs2.length cxs2_0] g [] (fun g' H' v => ∃ (r0 : Bool), v = .bool r0 ∧ H' = [] ∧ K r0) := by
  refine CallsH.enter 26 [(0, .slice axs1_0 xs1.length cxs1_0), (1, .slice axs2_0 xs2.length cxs2_0)] Try.func33 rfl (by kernel_rfl) (by kernel_rfl) (by kernel_rfl) fun w0 => ?_
  refine Ok.seq ?_
  refine Ok.region ?_
  refine Ok.batch 1 [(0, .slice axs1_0 xs1.length cxs1_0), (1, .slice axs2_0 xs2.length cxs2_0)] (by kernel_rfl) ?_
  refine Ok.nil ?_
  refine Ok.thenN ?_
  refine Ok.seq ?_
  refine Ok.seq ?_
  refine Ok.region ?_
  refine Ok.batch 5 [(0, .slice axs1_0 xs1.length cxs1_0), (1, .slice axs2_0 xs2.length cxs2_0), (10, .bool ((xs1.length : Int) != (xs2.length : Int)))] (by kernel_rfl) ?_
  refine Ok.nil ?_
  refine Ok.thenN ?_
  refine Ok.cond (b := ((xs1.length : Int) != (xs2.length : Int))) rfl (fun hc1 => ?_) (fun hc1 => ?_)
  · replace hF := hF.1 hc1
    refine Ok.seq ?_
    refine Ok.region ?_
    refine Ok.batch 1 [(4, .bool false)] (by kernel_rfl) ?_
    refine Ok.nil ?_
    refine Ok.thenN ?_
    refine Ok.ret ?_
    refine Ok.thenR ?_
    exact Ok.resH (vs := [.bool false]) (.inl rfl) rfl (.cons (.tmp rfl) .nil) (Gext.refl w0 g) ⟨false, rfl, rfl, hF⟩
  · replace hF := hF.2 hc1
    refine Ok.skip ?_
    refine Ok.thenN ?_
    refine Ok.seq ?_
    refine Ok.seq ?_
    refine Ok.region ?_
    refine Ok.batch 3 [(0, .slice axs1_0 xs1.length cxs1_0), (1, .slice axs2_0 xs2.length cxs2_0), (12, .int .i64 (xs1.length : Int)), (13, .int .i64 0)] (by kernel_rfl) ?_
    refine Ok.nil ?_
    refine Ok.thenN ?_
    refine Ok.block ?_
    obtain ⟨k, hF⟩ := hF
    refine Ok.loop (fun k a W => ∃ (x13l15 : Int), StA 26 [(0, .slice axs1_0 xs1.length cxs1_0), (1, .slice axs2_0 xs2.length cxs2_0), (12, .int .i64 (xs1.length : Int)), (13, .int .i64 x13l15)] a ∧ StW w0 [] g W ∧ veql15 xs1 xs2 K k x13l15) k ?_ ?_
    ·
      exact fun a W hA hW => ⟨0, hA.sub (by kernel_rfl), hW, hF⟩
    ·
      clear hF
      rintro k15 a W ⟨x13l15, hA, hW, hF⟩
      cases k15 with
      | zero => exact (hF : False).elim
      | succ k15 =>
        refine (?_ : Ok _ _ _ _ _ _) a W hA hW
        clear hA hW
        refine Ok.seq ?_
        refine Ok.region ?_
        refine Ok.batch 1 [(0, .slice axs1_0 xs1.length cxs1_0), (1, .slice axs2_0 xs2.length cxs2_0), (12, .int .i64 (xs1.length : Int)), (13, .int .i64 x13l15), (14, .bool (decide (x13l15 < (xs1.length : Int))))] (by kernel_rfl) ?_
        refine Ok.nil ?_
        refine Ok.thenN ?_
        refine Ok.seq ?_
        refine Ok.cond (b := decide (x13l15 < (xs1.length : Int))) rfl (fun hc2 => ?_) (fun hc2 => ?_)
        · replace hF := hF.1 hc2
          refine Ok.skip ?_
          refine Ok.thenN ?_
          refine Ok.seq ?_
          refine Ok.block ?_
          refine Ok.seq ?_
          refine Ok.region ?_
          refine Ok.batch 2 [(0, .slice axs1_0 xs1.length cxs1_0), (1, .slice axs2_0 xs2.length cxs2_0), (5, .int .i64 x13l15), (12, .int .i64 (xs1.length : Int)), (13, .int .i64 x13l15)] (by kernel_rfl) ?_
          refine Ok.nil ?_
          refine Ok.thenN ?_
          refine Ok.seq ?_
          refine Ok.quiet' (by kernel_rfl) (by kernel_rfl) ?_
          refine OkQ.batch 2 [(0, .slice axs1_0 xs1.length cxs1_0), (1, .slice axs2_0 xs2.length cxs2_0), (5, .int .i64 x13l15), (12, .int .i64 (xs1.length : Int)), (13, .int .i64 x13l15), (16, .slice axs1_0 xs1.length cxs1_0), (17, .int .i64 x13l15)] (by kernel_rfl) ?_
          obtain ⟨h04, h14, hF⟩ := hF
          have he4 := get_of (l := xs1) (default : JV) h14
          generalize hg4 : (xs1.getD (Int.toNat x13l15) default) = e4 at he4 hF ⊢
          refine OkQ.op rfl (OpQ.indexRo (e := .pair (.int .i64) (.pair (.int .i64) (.str))) (i := x13l15) (el := e4) rfl rfl Try.underlying29 (by kernel_rfl) hRxs1_0 h04 he4 rfl fun q3 o3 cs3 _ hat3 hr3 => ?_)
          obtain ⟨_, _, rfl, rfl, ⟨_, _, rfl, rfl, rfl⟩⟩ := hr3
          replace hat3 : At g q3 o3 [.int .i64 e4.1, .int .i64 e4.2.1, .string ⟨⟨e4.2.2⟩⟩] := hat3
          refine OkQ.op rfl (OpQ.step (v := .agg #[.int .i64 e4.1, .int .i64 e4.2.1, .string ⟨⟨e4.2.2⟩⟩]) (Yields.loadAggRo 0 3 #[.int .i64 e4.1, .int .i64 e4.2.1, .string ⟨⟨e4.2.2⟩⟩] hat3 (by kernel_rfl) Try.underlying24 rfl (by kernel_rfl) (by kernel_rfl) (by kernel_rfl)) rfl rfl ?_)
          refine OkQ.batch 2 [(0, .slice axs1_0 xs1.length cxs1_0), (1, .slice axs2_0 xs2.length cxs2_0), (12, .int .i64 (xs1.length : Int)), (13, .int .i64 x13l15), (19, .agg #[.int .i64 e4.1, .int .i64 e4.2.1, .string ⟨⟨e4.2.2⟩⟩]), (20, .slice axs2_0 xs2.length cxs2_0), (21, .int .i64 x13l15)] (by kernel_rfl) ?_
          obtain ⟨h06, h16, hF⟩ := hF
          have he6 := get_of (l := xs2) (default : JV) h16
          generalize hg6 : (xs2.getD (Int.toNat x13l15) default) = e6 at he6 hF ⊢
          refine OkQ.op rfl (OpQ.indexRo (e := .pair (.int .i64) (.pair (.int .i64) (.str))) (i := x13l15) (el := e6) rfl rfl Try.underlying29 (by kernel_rfl) hRxs2_0 h06 he6 rfl fun q5 o5 cs5 _ hat5 hr5 => ?_)
          obtain ⟨_, _, rfl, rfl, ⟨_, _, rfl, rfl, rfl⟩⟩ := hr5
          replace hat5 : At g q5 o5 [.int .i64 e6.1, .int .i64 e6.2.1, .string ⟨⟨e6.2.2⟩⟩] := hat5
          refine OkQ.op rfl (OpQ.step (v := .agg #[.int .i64 e6.1, .int .i64 e6.2.1, .string ⟨⟨e6.2.2⟩⟩]) (Yields.loadAggRo 0 3 #[.int .i64 e6.1, .int .i64 e6.2.1, .string ⟨⟨e6.2.2⟩⟩] hat5 (by kernel_rfl) Try.underlying24 rfl (by kernel_rfl) (by kernel_rfl) (by kernel_rfl)) rfl rfl ?_)
          refine OkQ.op rfl (OpQ.step (v := .bool (!([(e4.1 == e6.1), (e4.2.1 == e6.2.1), (e4.2.2 == e6.2.2)].all id))) (Yields.neAgg (k := 2) rfl rfl (.struct (k := 1) Try.underlying24 (by kernel_rfl) ⟨by decide, ⟨.int .i64 e4.1, .int .i64 e6.1, fun _ => by kernel_rfl, fun _ => by kernel_rfl, EqR.mono (k := 1) (.int Try.underlying3) (by decide)⟩, ⟨by decide, ⟨.int .i64 e4.2.1, .int .i64 e6.2.1, fun _ => by kernel_rfl, fun _ => by kernel_rfl, EqR.mono (k := 1) (.int Try.underlying3) (by decide)⟩, ⟨by decide, ⟨.string ⟨⟨e4.2.2⟩⟩, .string ⟨⟨e6.2.2⟩⟩, fun _ => by kernel_rfl, fun _ => by kernel_rfl, EqR.mono (k := 1) (.str Try.underlying9) (by decide)⟩, trivial⟩⟩⟩) rfl (by kernel_rfl)) rfl rfl ?_)
          refine OkQ.nil ?_
          refine Ok.thenN ?_
          refine Ok.cond (b := !([(e4.1 == e6.1), (e4.2.1 == e6.2.1), (e4.2.2 == e6.2.2)].all id)) rfl (fun hc7 => ?_) (fun hc7 => ?_)
          · replace hF := hF.1 hc7
            refine Ok.seq ?_
            refine Ok.region ?_
            refine Ok.batch 1 [(4, .bool false)] (by kernel_rfl) ?_
            refine Ok.nil ?_
            refine Ok.thenN ?_
            refine Ok.ret ?_
            refine Ok.blockR ?_
            refine Ok.thenR ?_
            refine Ok.thenR ?_
            refine Ok.blockR ?_
            refine Ok.thenR ?_
            exact Ok.resH (vs := [.bool false]) (.inl rfl) rfl (.cons (.tmp rfl) .nil) (Gext.refl w0 g) ⟨false, rfl, rfl, hF⟩
          · replace hF := hF.2 hc7
            refine Ok.skip ?_
            refine Ok.blockN ?_
            refine Ok.thenN ?_
            refine Ok.region ?_
            refine Ok.batch 2 [(0, .slice axs1_0 xs1.length cxs1_0), (1, .slice axs2_0 xs2.length cxs2_0), (12, .int .i64 (xs1.length : Int)), (13, .int .i64 (IntKind.wrap .i64 (x13l15 + 1)))] (by kernel_rfl) ?_
            refine Ok.nil ?_
            refine Ok.thenN ?_
            subst hg6
            subst hg4
            exact fun a W hA hW => ⟨k15, Nat.lt_succ_self _, IntKind.wrap .i64 (x13l15 + 1), hA.sub (by kernel_rfl), hW, hF⟩
        · replace hF := hF.2 hc2
          refine Ok.exit ?_
          refine Ok.thenE ?_
          refine Ok.thenE ?_
          refine Ok.blockHit ?_
          refine Ok.thenN ?_
          refine Ok.seq ?_
          refine Ok.region ?_
          refine Ok.batch 1 [(4, .bool true)] (by kernel_rfl) ?_
          refine Ok.nil ?_
          refine Ok.thenN ?_
          refine Ok.ret ?_
          exact Ok.resH (vs := [.bool true]) (.inl rfl) rfl (.cons (.tmp rfl) .nil) (Gext.refl w0 g) ⟨true, rfl, rfl, hF⟩
def veqS (a b : List JV) : Bool := a == b
def veqP (a b : List JV) : Prop := a.length ≤ 1100000 ∧ b.length ≤ 1100000
theorem jv_all (x y : JV) : [x.1 == y.1, x.2.1 == y.2.1, x.2.2 == y.2.2].all id = (x == y) := by
  show ((x.1 == y.1) && ((x.2.1 == y.2.1) && ((x.2.2 == y.2.2) && true))) = ((x.1 == y.1) && ((x.2.1 == y.2.1) && (x.2.2 == y.2.2)))
  rw [Bool.and_true]
theorem veq_F (p q : List JV) (hp : veqP p q) : veqF p q (fun r => r = veqS p q) := by
  obtain ⟨hp1, hp2⟩ := hp
  unfold veqS
  refine ⟨fun h => ?_, fun h => ?_⟩
  · have h : p.length ≠ q.length := by rw [bne_iff_ne] at h; omega
    have : (p == q) = false := by
      rw [beq_eq_false_iff_ne]
      intro h2; exact h (congrArg List.length h2)
    rw [this]
  · have hlen : p.length = q.length := by
      rw [bne_eq_false_iff_eq] at h; omega
    have loop : ∀ (k i : Nat), i + k = p.length → (p == q) = (p.drop i == q.drop i) → veql15 p q (fun r => r = (p == q)) (k + 1) (i : Int) := by
      intro k
      induction k with
      | zero =>
        intro i h1 he
        rw [List.drop_of_length_le (by omega), List.drop_of_length_le (by omega)] at he
        exact ⟨fun h => by have := of_decide_eq_true h; omega, fun _ => by rw [he]; rfl⟩
      | succ k ih =>
        intro i h1 he
        have hi : i < p.length := by omega
        rw [drop_get (l := p) default hi, drop_get (l := q) default (by omega)] at he
        refine ⟨fun _ => ?_, fun h => by have := of_decide_eq_false h; omega⟩
        rw [Int.toNat_natCast, jv_all]
        refine ⟨by omega, by omega, by omega, by omega, fun h => ?_, fun h => ?_⟩
        · have h : (p.getD i default == q.getD i default) = false := by rw [Bool.not_eq_true'] at h; exact h
          rw [he, List.cons_beq_cons, h]; rfl
        · have h : (p.getD i default == q.getD i default) = true := by rw [Bool.not_eq_false'] at h; exact h
          rw [w64 (by omega)]
          refine ih (i + 1) (by omega) ?_
          rw [he, List.cons_beq_cons, h]; rfl
    exact ⟨_, loop p.length 0 (by omega) rfl⟩
set_option linter.unusedVariables false in
theorem veq_c {g : Ghost} {axs1_0 : Option Addr} {cxs1_0 : Nat} (xs1 : List (Int × Int × List UInt8)) {axs2_0 : Option Addr} {cxs2_0 : Nat} (xs2 : List (Int × Int × List UInt8)) (hRxs1_0 : Rep g (.slice (.pair (.int .i64) (.pair (.int .i64) (.str)))) [.slice axs1_0 xs1.length cxs1_0] xs1) (hRxs2_0 : Rep g (.slice (.pair (.int .i64) (.pair (.int .i64) (.str)))) [.slice axs2_0 xs2.length cxs2_0] xs2)  (hp : veqP xs1 xs2) : CallsG Try.prog 33 #[.slice axs1_0 xs1.length cxs1_0, .slice axs2_0 xs2.length cxs2_0] g (.bool (veqS xs1 xs2)) :=
  (veq_ok xs1 xs2 hRxs1_0 hRxs2_0 _ (veq_F xs1 xs2 hp)).gives (by rintro g' H' v _ ⟨r0, rfl, rfl, hK⟩; subst hK; rfl)
def hsmV0 (xa : Int × List (List UInt8) × List (JV)) (xb : Int × List (List UInt8) × List (JV)) : Bool :=
  ((xa.1 == xb.1) && ((seqS xa.2.1 xb.2.1) && (veqS xa.2.2 xb.2.2)))
def hsmj3 (xa : Int × List (List UInt8) × List (JV)) (xb : Int × List (List UInt8) × List (JV)) (K : Bool → Prop) : Prop :=
  K (hsmV0 xa xb)
def hsmF (xa : Int × List (List UInt8) × List (JV)) (xb : Int × List (List UInt8) × List (JV)) (K : Bool → Prop) : Prop :=
  (((xa.1 == xb.1)) = true → seqP xa.2.1 xb.2.1 ∧ (((seqS xa.2.1 xb.2.1)) = true → veqP xa.2.2 xb.2.2 ∧ hsmj3 xa xb K) ∧ (((seqS xa.2.1 xb.2.1)) = false → hsmj3 xa xb K)) ∧ (((xa.1 == xb.1)) = false → hsmj3 xa xb K)
set_option maxHeartbeats 4000000 in
set_option maxRecDepth 100000 in
set_option linter.unusedVariables false in
theorem hsm_ok {g : Ghost} {axa_0 : Option Addr} {cxa_0 : Nat} {axa_1 : Option Addr} {cxa_1 : Nat} (xa : Int × List (List UInt8) × List (JV)) {axb_0 : Option Addr} {cxb_0 : Nat} {axb_1 : Option Addr} {cxb_1 : Nat} (xb : Int × List (List UInt8) × List (JV)) (hRxa_0 : Rep g (.slice (.str)) [.slice axa_0 xa.2.1.length cxa_0] xa.2.1) (hRxa_1 : Rep g (.slice (.pair (.int .i64) (.pair (.int .i64) (.str)))) [.slice axa_1 xa.2.2.length cxa_1] xa.2.2) (hRxb_0 : Rep g (.slice (.str)) [.slice axb_0 xb.2.1.length cxb_0] xb.2.1) (hRxb_1 : Rep g (.slice (.pair (.int .i64) (.pair (.int .i64) (.str)))) [.slice axb_1 xb.2.2.length cxb_1] xb.2.2) (K : Bool → Prop)
    (hF : hsmF xa xb K) : CallsH Try.prog 35 #[.agg #[.int .i64 xa.1, .slice axa_0 xa.2.1.length cxa_0, .slice axa_1 xa.2.2.length cxa_1], .agg #[.int .i64 xb.1, .slice axb_0 xb.2.1.length cxb_0, .slice axb_1 xb.2.2.length cxb_1]] g [] (fun g' H' v => ∃ (r0 : Bool), v = .bool r0 ∧ H' = [] ∧ K r0) := by
  refine CallsH.enter 24 [(0, .agg #[.int .i64 xa.1, .slice axa_0 xa.2.1.length cxa_0, .slice axa_1 xa.2.2.length cxa_1]), (1, .agg #[.int .i64 xb.1, .slice axb_0 xb.2.1.length cxb_0, .slice axb_1 xb.2.2.length cxb_1])] Try.func35 rfl (by kernel_rfl) (by kernel_rfl) (by kernel_rfl) fun w0 => ?_
  refine Ok.seq ?_
  refine Ok.region ?_
  refine Ok.op rfl (OpOk.box (v := .agg #[.int .i64 xa.1, .slice axa_0 xa.2.1.length cxa_0, .slice axa_1 xa.2.2.length cxa_1]) (cs := #[.int .i64 xa.1, .slice axa_0 xa.2.1.length cxa_0, .slice axa_1 xa.2.2.length cxa_1]) rfl (by kernel_rfl) rfl fun b1 => ?_)
  refine Ok.op rfl (OpOk.box (v := .agg #[.int .i64 xb.1, .slice axb_0 xb.2.1.length cxb_0, .slice axb_1 xb.2.2.length cxb_1]) (cs := #[.int .i64 xb.1, .slice axb_0 xb.2.1.length cxb_0, .slice axb_1 xb.2.2.length cxb_1]) rfl (by kernel_rfl) rfl fun b2 => ?_)
  refine Ok.batch 1 [(2, .pointer (some ⟨b1, 0, none⟩)), (3, .pointer (some ⟨b2, 0, none⟩))] (by kernel_rfl) ?_
  refine Ok.nil ?_
  refine Ok.thenN ?_
  refine Ok.cut (fun a W => StA 24 [(4, .bool (hsmV0 xa xb))] a ∧ StW w0 [] g W ∧ hsmj3 xa xb K) ?_ ?_
  ·
    refine Ok.region ?_
    refine Ok.batch 1 [(2, .pointer (some ⟨b1, 0, none⟩)), (3, .pointer (some ⟨b2, 0, none⟩)), (5, .pointer (some ⟨b1, 0, none⟩))] (by kernel_rfl) ?_
    refine Ok.op rfl (OpOk.step (v := .int .i64 xa.1) (Yields.load 1 rfl rfl Try.underlying3 rfl (by kernel_rfl)) rfl rfl ?_)
    refine Ok.batch 1 [(2, .pointer (some ⟨b1, 0, none⟩)), (3, .pointer (some ⟨b2, 0, none⟩)), (6, .int .i64 xa.1), (7, .pointer (some ⟨b2, 0, none⟩))] (by kernel_rfl) ?_
    refine Ok.op rfl (OpOk.step (v := .int .i64 xb.1) (Yields.load 0 rfl rfl Try.underlying3 rfl (by kernel_rfl)) rfl rfl ?_)
    refine Ok.batch 2 [(2, .pointer (some ⟨b1, 0, none⟩)), (3, .pointer (some ⟨b2, 0, none⟩)), (10, .bool (xa.1 == xb.1))] (by kernel_rfl) ?_
    refine Ok.boolAt 10 ((xa.1 == xb.1)) rfl (fun hc3 => ?_) (fun hc3 => ?_)
    · replace hF := hF.1 hc3
      refine Ok.batch 1 [(2, .pointer (some ⟨b1, 0, none⟩)), (3, .pointer (some ⟨b2, 0, none⟩)), (10, .bool true), (11, .pointer (some ⟨b1, 1, none⟩))] (by kernel_rfl) ?_
      refine Ok.opYes (j := 5) (d := 10) (want := true) (b := true) rfl (by kernel_rfl) (by kernel_rfl) rfl (OpOk.step (v := .slice axa_0 xa.2.1.length cxa_0) (Yields.load 1 rfl rfl Try.underlying70 rfl (by kernel_rfl)) rfl rfl ?_)
      refine Ok.batch 1 [(2, .pointer (some ⟨b1, 0, none⟩)), (3, .pointer (some ⟨b2, 0, none⟩)), (10, .bool true), (12, .slice axa_0 xa.2.1.length cxa_0), (13, .pointer (some ⟨b2, 1, none⟩))] (by kernel_rfl) ?_
      refine Ok.opYes (j := 5) (d := 10) (want := true) (b := true) rfl (by kernel_rfl) (by kernel_rfl) rfl (OpOk.step (v := .slice axb_0 xb.2.1.length cxb_0) (Yields.load 0 rfl rfl Try.underlying70 rfl (by kernel_rfl)) rfl rfl ?_)
      obtain ⟨hp4, hF⟩ := hF
      refine Ok.opYes (j := 5) (d := 10) (want := true) (b := true) rfl (by kernel_rfl) (by kernel_rfl) rfl (OpOk.callG (v := .bool (seqS xa.2.1 xb.2.1)) (enters (by kernel_rfl) (fun _ => by kernel_rfl)) (fun W hW => seq_c xa.2.1 xb.2.1 (hRxa_0.mono hW.sees) (hRxb_0.mono hW.sees) hp4) rfl ?_)
      refine Ok.batch 2 [(2, .pointer (some ⟨b1, 0, none⟩)), (3, .pointer (some ⟨b2, 0, none⟩)), (17, .bool (seqS xa.2.1 xb.2.1))] (by kernel_rfl) ?_
      refine Ok.boolAt 17 ((seqS xa.2.1 xb.2.1)) rfl (fun hc5 => ?_) (fun hc5 => ?_)
      · replace hF := hF.1 hc5
        refine Ok.batch 1 [(3, .pointer (some ⟨b2, 0, none⟩)), (17, .bool true), (18, .pointer (some ⟨b1, 2, none⟩))] (by kernel_rfl) ?_
        refine Ok.opYes (j := 12) (d := 17) (want := true) (b := true) rfl (by kernel_rfl) (by kernel_rfl) rfl (OpOk.step (v := .slice axa_1 xa.2.2.length cxa_1) (Yields.load 1 rfl rfl Try.underlying29 rfl (by kernel_rfl)) rfl rfl ?_)
        refine Ok.batch 1 [(17, .bool true), (19, .slice axa_1 xa.2.2.length cxa_1), (20, .pointer (some ⟨b2, 2, none⟩))] (by kernel_rfl) ?_
        refine Ok.opYes (j := 12) (d := 17) (want := true) (b := true) rfl (by kernel_rfl) (by kernel_rfl) rfl (OpOk.step (v := .slice axb_1 xb.2.2.length cxb_1) (Yields.load 0 rfl rfl Try.underlying29 rfl (by kernel_rfl)) rfl rfl ?_)
        obtain ⟨hp6, hF⟩ := hF
        refine Ok.opYes (j := 12) (d := 17) (want := true) (b := true) rfl (by kernel_rfl) (by kernel_rfl) rfl (OpOk.callG (v := .bool (veqS xa.2.2 xb.2.2)) (enters (by kernel_rfl) (fun _ => by kernel_rfl)) (fun W hW => veq_c xa.2.2 xb.2.2 (hRxa_1.mono hW.sees) (hRxb_1.mono hW.sees) hp6) rfl ?_)
        refine Ok.batch 2 [(4, .bool (veqS xa.2.2 xb.2.2))] (by kernel_rfl) ?_
        refine Ok.nil ?_
        refine Ok.thenN ?_
        refine Ok.reval 4 rfl (show (.bool (veqS xa.2.2 xb.2.2) : Value) = .bool (hsmV0 xa xb) from congrArg (Value.bool) ((Eq.trans (mand_t hc5) (mand_t hc3)))) ?_
        exact fun a W hA hW => ⟨hA.sub (by kernel_rfl), hW.sub (.cons _ (.cons _ .slnil)), hF⟩
      · replace hF := hF.2 hc5
        refine Ok.batch 7 [(4, .bool false)] (by kernel_rfl) ?_
        refine Ok.nil ?_
        refine Ok.thenN ?_
        refine Ok.reval 4 rfl (show (.bool false : Value) = .bool (hsmV0 xa xb) from congrArg (Value.bool) ((Eq.trans (mand_f hc5) (mand_t hc3)))) ?_
        exact fun a W hA hW => ⟨hA.sub (by kernel_rfl), hW.sub (.cons _ (.cons _ .slnil)), hF⟩
    · replace hF := hF.2 hc3
      refine Ok.batch 14 [(4, .bool false)] (by kernel_rfl) ?_
      refine Ok.nil ?_
      refine Ok.thenN ?_
      refine Ok.reval 4 rfl (show (.bool false : Value) = .bool (hsmV0 xa xb) from congrArg (Value.bool) (mand_f hc3)) ?_
      exact fun a W hA hW => ⟨hA.sub (by kernel_rfl), hW.sub (.cons _ (.cons _ .slnil)), hF⟩
  ·
    clear hF
    rintro a W ⟨hA, hW, hF⟩
    refine (?_ : Ok _ _ _ _ _ _) a W hA hW
    clear hA hW
    refine Ok.ret ?_
    exact Ok.resH (vs := [.bool (hsmV0 xa xb)]) (.inl rfl) rfl (.cons (.tmp rfl) .nil) (Gext.refl w0 g) ⟨(hsmV0 xa xb), rfl, rfl, hF⟩
def hsmS (a b : JC) : Bool := a == b
def hsmP (a b : JC) : Prop := seqP a.2.1 b.2.1 ∧ veqP a.2.2 b.2.2
theorem hsm_F (a b : JC) (hp : hsmP a b) : hsmF a b (fun r => r = hsmS a b) := by
  have j : hsmj3 a b (fun r => r = hsmS a b) := rfl
  exact ⟨fun _ => ⟨hp.1, fun _ => ⟨hp.2, j⟩, fun _ => j⟩, fun _ => j⟩
set_option linter.unusedVariables false in
theorem hsm_c {g : Ghost} {axa_0 : Option Addr} {cxa_0 : Nat} {axa_1 : Option Addr} {cxa_1 : Nat} (xa : Int × List (List UInt8) × List (Int × Int × List UInt8)) {axb_0 : Option Addr} {cxb_0 : Nat} {axb_1 : Option Addr} {cxb_1 : Nat} (xb : Int × List (List UInt8) × List (Int × Int × List UInt8)) (hRxa_0 : Rep g (.slice (.str)) [.slice axa_0 xa.2.1.length cxa_0] xa.2.1) (hRxa_1 : Rep g (.slice (.pair (.int .i64) (.pair (.int .i64) (.str)))) [.slice axa_1 xa.2.2.length cxa_1] xa.2.2) (hRxb_0 : Rep g (.slice (.str)) [.slice axb_0 xb.2.1.length cxb_0] xb.2.1) (hRxb_1 : Rep g (.slice (.pair (.int .i64) (.pair (.int .i64) (.str)))) [.slice axb_1 xb.2.2.length cxb_1] xb.2.2)  (hp : hsmP xa xb) : CallsG Try.prog 35 #[.agg #[.int .i64 xa.1, .slice axa_0 xa.2.1.length cxa_0, .slice axa_1 xa.2.2.length cxa_1], .agg #[.int .i64 xb.1, .slice axb_0 xb.2.1.length cxb_0, .slice axb_1 xb.2.2.length cxb_1]] g (.bool (hsmS xa xb)) :=
  (hsm_ok xa xb hRxa_0 hRxa_1 hRxb_0 hRxb_1 _ (hsm_F xa xb hp)).gives (by rintro g' H' v _ ⟨r0, rfl, rfl, hK⟩; subst hK; rfl)
def cefl15b (xs1 : List (Int × List (List UInt8) × List (JV))) (xs2 : List (Int × List (List UInt8) × List (JV))) (xeq : (Int × List (List UInt8) × List (JV)) → (Int × List (List UInt8) × List (JV)) → Bool) (pxeq : (Int × List (List UInt8) × List (JV)) → (Int × List (List UInt8) × List (JV)) → Prop) (K : Bool → Prop) (x17l15 : Int) (C15 : Int → Prop) : Prop :=
  ((decide (x17l15 < (xs1.length : Int))) = true → (0 : Int) ≤ x17l15 ∧ Int.toNat x17l15 < xs1.length ∧ (0 : Int) ≤ x17l15 ∧ Int.toNat x17l15 < xs2.length ∧ pxeq (xs1.getD (Int.toNat x17l15) default) (xs2.getD (Int.toNat x17l15) default) ∧ ((!(xeq (xs1.getD (Int.toNat x17l15) default) (xs2.getD (Int.toNat x17l15) default))) = true → K false) ∧ ((!(xeq (xs1.getD (Int.toNat x17l15) default) (xs2.getD (Int.toNat x17l15) default))) = false → C15 (IntKind.wrap .i64 (x17l15 + 1)))) ∧ ((decide (x17l15 < (xs1.length : Int))) = false → K true)
def cefl15 (xs1 : List (Int × List (List UInt8) × List (JV))) (xs2 : List (Int × List (List UInt8) × List (JV))) (xeq : (Int × List (List UInt8) × List (JV)) → (Int × List (List UInt8) × List (JV)) → Bool) (pxeq : (Int × List (List UInt8) × List (JV)) → (Int × List (List UInt8) × List (JV)) → Prop) (K : Bool → Prop) : Nat → Int → Prop
  | 0, _ => False
  | k + 1, x17l15 => cefl15b xs1 xs2 xeq pxeq K x17l15 (cefl15 xs1 xs2 xeq pxeq K k)
def cefF (xs1 : List (Int × List (List UInt8) × List (JV))) (xs2 : List (Int × List (List UInt8) × List (JV))) (xeq : (Int × List (List UInt8) × List (JV)) → (Int × List (List UInt8) × List (JV)) → Bool) (pxeq : (Int × List (List UInt8) × List (JV)) → (Int × List (List UInt8) × List (JV)) → Prop) (K : Bool → Prop) : Prop :=
  ((((xs1.length : Int) != (xs2.length : Int))) = true → K false) ∧ ((((xs1.length : Int) != (xs2.length : Int))) = false → ∃ k, cefl15 xs1 xs2 xeq pxeq K k 0)
set_option maxHeartbeats 4000000 in
set_option maxRecDepth 100000 in
set_option linter.unusedVariables false in
theorem cef_ok {g : Ghost} {axs1_0 : Option Addr} {cxs1_0 : Nat} (xs1 : List (Int × List (List UInt8) × List (JV))) {axs2_0 : Option Addr} {cxs2_0 : Nat} (xs2 : List (Int × List (List UInt8) × List (JV))) {vxeq : Value} (xeq : (Int × List (List UInt8) × List (JV)) → (Int × List (List UInt8) × List (JV)) → Bool) (pxeq : (Int × List (List UInt8) × List (JV)) → (Int × List (List UInt8) × List (JV)) → Prop) (hRxs1_0 : Rep g (.slice (.pair (.int .i64) (.pair (.slice (.str)) (.slice (.pair (.int .i64) (.pair (.int .i64) (.str))))))) [.slice axs1_0 xs1.length cxs1_0] xs1) (hRxs2_0 : Rep g (.slice (.pair (.int .i64) (.pair (.slice (.str)) (.slice (.pair (.int .i64) (.pair (.int .i64) (.str))))))) [.slice axs2_0 xs2.length cxs2_0] xs2) (hfxeq : ∀ (g2 : Ghost), Gle g g2 → ∀ (y0 : Int × List (List UInt8) × List (JV)) (y1 : Int × List (List UInt8) × List (JV)) (axeqy0_0 : Option Addr) (cxeqy0_0 : Nat) (axeqy0_1 : Option Addr) (cxeqy0_1 : Nat) (axeqy1_2 : Option Addr) (cxeqy1_2 : Nat) (axeqy1_3 : Option Addr) (cxeqy1_3 : Nat), Rep g2 (.slice (.str)) [.slice axeqy0_0 y0.2.1.length cxeqy0_0] y0.2.1 → Rep g2 (.slice (.pair (.int .i64) (.pair (.int .i64) (.str)))) [.slice axeqy0_1 y0.2.2.length cxeqy0_1] y0.2.2 → Rep g2 (.slice (.str)) [.slice axeqy1_2 y1.2.1.length cxeqy1_2] y1.2.1 → Rep g2 (.slice (.pair (.int .i64) (.pair (.int .i64) (.str)))) [.slice axeqy1_3 y1.2.2.length cxeqy1_3] y1.2.2 → pxeq y0 y1 → FnG Try.prog vxeq #[.agg #[.int .i64 y0.1, .slice axeqy0_0 y0.2.1.length cxeqy0_0, .slice axeqy0_1 y0.2.2.length cxeqy0_1], .agg #[.int .i64 y1.1, .slice axeqy1_2 y1.2.1.length cxeqy1_2, .slice axeqy1_3 y1.2.2.length cxeqy1_3]] g2 (.bool (xeq y0 y1))) (K : Bool → Prop)
    (hF : cefF xs1 xs2 xeq pxeq K) : CallsH Try.prog 34 #[.slice axs1_0 xs1.length cxs1_0, .slice axs2_0 xs2.length cxs2_0, vxeq] g [] (fun g' H' v => ∃ (r0 : Bool), v = .bool r0 ∧ H' = [] ∧ K r0) := by
  refine CallsH.enter 32 [(0, .slice axs1_0 xs1.length cxs1_0), (1, .slice axs2_0 xs2.length cxs2_0), (2, vxeq)] Try.func34 rfl (by kernel_rfl) (by kernel_rfl) (by kernel_rfl) fun w0 => ?_
  refine Ok.seq ?_
  refine Ok.region ?_
  refine Ok.batch 1 [(0, .slice axs1_0 xs1.length cxs1_0), (1, .slice axs2_0 xs2.length cxs2_0), (2, vxeq)] (by kernel_rfl) ?_
  refine Ok.nil ?_
  refine Ok.thenN ?_
  refine Ok.seq ?_
  refine Ok.seq ?_
  refine Ok.region ?_
  refine Ok.batch 5 [(0, .slice axs1_0 xs1.length cxs1_0), (1, .slice axs2_0 xs2.length cxs2_0), (2, vxeq), (14, .bool ((xs1.length : Int) != (xs2.length : Int)))] (by kernel_rfl) ?_
  refine Ok.nil ?_
  refine Ok.thenN ?_
  refine Ok.cond (b := ((xs1.length : Int) != (xs2.length : Int))) rfl (fun hc1 => ?_) (fun hc1 => ?_)
  · replace hF := hF.1 hc1
    refine Ok.seq ?_
    refine Ok.region ?_
    refine Ok.batch 1 [(6, .bool false)] (by kernel_rfl) ?_
    refine Ok.nil ?_
    refine Ok.thenN ?_
    refine Ok.ret ?_
    refine Ok.thenR ?_
    exact Ok.resH (vs := [.bool false]) (.inl rfl) rfl (.cons (.tmp rfl) .nil) (Gext.refl w0 g) ⟨false, rfl, rfl, hF⟩
  · replace hF := hF.2 hc1
    refine Ok.skip ?_
    refine Ok.thenN ?_
    refine Ok.seq ?_
    refine Ok.seq ?_
    refine Ok.region ?_
    refine Ok.batch 3 [(1, .slice axs2_0 xs2.length cxs2_0), (2, vxeq), (15, .slice axs1_0 xs1.length cxs1_0), (16, .int .i64 (xs1.length : Int)), (17, .int .i64 0)] (by kernel_rfl) ?_
    refine Ok.nil ?_
    refine Ok.thenN ?_
    refine Ok.block ?_
    obtain ⟨k, hF⟩ := hF
    refine Ok.loop (fun k a W => ∃ (x17l15 : Int), StA 32 [(1, .slice axs2_0 xs2.length cxs2_0), (2, vxeq), (15, .slice axs1_0 xs1.length cxs1_0), (16, .int .i64 (xs1.length : Int)), (17, .int .i64 x17l15)] a ∧ StW w0 [] g W ∧ cefl15 xs1 xs2 xeq pxeq K k x17l15) k ?_ ?_
    ·
      exact fun a W hA hW => ⟨0, hA.sub (by kernel_rfl), hW, hF⟩
    ·
      clear hF
      rintro k15 a W ⟨x17l15, hA, hW, hF⟩
      cases k15 with
      | zero => exact (hF : False).elim
      | succ k15 =>
        refine (?_ : Ok _ _ _ _ _ _) a W hA hW
        clear hA hW
        refine Ok.seq ?_
        refine Ok.region ?_
        refine Ok.batch 1 [(1, .slice axs2_0 xs2.length cxs2_0), (2, vxeq), (15, .slice axs1_0 xs1.length cxs1_0), (16, .int .i64 (xs1.length : Int)), (17, .int .i64 x17l15), (18, .bool (decide (x17l15 < (xs1.length : Int))))] (by kernel_rfl) ?_
        refine Ok.nil ?_
        refine Ok.thenN ?_
        refine Ok.seq ?_
        refine Ok.cond (b := decide (x17l15 < (xs1.length : Int))) rfl (fun hc2 => ?_) (fun hc2 => ?_)
        · replace hF := hF.1 hc2
          refine Ok.skip ?_
          refine Ok.thenN ?_
          refine Ok.seq ?_
          refine Ok.block ?_
          refine Ok.seq ?_
          refine Ok.region ?_
          refine Ok.batch 1 [(1, .slice axs2_0 xs2.length cxs2_0), (2, vxeq), (15, .slice axs1_0 xs1.length cxs1_0), (16, .int .i64 (xs1.length : Int)), (17, .int .i64 x17l15), (19, .int .i64 x17l15)] (by kernel_rfl) ?_
          obtain ⟨h04, h14, hF⟩ := hF
          have he4 := get_of (l := xs1) (default : Int × List (List UInt8) × List (JV)) h14
          generalize hg4 : (xs1.getD (Int.toNat x17l15) default) = e4 at he4 hF ⊢
          refine Ok.op rfl (OpOk.indexRo (e := .pair (.int .i64) (.pair (.slice (.str)) (.slice (.pair (.int .i64) (.pair (.int .i64) (.str)))))) (i := x17l15) (el := e4) rfl rfl Try.underlying22 (by kernel_rfl) hRxs1_0 h04 he4 rfl fun q3 o3 cs3 _ hat3 hr3 => ?_)
          obtain ⟨_, _, rfl, rfl, ⟨_, _, rfl, ⟨a3_1, c3_1, rfl, hm3_1, hr3_1⟩, ⟨a3_2, c3_2, rfl, hm3_2, hr3_2⟩⟩⟩ := hr3
          have hR3_1 : Rep g (.slice (.str)) [.slice a3_1 e4.2.1.length c3_1] e4.2.1 := ⟨a3_1, c3_1, rfl, hm3_1, hr3_1⟩
          have hR3_2 : Rep g (.slice (.pair (.int .i64) (.pair (.int .i64) (.str)))) [.slice a3_2 e4.2.2.length c3_2] e4.2.2 := ⟨a3_2, c3_2, rfl, hm3_2, hr3_2⟩
          replace hat3 : At g q3 o3 [.int .i64 e4.1, .slice a3_1 e4.2.1.length c3_1, .slice a3_2 e4.2.2.length c3_2] := hat3
          refine Ok.op rfl (OpOk.step (v := .agg #[.int .i64 e4.1, .slice a3_1 e4.2.1.length c3_1, .slice a3_2 e4.2.2.length c3_2]) (Yields.loadAggRo 0 3 #[.int .i64 e4.1, .slice a3_1 e4.2.1.length c3_1, .slice a3_2 e4.2.2.length c3_2] hat3 (by kernel_rfl) Try.underlying72 rfl (by kernel_rfl) (by kernel_rfl) (by kernel_rfl)) rfl rfl ?_)
          refine Ok.op rfl (OpOk.alloc (z := .agg #[.int .i64 0, .slice none 0 0, .slice none 0 0]) (cs := #[.int .i64 0, .slice none 0 0, .slice none 0 0]) (by kernel_rfl) (by kernel_rfl) rfl fun b5 => ?_)
          refine Ok.batch 1 [(1, .slice axs2_0 xs2.length cxs2_0), (2, vxeq), (7, .int .i64 x17l15), (8, .pointer (some ⟨b5, 0, none⟩)), (15, .slice axs1_0 xs1.length cxs1_0), (16, .int .i64 (xs1.length : Int)), (17, .int .i64 x17l15), (21, .agg #[.int .i64 e4.1, .slice a3_1 e4.2.1.length c3_1, .slice a3_2 e4.2.2.length c3_2])] (by kernel_rfl) ?_
          refine Ok.op rfl (OpOk.store (k := 3) (v := .agg #[.int .i64 e4.1, .slice a3_1 e4.2.1.length c3_1, .slice a3_2 e4.2.2.length c3_2]) (H' := [.blk b5 (.cells #[.int .i64 e4.1, .slice a3_1 e4.2.1.length c3_1, .slice a3_2 e4.2.2.length c3_2] 72)]) 0 rfl rfl rfl (by kernel_rfl) (by kernel_rfl) (by kernel_rfl) (by kernel_rfl) (by kernel_rfl) ?_)
          refine Ok.nil ?_
          refine Ok.thenN ?_
          refine Ok.seq ?_
          refine Ok.region ?_
          refine Ok.batch 2 [(1, .slice axs2_0 xs2.length cxs2_0), (2, vxeq), (8, .pointer (some ⟨b5, 0, none⟩)), (15, .slice axs1_0 xs1.length cxs1_0), (16, .int .i64 (xs1.length : Int)), (17, .int .i64 x17l15), (22, .slice axs2_0 xs2.length cxs2_0), (23, .int .i64 x17l15)] (by kernel_rfl) ?_
          obtain ⟨h07, h17, hF⟩ := hF
          have he7 := get_of (l := xs2) (default : Int × List (List UInt8) × List (JV)) h17
          generalize hg7 : (xs2.getD (Int.toNat x17l15) default) = e7 at he7 hF ⊢
          refine Ok.op rfl (OpOk.indexRo (e := .pair (.int .i64) (.pair (.slice (.str)) (.slice (.pair (.int .i64) (.pair (.int .i64) (.str)))))) (i := x17l15) (el := e7) rfl rfl Try.underlying22 (by kernel_rfl) hRxs2_0 h07 he7 rfl fun q6 o6 cs6 _ hat6 hr6 => ?_)
          obtain ⟨_, _, rfl, rfl, ⟨_, _, rfl, ⟨a6_1, c6_1, rfl, hm6_1, hr6_1⟩, ⟨a6_2, c6_2, rfl, hm6_2, hr6_2⟩⟩⟩ := hr6
          have hR6_1 : Rep g (.slice (.str)) [.slice a6_1 e7.2.1.length c6_1] e7.2.1 := ⟨a6_1, c6_1, rfl, hm6_1, hr6_1⟩
          have hR6_2 : Rep g (.slice (.pair (.int .i64) (.pair (.int .i64) (.str)))) [.slice a6_2 e7.2.2.length c6_2] e7.2.2 := ⟨a6_2, c6_2, rfl, hm6_2, hr6_2⟩
          replace hat6 : At g q6 o6 [.int .i64 e7.1, .slice a6_1 e7.2.1.length c6_1, .slice a6_2 e7.2.2.length c6_2] := hat6
          refine Ok.op rfl (OpOk.step (v := .agg #[.int .i64 e7.1, .slice a6_1 e7.2.1.length c6_1, .slice a6_2 e7.2.2.length c6_2]) (Yields.loadAggRo 0 3 #[.int .i64 e7.1, .slice a6_1 e7.2.1.length c6_1, .slice a6_2 e7.2.2.length c6_2] hat6 (by kernel_rfl) Try.underlying72 rfl (by kernel_rfl) (by kernel_rfl) (by kernel_rfl)) rfl rfl ?_)
          refine Ok.op rfl (OpOk.alloc (z := .agg #[.int .i64 0, .slice none 0 0, .slice none 0 0]) (cs := #[.int .i64 0, .slice none 0 0, .slice none 0 0]) (by kernel_rfl) (by kernel_rfl) rfl fun b8 => ?_)
          refine Ok.op rfl (OpOk.store (k := 3) (v := .agg #[.int .i64 e7.1, .slice a6_1 e7.2.1.length c6_1, .slice a6_2 e7.2.2.length c6_2]) (H' := [.blk b8 (.cells #[.int .i64 e7.1, .slice a6_1 e7.2.1.length c6_1, .slice a6_2 e7.2.2.length c6_2] 72), .blk b5 (.cells #[.int .i64 e4.1, .slice a3_1 e4.2.1.length c3_1, .slice a3_2 e4.2.2.length c3_2] 72)]) 0 rfl rfl rfl (by kernel_rfl) (by kernel_rfl) (by kernel_rfl) (by kernel_rfl) (by kernel_rfl) ?_)
          refine Ok.nil ?_
          refine Ok.thenN ?_
          refine Ok.seq ?_
          refine Ok.region ?_
          refine Ok.batch 1 [(1, .slice axs2_0 xs2.length cxs2_0), (2, vxeq), (8, .pointer (some ⟨b5, 0, none⟩)), (9, .pointer (some ⟨b8, 0, none⟩)), (15, .slice axs1_0 xs1.length cxs1_0), (16, .int .i64 (xs1.length : Int)), (17, .int .i64 x17l15), (26, vxeq)] (by kernel_rfl) ?_
          refine Ok.op rfl (OpOk.step (v := .agg #[.int .i64 e4.1, .slice a3_1 e4.2.1.length c3_1, .slice a3_2 e4.2.2.length c3_2]) (Yields.loadAgg 1 3 #[.int .i64 e4.1, .slice a3_1 e4.2.1.length c3_1, .slice a3_2 e4.2.2.length c3_2] rfl rfl Try.underlying72 rfl (by kernel_rfl) (by kernel_rfl) (by kernel_rfl)) rfl rfl ?_)
          refine Ok.op rfl (OpOk.step (v := .agg #[.int .i64 e7.1, .slice a6_1 e7.2.1.length c6_1, .slice a6_2 e7.2.2.length c6_2]) (Yields.loadAgg 0 3 #[.int .i64 e7.1, .slice a6_1 e7.2.1.length c6_1, .slice a6_2 e7.2.2.length c6_2] rfl rfl Try.underlying72 rfl (by kernel_rfl) (by kernel_rfl) (by kernel_rfl)) rfl rfl ?_)
          obtain ⟨hq9, hF⟩ := hF
          refine Ok.op rfl (OpOk.apply (args := #[.agg #[.int .i64 e4.1, .slice a3_1 e4.2.1.length c3_1, .slice a3_2 e4.2.2.length c3_2], .agg #[.int .i64 e7.1, .slice a6_1 e7.2.1.length c6_1, .slice a6_2 e7.2.2.length c6_2]]) (v := .bool (xeq e4 e7)) rfl (by kernel_rfl) (by kernel_rfl) (hfxeq _ (Gle.refl _) e4 e7 a3_1 c3_1 a3_2 c3_2 a6_1 c6_1 a6_2 c6_2 hR3_1 hR3_2 hR6_1 hR6_2 hq9) rfl ?_)
          refine Ok.batch 1 [(1, .slice axs2_0 xs2.length cxs2_0), (2, vxeq), (15, .slice axs1_0 xs1.length cxs1_0), (16, .int .i64 (xs1.length : Int)), (17, .int .i64 x17l15), (30, .bool (!(xeq e4 e7)))] (by kernel_rfl) ?_
          refine Ok.nil ?_
          refine Ok.thenN ?_
          refine Ok.cond (b := !(xeq e4 e7)) rfl (fun hc10 => ?_) (fun hc10 => ?_)
          · replace hF := hF.1 hc10
            refine Ok.seq ?_
            refine Ok.region ?_
            refine Ok.batch 1 [(6, .bool false)] (by kernel_rfl) ?_
            refine Ok.nil ?_
            refine Ok.thenN ?_
            refine Ok.ret ?_
            refine Ok.blockR ?_
            refine Ok.thenR ?_
            refine Ok.thenR ?_
            refine Ok.blockR ?_
            refine Ok.thenR ?_
            exact Ok.resP (vs := [.bool false]) [] [] (by decide) rfl (.inl rfl) rfl (.cons (.tmp rfl) .nil) (Gext.refl w0 g) ⟨false, rfl, rfl, hF⟩
          · replace hF := hF.2 hc10
            refine Ok.skip ?_
            refine Ok.blockN ?_
            refine Ok.thenN ?_
            refine Ok.region ?_
            refine Ok.batch 2 [(1, .slice axs2_0 xs2.length cxs2_0), (2, vxeq), (15, .slice axs1_0 xs1.length cxs1_0), (16, .int .i64 (xs1.length : Int)), (17, .int .i64 (IntKind.wrap .i64 (x17l15 + 1)))] (by kernel_rfl) ?_
            refine Ok.nil ?_
            refine Ok.thenN ?_
            subst hg7
            subst hg4
            exact fun a W hA hW => ⟨k15, Nat.lt_succ_self _, IntKind.wrap .i64 (x17l15 + 1), hA.sub (by kernel_rfl), hW.sub (.cons _ (.cons _ .slnil)), hF⟩
        · replace hF := hF.2 hc2
          refine Ok.exit ?_
          refine Ok.thenE ?_
          refine Ok.thenE ?_
          refine Ok.blockHit ?_
          refine Ok.thenN ?_
          refine Ok.seq ?_
          refine Ok.region ?_
          refine Ok.batch 1 [(6, .bool true)] (by kernel_rfl) ?_
          refine Ok.nil ?_
          refine Ok.thenN ?_
          refine Ok.ret ?_
          exact Ok.resH (vs := [.bool true]) (.inl rfl) rfl (.cons (.tmp rfl) .nil) (Gext.refl w0 g) ⟨true, rfl, rfl, hF⟩
def zipB (f : JC → JC → Bool) : List JC → List JC → Bool
  | x :: l, y :: r => f x y && zipB f l r
  | _, _ => true
def cefS (a b : List JC) (f : JC → JC → Bool) : Bool := (a.length == b.length) && zipB f a b
def cefP (a b : List JC) (_ : JC → JC → Bool) (p : JC → JC → Prop) : Prop := a.length ≤ 1000000 ∧ ∀ x ∈ a, ∀ y ∈ b, p x y
theorem cef_F (a b : List JC) (f : JC → JC → Bool) (p : JC → JC → Prop) (hp : cefP a b f p) : cefF a b f p (fun r => r = cefS a b f) := by
  obtain ⟨hl, hp⟩ := hp
  unfold cefS
  refine ⟨fun h => ?_, fun h => ?_⟩
  · have h : a.length ≠ b.length := by rw [bne_iff_ne] at h; omega
    rw [beq_eq_false_iff_ne.2 h]; rfl
  · have hlen : a.length = b.length := by rw [bne_eq_false_iff_eq] at h; omega
    rw [hlen, beq_self_eq_true, Bool.true_and]
    have loop : ∀ (k i : Nat), i + k = a.length → zipB f a b = zipB f (a.drop i) (b.drop i) → cefl15 a b f p (fun r => r = zipB f a b) (k + 1) (i : Int) := by
      intro k
      induction k with
      | zero =>
        intro i h1 he
        rw [List.drop_of_length_le (by omega)] at he
        exact ⟨fun h => by have := of_decide_eq_true h; omega, fun _ => by rw [he]; rfl⟩
      | succ k ih =>
        intro i h1 he
        rw [drop_get (l := a) default (by omega), drop_get (l := b) default (by omega), zipB] at he
        refine ⟨fun _ => ?_, fun h => by have := of_decide_eq_false h; omega⟩
        rw [Int.toNat_natCast]
        refine ⟨by omega, by omega, by omega, by omega, hp _ (mem_getD default (by omega)) _ (mem_getD default (by omega)), fun h => ?_, fun h => ?_⟩
        · rw [Bool.not_eq_true'] at h
          rw [he, h]; rfl
        · rw [Bool.not_eq_false'] at h
          rw [w64 (by omega)]
          refine ih (i + 1) (by omega) ?_
          rw [he, h]; rfl
    exact ⟨_, loop a.length 0 (by omega) rfl⟩
set_option linter.unusedVariables false in
theorem cef_c {g : Ghost} {axs1_0 : Option Addr} {cxs1_0 : Nat} (xs1 : List (Int × List (List UInt8) × List (Int × Int × List UInt8))) {axs2_0 : Option Addr} {cxs2_0 : Nat} (xs2 : List (Int × List (List UInt8) × List (Int × Int × List UInt8))) {vxeq : Value} (xeq : (Int × List (List UInt8) × List (Int × Int × List UInt8)) → (Int × List (List UInt8) × List (Int × Int × List UInt8)) → Bool) (pxeq : (Int × List (List UInt8) × List (Int × Int × List UInt8)) → (Int × List (List UInt8) × List (Int × Int × List UInt8)) → Prop) (hRxs1_0 : Rep g (.slice (.pair (.int .i64) (.pair (.slice (.str)) (.slice (.pair (.int .i64) (.pair (.int .i64) (.str))))))) [.slice axs1_0 xs1.length cxs1_0] xs1) (hRxs2_0 : Rep g (.slice (.pair (.int .i64) (.pair (.slice (.str)) (.slice (.pair (.int .i64) (.pair (.int .i64) (.str))))))) [.slice axs2_0 xs2.length cxs2_0] xs2) (hfxeq : ∀ (g2 : Ghost), Gle g g2 → ∀ (y0 : Int × List (List UInt8) × List (Int × Int × List UInt8)) (y1 : Int × List (List UInt8) × List (Int × Int × List UInt8)) (axeqy0_0 : Option Addr) (cxeqy0_0 : Nat) (axeqy0_1 : Option Addr) (cxeqy0_1 : Nat) (axeqy1_2 : Option Addr) (cxeqy1_2 : Nat) (axeqy1_3 : Option Addr) (cxeqy1_3 : Nat), Rep g2 (.slice (.str)) [.slice axeqy0_0 y0.2.1.length cxeqy0_0] y0.2.1 → Rep g2 (.slice (.pair (.int .i64) (.pair (.int .i64) (.str)))) [.slice axeqy0_1 y0.2.2.length cxeqy0_1] y0.2.2 → Rep g2 (.slice (.str)) [.slice axeqy1_2 y1.2.1.length cxeqy1_2] y1.2.1 → Rep g2 (.slice (.pair (.int .i64) (.pair (.int .i64) (.str)))) [.slice axeqy1_3 y1.2.2.length cxeqy1_3] y1.2.2 → pxeq y0 y1 → FnG Try.prog vxeq #[.agg #[.int .i64 y0.1, .slice axeqy0_0 y0.2.1.length cxeqy0_0, .slice axeqy0_1 y0.2.2.length cxeqy0_1], .agg #[.int .i64 y1.1, .slice axeqy1_2 y1.2.1.length cxeqy1_2, .slice axeqy1_3 y1.2.2.length cxeqy1_3]] g2 (.bool (xeq y0 y1)))  (hp : cefP xs1 xs2 xeq pxeq) : CallsG Try.prog 34 #[.slice axs1_0 xs1.length cxs1_0, .slice axs2_0 xs2.length cxs2_0, vxeq] g (.bool (cefS xs1 xs2 xeq)) :=
  (cef_ok xs1 xs2 xeq pxeq hRxs1_0 hRxs2_0 hfxeq _ (cef_F xs1 xs2 xeq pxeq hp)).gives (by rintro g' H' v _ ⟨r0, rfl, rfl, hK⟩; subst hK; rfl)
def halV0 (xg : List (Int × List (List UInt8) × List (JV))) (xa : JV) (xh : List (Int × List (List UInt8) × List (JV))) (xb : JV) : Bool :=
  ((cefS ((hMoS xg ([xa] : List (JV))).1) ((hMoS xh ([xb] : List (JV))).1) (fun y0 y1 => hsmS y0 y1)) && ([((((hMoS xg ([xa] : List (JV))).2.1).getD (Int.toNat 0) default).1 == (((hMoS xh ([xb] : List (JV))).2.1).getD (Int.toNat 0) default).1), ((((hMoS xg ([xa] : List (JV))).2.1).getD (Int.toNat 0) default).2.1 == (((hMoS xh ([xb] : List (JV))).2.1).getD (Int.toNat 0) default).2.1), ((((hMoS xg ([xa] : List (JV))).2.1).getD (Int.toNat 0) default).2.2 == (((hMoS xh ([xb] : List (JV))).2.1).getD (Int.toNat 0) default).2.2)].all id))
def halj48 (xg : List (Int × List (List UInt8) × List (JV))) (xa : JV) (xh : List (Int × List (List UInt8) × List (JV))) (xb : JV) (K : Bool → Int → Prop) : Prop :=
  K (halV0 xg xa xh xb) 0
def hall7b (xg : List (Int × List (List UInt8) × List (JV))) (xa : JV) (xh : List (Int × List (List UInt8) × List (JV))) (xb : JV) (K : Bool → Int → Prop) (x22l7 : Int) (C7 : Int → Prop) : Prop :=
  ((decide (x22l7 < (([xg, xh] : List (List (Int × List (List UInt8) × List (JV)))).length : Int))) = true → (0 : Int) ≤ x22l7 ∧ Int.toNat x22l7 < ([xg, xh] : List (List (Int × List (List UInt8) × List (JV)))).length ∧ ((((hchkS (([xg, xh] : List (List (Int × List (List UInt8) × List (JV)))).getD (Int.toNat x22l7) default)) != 0)) = true → K false (hchkS (([xg, xh] : List (List (Int × List (List UInt8) × List (JV)))).getD (Int.toNat x22l7) default))) ∧ ((((hchkS (([xg, xh] : List (List (Int × List (List UInt8) × List (JV)))).getD (Int.toNat x22l7) default)) != 0)) = false → C7 (IntKind.wrap .i64 (x22l7 + 1)))) ∧ ((decide (x22l7 < (([xg, xh] : List (List (Int × List (List UInt8) × List (JV)))).length : Int))) = false → hMoP xg ([xa] : List (JV)) ∧ (((((hMoS xg ([xa] : List (JV))).2.2) != 0)) = true → K false ((hMoS xg ([xa] : List (JV))).2.2)) ∧ (((((hMoS xg ([xa] : List (JV))).2.2) != 0)) = false → hMoP xh ([xb] : List (JV)) ∧ (((((hMoS xh ([xb] : List (JV))).2.2) != 0)) = true → K false ((hMoS xh ([xb] : List (JV))).2.2)) ∧ (((((hMoS xh ([xb] : List (JV))).2.2) != 0)) = false → cefP ((hMoS xg ([xa] : List (JV))).1) ((hMoS xh ([xb] : List (JV))).1) (fun y0 y1 => hsmS y0 y1) (fun y0 y1 => hsmP y0 y1) ∧ (((cefS ((hMoS xg ([xa] : List (JV))).1) ((hMoS xh ([xb] : List (JV))).1) (fun y0 y1 => hsmS y0 y1))) = true → (0 : Int) ≤ 0 ∧ Int.toNat 0 < ((hMoS xg ([xa] : List (JV))).2.1).length ∧ (0 : Int) ≤ 0 ∧ Int.toNat 0 < ((hMoS xh ([xb] : List (JV))).2.1).length ∧ halj48 xg xa xh xb K) ∧ (((cefS ((hMoS xg ([xa] : List (JV))).1) ((hMoS xh ([xb] : List (JV))).1) (fun y0 y1 => hsmS y0 y1))) = false → halj48 xg xa xh xb K))))
def hall7 (xg : List (Int × List (List UInt8) × List (JV))) (xa : JV) (xh : List (Int × List (List UInt8) × List (JV))) (xb : JV) (K : Bool → Int → Prop) : Nat → Int → Prop
  | 0, _ => False
  | k + 1, x22l7 => hall7b xg xa xh xb K x22l7 (hall7 xg xa xh xb K k)
def halF (xg : List (Int × List (List UInt8) × List (JV))) (xa : JV) (xh : List (Int × List (List UInt8) × List (JV))) (xb : JV) (K : Bool → Int → Prop) : Prop :=
  ∃ k, hall7 xg xa xh xb K k 0
set_option maxHeartbeats 4000000 in
set_option maxRecDepth 100000 in
set_option linter.unusedVariables false in
theorem hal_ok {g : Ghost} {axg_0 : Option Addr} {cxg_0 : Nat} (xg : List (Int × List (List UInt8) × List (JV))) (xa : JV) {axh_0 : Option Addr} {cxh_0 : Nat} (xh : List (Int × List (List UInt8) × List (JV))) (xb : JV) (hRxg_0 : Rep g (.slice (.pair (.int .i64) (.pair (.slice (.str)) (.slice (.pair (.int .i64) (.pair (.int .i64) (.str))))))) [.slice axg_0 xg.length cxg_0] xg) (hRxh_0 : Rep g (.slice (.pair (.int .i64) (.pair (.slice (.str)) (.slice (.pair (.int .i64) (.pair (.int .i64) (.str))))))) [.slice axh_0 xh.length cxh_0] xh) (K : Bool → Int → Prop)
    (hF : halF xg xa xh xb K) : CallsH Try.prog 7 #[.slice axg_0 xg.length cxg_0, .agg #[.int .i64 xa.1, .int .i64 xa.2.1, .string ⟨⟨xa.2.2⟩⟩], .slice axh_0 xh.length cxh_0, .agg #[.int .i64 xb.1, .int .i64 xb.2.1, .string ⟨⟨xb.2.2⟩⟩]] g [] (fun g' H' v => ∃ (r0 : Bool), ∃ (r1 : Int), v = .tuple #[.bool r0, .int .i64 r1] ∧ H' = [] ∧ K r0 r1) := by
  refine CallsH.enter 66 [(0, .slice axg_0 xg.length cxg_0), (1, .agg #[.int .i64 xa.1, .int .i64 xa.2.1, .string ⟨⟨xa.2.2⟩⟩]), (2, .slice axh_0 xh.length cxh_0), (3, .agg #[.int .i64 xb.1, .int .i64 xb.2.1, .string ⟨⟨xb.2.2⟩⟩])] Try.func7 rfl (by kernel_rfl) (by kernel_rfl) (by kernel_rfl) fun w0 => ?_
  refine Ok.seq ?_
  refine Ok.region ?_
  refine Ok.op rfl (OpOk.box (v := .agg #[.int .i64 xa.1, .int .i64 xa.2.1, .string ⟨⟨xa.2.2⟩⟩]) (cs := #[.int .i64 xa.1, .int .i64 xa.2.1, .string ⟨⟨xa.2.2⟩⟩]) rfl (by kernel_rfl) rfl fun b1 => ?_)
  refine Ok.op rfl (OpOk.box (v := .agg #[.int .i64 xb.1, .int .i64 xb.2.1, .string ⟨⟨xb.2.2⟩⟩]) (cs := #[.int .i64 xb.1, .int .i64 xb.2.1, .string ⟨⟨xb.2.2⟩⟩]) rfl (by kernel_rfl) rfl fun b2 => ?_)
  refine Ok.batch 2 [(0, .slice axg_0 xg.length cxg_0), (2, .slice axh_0 xh.length cxh_0), (5, .pointer (some ⟨b1, 0, none⟩)), (7, .pointer (some ⟨b2, 0, none⟩))] (by kernel_rfl) ?_
  refine Ok.nil ?_
  refine Ok.thenN ?_
  refine Ok.seq ?_
  refine Ok.seq ?_
  refine Ok.region ?_
  refine Ok.batch 2 [(0, .slice axg_0 xg.length cxg_0), (2, .slice axh_0 xh.length cxh_0), (5, .pointer (some ⟨b1, 0, none⟩)), (7, .pointer (some ⟨b2, 0, none⟩)), (18, .slice axg_0 xg.length cxg_0), (19, .slice axh_0 xh.length cxh_0)] (by kernel_rfl) ?_
  have hL3 : RepL g (.slice (.pair (.int .i64) (.pair (.slice (.str)) (.slice (.pair (.int .i64) (.pair (.int .i64) (.str))))))) ([.slice axg_0 xg.length cxg_0, .slice axh_0 xh.length cxh_0] : List Value) ([xg, xh] : List (List (Int × List (List UInt8) × List (JV)))) := (RepL.consN (c := [.slice axg_0 xg.length cxg_0]) hRxg_0 (RepL.consN (c := [.slice axh_0 xh.length cxh_0]) hRxh_0 rfl))
  refine Ok.op rfl (OpOk.lit (E := 22) (.slice (.pair (.int .i64) (.pair (.slice (.str)) (.slice (.pair (.int .i64) (.pair (.int .i64) (.str))))))) ([xg, xh] : List (List (Int × List (List UInt8) × List (JV)))) ([.slice axg_0 xg.length cxg_0, .slice axh_0 xh.length cxh_0] : List Value) (by kernel_rfl) (by kernel_rfl) rfl (by kernel_rfl) hL3 rfl fun b3 => ?_)
  refine Ok.batch 2 [(0, .slice axg_0 xg.length cxg_0), (2, .slice axh_0 xh.length cxh_0), (5, .pointer (some ⟨b1, 0, none⟩)), (7, .pointer (some ⟨b2, 0, none⟩)), (20, .slice (some ⟨b3, 0, none⟩) ([xg, xh] : List (List (Int × List (List UInt8) × List (JV)))).length 2), (21, .int .i64 (([xg, xh] : List (List (Int × List (List UInt8) × List (JV)))).length : Int)), (22, .int .i64 0)] (by kernel_rfl) ?_
  refine Ok.nil ?_
  refine Ok.thenN ?_
  refine Ok.block ?_
  obtain ⟨k, hF⟩ := hF
  refine Ok.loop (fun k a W => ∃ gl7 : Ghost, Gext w0 g gl7 ∧ ∃ (x22l7 : Int), StA 66 [(0, .slice axg_0 xg.length cxg_0), (2, .slice axh_0 xh.length cxh_0), (5, .pointer (some ⟨b1, 0, none⟩)), (7, .pointer (some ⟨b2, 0, none⟩)), (20, .slice (some ⟨b3, 0, none⟩) ([xg, xh] : List (List (Int × List (List UInt8) × List (JV)))).length 2), (21, .int .i64 (([xg, xh] : List (List (Int × List (List UInt8) × List (JV)))).length : Int)), (22, .int .i64 x22l7)] a ∧ StW w0 [.own (.slice (some ⟨b3, 0, none⟩) ([xg, xh] : List (List (Int × List (List UInt8) × List (JV)))).length 2) 22 1 ([xg, xh] : List (List (Int × List (List UInt8) × List (JV)))).length ([.slice axg_0 xg.length cxg_0, .slice axh_0 xh.length cxh_0] : List Value), .blk b2 (.cells #[.int .i64 xb.1, .int .i64 xb.2.1, .string ⟨⟨xb.2.2⟩⟩] 24), .blk b1 (.cells #[.int .i64 xa.1, .int .i64 xa.2.1, .string ⟨⟨xa.2.2⟩⟩] 24)] gl7 W ∧ hall7 xg xa xh xb K k x22l7) k ?_ ?_
  ·
    exact fun a W hA hW => ⟨g, (Gext.refl w0 g), 0, hA.sub (by kernel_rfl), hW, hF⟩
  ·
    clear hF
    rintro k7 a W ⟨gl7, hxl7, x22l7, hA, hW, hF⟩
    cases k7 with
    | zero => exact (hF : False).elim
    | succ k7 =>
      refine (?_ : Ok _ _ _ _ _ _) a W hA hW
      clear hA hW
      replace hRxg_0 := hRxg_0.mono hxl7.1
      replace hRxh_0 := hRxh_0.mono hxl7.1
      replace hL3 := hL3.mono hxl7.1
      refine Ok.seq ?_
      refine Ok.region ?_
      refine Ok.batch 1 [(0, .slice axg_0 xg.length cxg_0), (2, .slice axh_0 xh.length cxh_0), (5, .pointer (some ⟨b1, 0, none⟩)), (7, .pointer (some ⟨b2, 0, none⟩)), (20, .slice (some ⟨b3, 0, none⟩) ([xg, xh] : List (List (Int × List (List UInt8) × List (JV)))).length 2), (21, .int .i64 (([xg, xh] : List (List (Int × List (List UInt8) × List (JV)))).length : Int)), (22, .int .i64 x22l7), (23, .bool (decide (x22l7 < (([xg, xh] : List (List (Int × List (List UInt8) × List (JV)))).length : Int))))] (by kernel_rfl) ?_
      refine Ok.nil ?_
      refine Ok.thenN ?_
      refine Ok.seq ?_
      refine Ok.cond (b := decide (x22l7 < (([xg, xh] : List (List (Int × List (List UInt8) × List (JV)))).length : Int))) rfl (fun hc4 => ?_) (fun hc4 => ?_)
      · replace hF := hF.1 hc4
        refine Ok.skip ?_
        refine Ok.thenN ?_
        refine Ok.seq ?_
        refine Ok.block ?_
        refine Ok.seq ?_
        refine Ok.region ?_
        obtain ⟨h06, h16, hF⟩ := hF
        have he6 := get_of (l := ([xg, xh] : List (List (Int × List (List UInt8) × List (JV))))) (default : List (Int × List (List UInt8) × List (JV))) h16
        generalize hg6 : (([xg, xh] : List (List (Int × List (List UInt8) × List (JV)))).getD (Int.toNat x22l7) default) = e6 at he6 hF ⊢
        refine Ok.op rfl (OpOk.indexOwn (e := .slice (.pair (.int .i64) (.pair (.slice (.str)) (.slice (.pair (.int .i64) (.pair (.int .i64) (.str))))))) (q := x22l7) (el := e6) 0 rfl hL3 rfl rfl Try.underlying80 (by kernel_rfl) (by kernel_rfl) h06 he6 rfl fun cs5 _ hr5 hc5 => ?_)
        obtain ⟨a5_0, c5_0, rfl, hm5_0, hr5_0⟩ := hr5
        have hR5_0 : Rep gl7 (.slice (.pair (.int .i64) (.pair (.slice (.str)) (.slice (.pair (.int .i64) (.pair (.int .i64) (.str))))))) [.slice a5_0 e6.length c5_0] e6 := ⟨a5_0, c5_0, rfl, hm5_0, hr5_0⟩
        replace hc5 : ∀ j v, ([.slice a5_0 e6.length c5_0] : List Value)[j]? = some v → ([.slice axg_0 xg.length cxg_0, .slice axh_0 xh.length cxh_0] : List Value)[Int.toNat x22l7 * 1 + j]? = some v := hc5
        refine Ok.op rfl (OpOk.step (v := .slice a5_0 e6.length c5_0) (Yields.loadOwn 0 0 rfl hc5 rfl Try.underlying22 rfl (by kernel_rfl)) rfl rfl ?_)
        refine Ok.batch 1 [(0, .slice axg_0 xg.length cxg_0), (2, .slice axh_0 xh.length cxh_0), (5, .pointer (some ⟨b1, 0, none⟩)), (7, .pointer (some ⟨b2, 0, none⟩)), (11, .slice a5_0 e6.length c5_0), (20, .slice (some ⟨b3, 0, none⟩) ([xg, xh] : List (List (Int × List (List UInt8) × List (JV)))).length 2), (21, .int .i64 (([xg, xh] : List (List (Int × List (List UInt8) × List (JV)))).length : Int)), (22, .int .i64 x22l7)] (by kernel_rfl) ?_
        refine Ok.nil ?_
        refine Ok.thenN ?_
        refine Ok.seq ?_
        refine Ok.region ?_
        refine Ok.batch 1 [(0, .slice axg_0 xg.length cxg_0), (2, .slice axh_0 xh.length cxh_0), (5, .pointer (some ⟨b1, 0, none⟩)), (7, .pointer (some ⟨b2, 0, none⟩)), (20, .slice (some ⟨b3, 0, none⟩) ([xg, xh] : List (List (Int × List (List UInt8) × List (JV)))).length 2), (21, .int .i64 (([xg, xh] : List (List (Int × List (List UInt8) × List (JV)))).length : Int)), (22, .int .i64 x22l7), (26, .slice a5_0 e6.length c5_0)] (by kernel_rfl) ?_
        refine Ok.op rfl (OpOk.callG (v := .int .i64 (hchkS e6)) (enters (by kernel_rfl) (fun _ => by kernel_rfl)) (fun W hW => hchk_c e6 (hR5_0.mono hW.sees)) rfl ?_)
        refine Ok.batch 1 [(0, .slice axg_0 xg.length cxg_0), (2, .slice axh_0 xh.length cxh_0), (5, .pointer (some ⟨b1, 0, none⟩)), (7, .pointer (some ⟨b2, 0, none⟩)), (12, .int .i64 (hchkS e6)), (20, .slice (some ⟨b3, 0, none⟩) ([xg, xh] : List (List (Int × List (List UInt8) × List (JV)))).length 2), (21, .int .i64 (([xg, xh] : List (List (Int × List (List UInt8) × List (JV)))).length : Int)), (22, .int .i64 x22l7)] (by kernel_rfl) ?_
        refine Ok.nil ?_
        refine Ok.thenN ?_
        refine Ok.seq ?_
        refine Ok.region ?_
        refine Ok.batch 2 [(0, .slice axg_0 xg.length cxg_0), (2, .slice axh_0 xh.length cxh_0), (5, .pointer (some ⟨b1, 0, none⟩)), (7, .pointer (some ⟨b2, 0, none⟩)), (12, .int .i64 (hchkS e6)), (20, .slice (some ⟨b3, 0, none⟩) ([xg, xh] : List (List (Int × List (List UInt8) × List (JV)))).length 2), (21, .int .i64 (([xg, xh] : List (List (Int × List (List UInt8) × List (JV)))).length : Int)), (22, .int .i64 x22l7), (29, .bool ((hchkS e6) != 0))] (by kernel_rfl) ?_
        refine Ok.nil ?_
        refine Ok.thenN ?_
        refine Ok.cond (b := ((hchkS e6) != 0)) rfl (fun hc7 => ?_) (fun hc7 => ?_)
        · replace hF := hF.1 hc7
          refine Ok.seq ?_
          refine Ok.region ?_
          refine Ok.batch 3 [(8, .bool false), (9, .int .i64 (hchkS e6))] (by kernel_rfl) ?_
          refine Ok.nil ?_
          refine Ok.thenN ?_
          refine Ok.ret ?_
          refine Ok.blockR ?_
          refine Ok.thenR ?_
          refine Ok.thenR ?_
          refine Ok.blockR ?_
          refine Ok.thenR ?_
          exact Ok.resP (vs := [.bool false, .int .i64 (hchkS e6)]) [] [] (by decide) rfl (.inl rfl) rfl (.cons (.tmp rfl) (.cons (.tmp rfl) .nil)) hxl7 ⟨false, (hchkS e6), rfl, rfl, hF⟩
        · replace hF := hF.2 hc7
          refine Ok.skip ?_
          refine Ok.blockN ?_
          refine Ok.thenN ?_
          refine Ok.region ?_
          refine Ok.batch 2 [(0, .slice axg_0 xg.length cxg_0), (2, .slice axh_0 xh.length cxh_0), (5, .pointer (some ⟨b1, 0, none⟩)), (7, .pointer (some ⟨b2, 0, none⟩)), (20, .slice (some ⟨b3, 0, none⟩) ([xg, xh] : List (List (Int × List (List UInt8) × List (JV)))).length 2), (21, .int .i64 (([xg, xh] : List (List (Int × List (List UInt8) × List (JV)))).length : Int)), (22, .int .i64 (IntKind.wrap .i64 (x22l7 + 1)))] (by kernel_rfl) ?_
          refine Ok.nil ?_
          refine Ok.thenN ?_
          subst hg6
          exact fun a W hA hW => ⟨k7, Nat.lt_succ_self _, gl7, hxl7, IntKind.wrap .i64 (x22l7 + 1), hA.sub (by kernel_rfl), hW, hF⟩
      · replace hF := hF.2 hc4
        refine Ok.exit ?_
        refine Ok.thenE ?_
        refine Ok.thenE ?_
        refine Ok.blockHit ?_
        refine Ok.thenN ?_
        refine Ok.seq ?_
        refine Ok.region ?_
        refine Ok.batch 1 [(2, .slice axh_0 xh.length cxh_0), (5, .pointer (some ⟨b1, 0, none⟩)), (7, .pointer (some ⟨b2, 0, none⟩)), (33, .slice axg_0 xg.length cxg_0)] (by kernel_rfl) ?_
        refine Ok.op rfl (OpOk.step (v := .agg #[.int .i64 xa.1, .int .i64 xa.2.1, .string ⟨⟨xa.2.2⟩⟩]) (Yields.loadAgg 2 3 #[.int .i64 xa.1, .int .i64 xa.2.1, .string ⟨⟨xa.2.2⟩⟩] rfl rfl Try.underlying24 rfl (by kernel_rfl) (by kernel_rfl) (by kernel_rfl)) rfl rfl ?_)
        have hL8 : RepL gl7 (.pair (.int .i64) (.pair (.int .i64) (.str))) ([.int .i64 xa.1, .int .i64 xa.2.1, .string ⟨⟨xa.2.2⟩⟩] : List Value) ([xa] : List (JV)) := (RepL.consN (c := [.int .i64 xa.1, .int .i64 xa.2.1, .string ⟨⟨xa.2.2⟩⟩]) ⟨[.int .i64 xa.1], [.int .i64 xa.2.1, .string ⟨⟨xa.2.2⟩⟩], rfl, rfl, ⟨[.int .i64 xa.2.1], [.string ⟨⟨xa.2.2⟩⟩], rfl, rfl, rfl⟩⟩ rfl)
        refine Ok.op rfl (OpOk.lit (E := 24) (.pair (.int .i64) (.pair (.int .i64) (.str))) ([xa] : List (JV)) ([.int .i64 xa.1, .int .i64 xa.2.1, .string ⟨⟨xa.2.2⟩⟩] : List Value) (by kernel_rfl) (by kernel_rfl) rfl (by kernel_rfl) hL8 rfl fun b8 => ?_)
        refine Ok.freeze (H' := [.own (.slice (some ⟨b3, 0, none⟩) ([xg, xh] : List (List (Int × List (List UInt8) × List (JV)))).length 2) 22 1 ([xg, xh] : List (List (Int × List (List UInt8) × List (JV)))).length ([.slice axg_0 xg.length cxg_0, .slice axh_0 xh.length cxh_0] : List Value), .blk b2 (.cells #[.int .i64 xb.1, .int .i64 xb.2.1, .string ⟨⟨xb.2.2⟩⟩] 24), .blk b1 (.cells #[.int .i64 xa.1, .int .i64 xa.2.1, .string ⟨⟨xa.2.2⟩⟩] 24)]) 0 rfl hL8 rfl fun g9 hx9 hRf9 => ?_
        replace hRxh_0 := hRxh_0.mono hx9.1
        replace hRxg_0 := hRxg_0.mono hx9.1
        replace hL3 := hL3.mono hx9.1
        obtain ⟨hp10, hF⟩ := hF
        refine Ok.op rfl (OpOk.callH [] [.own (.slice (some ⟨b3, 0, none⟩) ([xg, xh] : List (List (Int × List (List UInt8) × List (JV)))).length 2) 22 1 ([xg, xh] : List (List (Int × List (List UInt8) × List (JV)))).length ([.slice axg_0 xg.length cxg_0, .slice axh_0 xh.length cxh_0] : List Value), .blk b2 (.cells #[.int .i64 xb.1, .int .i64 xb.2.1, .string ⟨⟨xb.2.2⟩⟩] 24), .blk b1 (.cells #[.int .i64 xa.1, .int .i64 xa.2.1, .string ⟨⟨xa.2.2⟩⟩] 24)] (enters (by kernel_rfl) (fun _ => by kernel_rfl)) rfl (hMo_c xg ([xa] : List (JV)) hRxg_0 hRf9 hp10) rfl fun g11 _ _ hx11 hV11 => ?_)
        obtain ⟨a11_0, c11_0, a11_2, c11_2, rfl, hR11_0, hR11_2, rfl⟩ := hV11
        replace hRxh_0 := hRxh_0.mono hx11.1
        replace hRxg_0 := hRxg_0.mono hx11.1
        replace hRf9 := hRf9.mono hx11.1
        replace hL3 := hL3.mono hx11.1
        refine Ok.batch 7 [(2, .slice axh_0 xh.length cxh_0), (7, .pointer (some ⟨b2, 0, none⟩)), (13, .slice a11_0 ((hMoS xg ([xa] : List (JV))).1).length c11_0), (14, .slice a11_2 ((hMoS xg ([xa] : List (JV))).2.1).length c11_2), (15, .int .i64 ((hMoS xg ([xa] : List (JV))).2.2))] (by kernel_rfl) ?_
        refine Ok.nil ?_
        refine Ok.thenN ?_
        refine Ok.seq ?_
        refine Ok.seq ?_
        refine Ok.region ?_
        refine Ok.batch 2 [(2, .slice axh_0 xh.length cxh_0), (7, .pointer (some ⟨b2, 0, none⟩)), (13, .slice a11_0 ((hMoS xg ([xa] : List (JV))).1).length c11_0), (14, .slice a11_2 ((hMoS xg ([xa] : List (JV))).2.1).length c11_2), (15, .int .i64 ((hMoS xg ([xa] : List (JV))).2.2)), (41, .bool (((hMoS xg ([xa] : List (JV))).2.2) != 0))] (by kernel_rfl) ?_
        refine Ok.nil ?_
        refine Ok.thenN ?_
        refine Ok.cond (b := (((hMoS xg ([xa] : List (JV))).2.2) != 0)) rfl (fun hc12 => ?_) (fun hc12 => ?_)
        · replace hF := hF.1 hc12
          refine Ok.seq ?_
          refine Ok.region ?_
          refine Ok.batch 3 [(8, .bool false), (9, .int .i64 ((hMoS xg ([xa] : List (JV))).2.2))] (by kernel_rfl) ?_
          refine Ok.nil ?_
          refine Ok.thenN ?_
          refine Ok.ret ?_
          refine Ok.thenR ?_
          exact Ok.resP (vs := [.bool false, .int .i64 ((hMoS xg ([xa] : List (JV))).2.2)]) [] [] (by decide) rfl (.inl rfl) rfl (.cons (.tmp rfl) (.cons (.tmp rfl) .nil)) ((hxl7.trans hx9).trans hx11) ⟨false, ((hMoS xg ([xa] : List (JV))).2.2), rfl, rfl, hF⟩
        · replace hF := hF.2 hc12
          refine Ok.skip ?_
          refine Ok.thenN ?_
          refine Ok.seq ?_
          refine Ok.region ?_
          refine Ok.batch 1 [(7, .pointer (some ⟨b2, 0, none⟩)), (13, .slice a11_0 ((hMoS xg ([xa] : List (JV))).1).length c11_0), (14, .slice a11_2 ((hMoS xg ([xa] : List (JV))).2.1).length c11_2), (44, .slice axh_0 xh.length cxh_0)] (by kernel_rfl) ?_
          refine Ok.op rfl (OpOk.step (v := .agg #[.int .i64 xb.1, .int .i64 xb.2.1, .string ⟨⟨xb.2.2⟩⟩]) (Yields.loadAgg 1 3 #[.int .i64 xb.1, .int .i64 xb.2.1, .string ⟨⟨xb.2.2⟩⟩] rfl rfl Try.underlying24 rfl (by kernel_rfl) (by kernel_rfl) (by kernel_rfl)) rfl rfl ?_)
          have hL13 : RepL g11 (.pair (.int .i64) (.pair (.int .i64) (.str))) ([.int .i64 xb.1, .int .i64 xb.2.1, .string ⟨⟨xb.2.2⟩⟩] : List Value) ([xb] : List (JV)) := (RepL.consN (c := [.int .i64 xb.1, .int .i64 xb.2.1, .string ⟨⟨xb.2.2⟩⟩]) ⟨[.int .i64 xb.1], [.int .i64 xb.2.1, .string ⟨⟨xb.2.2⟩⟩], rfl, rfl, ⟨[.int .i64 xb.2.1], [.string ⟨⟨xb.2.2⟩⟩], rfl, rfl, rfl⟩⟩ rfl)
          refine Ok.op rfl (OpOk.lit (E := 24) (.pair (.int .i64) (.pair (.int .i64) (.str))) ([xb] : List (JV)) ([.int .i64 xb.1, .int .i64 xb.2.1, .string ⟨⟨xb.2.2⟩⟩] : List Value) (by kernel_rfl) (by kernel_rfl) rfl (by kernel_rfl) hL13 rfl fun b13 => ?_)
          refine Ok.freeze (H' := [.own (.slice (some ⟨b3, 0, none⟩) ([xg, xh] : List (List (Int × List (List UInt8) × List (JV)))).length 2) 22 1 ([xg, xh] : List (List (Int × List (List UInt8) × List (JV)))).length ([.slice axg_0 xg.length cxg_0, .slice axh_0 xh.length cxh_0] : List Value), .blk b2 (.cells #[.int .i64 xb.1, .int .i64 xb.2.1, .string ⟨⟨xb.2.2⟩⟩] 24), .blk b1 (.cells #[.int .i64 xa.1, .int .i64 xa.2.1, .string ⟨⟨xa.2.2⟩⟩] 24)]) 0 rfl hL13 rfl fun g14 hx14 hRf14 => ?_
          replace hR11_0 := hR11_0.mono hx14.1
          replace hR11_2 := hR11_2.mono hx14.1
          replace hRxh_0 := hRxh_0.mono hx14.1
          replace hL3 := hL3.mono hx14.1
          obtain ⟨hp15, hF⟩ := hF
          refine Ok.op rfl (OpOk.callH [] [.own (.slice (some ⟨b3, 0, none⟩) ([xg, xh] : List (List (Int × List (List UInt8) × List (JV)))).length 2) 22 1 ([xg, xh] : List (List (Int × List (List UInt8) × List (JV)))).length ([.slice axg_0 xg.length cxg_0, .slice axh_0 xh.length cxh_0] : List Value), .blk b2 (.cells #[.int .i64 xb.1, .int .i64 xb.2.1, .string ⟨⟨xb.2.2⟩⟩] 24), .blk b1 (.cells #[.int .i64 xa.1, .int .i64 xa.2.1, .string ⟨⟨xa.2.2⟩⟩] 24)] (enters (by kernel_rfl) (fun _ => by kernel_rfl)) rfl (hMo_c xh ([xb] : List (JV)) hRxh_0 hRf14 hp15) rfl fun g16 _ _ hx16 hV16 => ?_)
          obtain ⟨a16_0, c16_0, a16_2, c16_2, rfl, hR16_0, hR16_2, rfl⟩ := hV16
          replace hR11_0 := hR11_0.mono hx16.1
          replace hR11_2 := hR11_2.mono hx16.1
          replace hRxh_0 := hRxh_0.mono hx16.1
          replace hRf14 := hRf14.mono hx16.1
          replace hL3 := hL3.mono hx16.1
          refine Ok.batch 7 [(13, .slice a11_0 ((hMoS xg ([xa] : List (JV))).1).length c11_0), (14, .slice a11_2 ((hMoS xg ([xa] : List (JV))).2.1).length c11_2), (15, .int .i64 ((hMoS xh ([xb] : List (JV))).2.2)), (16, .slice a16_0 ((hMoS xh ([xb] : List (JV))).1).length c16_0), (17, .slice a16_2 ((hMoS xh ([xb] : List (JV))).2.1).length c16_2)] (by kernel_rfl) ?_
          refine Ok.nil ?_
          refine Ok.thenN ?_
          refine Ok.seq ?_
          refine Ok.seq ?_
          refine Ok.region ?_
          refine Ok.batch 2 [(13, .slice a11_0 ((hMoS xg ([xa] : List (JV))).1).length c11_0), (14, .slice a11_2 ((hMoS xg ([xa] : List (JV))).2.1).length c11_2), (15, .int .i64 ((hMoS xh ([xb] : List (JV))).2.2)), (16, .slice a16_0 ((hMoS xh ([xb] : List (JV))).1).length c16_0), (17, .slice a16_2 ((hMoS xh ([xb] : List (JV))).2.1).length c16_2), (52, .bool (((hMoS xh ([xb] : List (JV))).2.2) != 0))] (by kernel_rfl) ?_
          refine Ok.nil ?_
          refine Ok.thenN ?_
          refine Ok.cond (b := (((hMoS xh ([xb] : List (JV))).2.2) != 0)) rfl (fun hc17 => ?_) (fun hc17 => ?_)
          · replace hF := hF.1 hc17
            refine Ok.seq ?_
            refine Ok.region ?_
            refine Ok.batch 3 [(8, .bool false), (9, .int .i64 ((hMoS xh ([xb] : List (JV))).2.2))] (by kernel_rfl) ?_
            refine Ok.nil ?_
            refine Ok.thenN ?_
            refine Ok.ret ?_
            refine Ok.thenR ?_
            exact Ok.resP (vs := [.bool false, .int .i64 ((hMoS xh ([xb] : List (JV))).2.2)]) [] [] (by decide) rfl (.inl rfl) rfl (.cons (.tmp rfl) (.cons (.tmp rfl) .nil)) ((((hxl7.trans hx9).trans hx11).trans hx14).trans hx16) ⟨false, ((hMoS xh ([xb] : List (JV))).2.2), rfl, rfl, hF⟩
          · replace hF := hF.2 hc17
            refine Ok.skip ?_
            refine Ok.thenN ?_
            refine Ok.cut (fun a W => ∃ gj48 : Ghost, Gext w0 g16 gj48 ∧ StA 66 [(8, .bool (halV0 xg xa xh xb)), (9, .int .i64 0)] a ∧ StW w0 [] gj48 W ∧ halj48 xg xa xh xb K) ?_ ?_
            ·
              refine Ok.quiet' (by kernel_rfl) (by kernel_rfl) ?_
              refine OkQ.batch 2 [(14, .slice a11_2 ((hMoS xg ([xa] : List (JV))).2.1).length c11_2), (17, .slice a16_2 ((hMoS xh ([xb] : List (JV))).2.1).length c16_2), (54, .slice a11_0 ((hMoS xg ([xa] : List (JV))).1).length c11_0), (55, .slice a16_0 ((hMoS xh ([xb] : List (JV))).1).length c16_0)] (by kernel_rfl) ?_
              obtain ⟨hp18, hF⟩ := hF
              refine OkQ.op rfl (OpQ.callG (v := .bool (cefS ((hMoS xg ([xa] : List (JV))).1) ((hMoS xh ([xb] : List (JV))).1) (fun y0 y1 => hsmS y0 y1))) (enters (by kernel_rfl) (fun _ => by kernel_rfl)) (fun W hW => cef_c (vxeq := .func (.func 35) #[] #[]) ((hMoS xg ([xa] : List (JV))).1) ((hMoS xh ([xb] : List (JV))).1) (fun y0 y1 => hsmS y0 y1) (fun y0 y1 => hsmP y0 y1) (hR11_0.mono hW.sees) (hR16_0.mono hW.sees) (fun g2 hl y0 y1 _ _ _ _ _ _ _ _ zr0 zr1 zr2 zr3 hq => ⟨35, _, fun _ => by kernel_rfl, hsm_c y0 y1 zr0 zr1 zr2 zr3 hq⟩) hp18) rfl ?_)
              refine OkQ.batch 1 [(14, .slice a11_2 ((hMoS xg ([xa] : List (JV))).2.1).length c11_2), (17, .slice a16_2 ((hMoS xh ([xb] : List (JV))).2.1).length c16_2), (57, .bool (cefS ((hMoS xg ([xa] : List (JV))).1) ((hMoS xh ([xb] : List (JV))).1) (fun y0 y1 => hsmS y0 y1)))] (by kernel_rfl) ?_
              refine OkQ.boolAt 57 ((cefS ((hMoS xg ([xa] : List (JV))).1) ((hMoS xh ([xb] : List (JV))).1) (fun y0 y1 => hsmS y0 y1))) rfl (fun hc19 => ?_) (fun hc19 => ?_)
              · replace hF := hF.1 hc19
                refine OkQ.batch 1 [(17, .slice a16_2 ((hMoS xh ([xb] : List (JV))).2.1).length c16_2), (57, .bool true), (58, .slice a11_2 ((hMoS xg ([xa] : List (JV))).2.1).length c11_2)] (by kernel_rfl) ?_
                obtain ⟨h021, h121, hF⟩ := hF
                have he21 := get_of (l := (hMoS xg ([xa] : List (JV))).2.1) (default : JV) h121
                generalize hg21 : (((hMoS xg ([xa] : List (JV))).2.1).getD (Int.toNat 0) default) = e21 at he21 hF ⊢
                refine OkQ.opYes (j := 3) (d := 57) (want := true) (b := true) rfl (by kernel_rfl) (by kernel_rfl) rfl (OpQ.indexRo (e := .pair (.int .i64) (.pair (.int .i64) (.str))) (i := 0) (el := e21) rfl rfl Try.underlying29 (by kernel_rfl) hR11_2 h021 he21 rfl fun q20 o20 cs20 _ hat20 hr20 => ?_)
                obtain ⟨_, _, rfl, rfl, ⟨_, _, rfl, rfl, rfl⟩⟩ := hr20
                replace hat20 : At g16 q20 o20 [.int .i64 e21.1, .int .i64 e21.2.1, .string ⟨⟨e21.2.2⟩⟩] := hat20
                refine OkQ.opYes (j := 3) (d := 57) (want := true) (b := true) rfl (by kernel_rfl) (by kernel_rfl) rfl (OpQ.step (v := .agg #[.int .i64 e21.1, .int .i64 e21.2.1, .string ⟨⟨e21.2.2⟩⟩]) (Yields.loadAggRo 0 3 #[.int .i64 e21.1, .int .i64 e21.2.1, .string ⟨⟨e21.2.2⟩⟩] hat20 (by kernel_rfl) Try.underlying24 rfl (by kernel_rfl) (by kernel_rfl) (by kernel_rfl)) rfl rfl ?_)
                refine OkQ.batch 1 [(57, .bool true), (60, .agg #[.int .i64 e21.1, .int .i64 e21.2.1, .string ⟨⟨e21.2.2⟩⟩]), (61, .slice a16_2 ((hMoS xh ([xb] : List (JV))).2.1).length c16_2)] (by kernel_rfl) ?_
                obtain ⟨h023, h123, hF⟩ := hF
                have he23 := get_of (l := (hMoS xh ([xb] : List (JV))).2.1) (default : JV) h123
                generalize hg23 : (((hMoS xh ([xb] : List (JV))).2.1).getD (Int.toNat 0) default) = e23 at he23 hF ⊢
                refine OkQ.opYes (j := 3) (d := 57) (want := true) (b := true) rfl (by kernel_rfl) (by kernel_rfl) rfl (OpQ.indexRo (e := .pair (.int .i64) (.pair (.int .i64) (.str))) (i := 0) (el := e23) rfl rfl Try.underlying29 (by kernel_rfl) hR16_2 h023 he23 rfl fun q22 o22 cs22 _ hat22 hr22 => ?_)
                obtain ⟨_, _, rfl, rfl, ⟨_, _, rfl, rfl, rfl⟩⟩ := hr22
                replace hat22 : At g16 q22 o22 [.int .i64 e23.1, .int .i64 e23.2.1, .string ⟨⟨e23.2.2⟩⟩] := hat22
                refine OkQ.opYes (j := 3) (d := 57) (want := true) (b := true) rfl (by kernel_rfl) (by kernel_rfl) rfl (OpQ.step (v := .agg #[.int .i64 e23.1, .int .i64 e23.2.1, .string ⟨⟨e23.2.2⟩⟩]) (Yields.loadAggRo 0 3 #[.int .i64 e23.1, .int .i64 e23.2.1, .string ⟨⟨e23.2.2⟩⟩] hat22 (by kernel_rfl) Try.underlying24 rfl (by kernel_rfl) (by kernel_rfl) (by kernel_rfl)) rfl rfl ?_)
                refine OkQ.opYes (j := 3) (d := 57) (want := true) (b := true) rfl (by kernel_rfl) (by kernel_rfl) rfl (OpQ.step (v := .bool ([(e21.1 == e23.1), (e21.2.1 == e23.2.1), (e21.2.2 == e23.2.2)].all id)) (Yields.eqAgg (k := 2) rfl rfl (.struct (k := 1) Try.underlying24 (by kernel_rfl) ⟨by decide, ⟨.int .i64 e21.1, .int .i64 e23.1, fun _ => by kernel_rfl, fun _ => by kernel_rfl, EqR.mono (k := 1) (.int Try.underlying3) (by decide)⟩, ⟨by decide, ⟨.int .i64 e21.2.1, .int .i64 e23.2.1, fun _ => by kernel_rfl, fun _ => by kernel_rfl, EqR.mono (k := 1) (.int Try.underlying3) (by decide)⟩, ⟨by decide, ⟨.string ⟨⟨e21.2.2⟩⟩, .string ⟨⟨e23.2.2⟩⟩, fun _ => by kernel_rfl, fun _ => by kernel_rfl, EqR.mono (k := 1) (.str Try.underlying9) (by decide)⟩, trivial⟩⟩⟩) rfl (by kernel_rfl)) rfl rfl ?_)
                refine OkQ.batch 3 [(8, .bool ([(e21.1 == e23.1), (e21.2.1 == e23.2.1), (e21.2.2 == e23.2.2)].all id)), (9, .int .i64 0)] (by kernel_rfl) ?_
                refine OkQ.nil ?_
                refine Ok.thenN ?_
                subst hg23
                subst hg21
                refine Ok.reval 8 rfl (show (.bool ([((((hMoS xg ([xa] : List (JV))).2.1).getD (Int.toNat 0) default).1 == (((hMoS xh ([xb] : List (JV))).2.1).getD (Int.toNat 0) default).1), ((((hMoS xg ([xa] : List (JV))).2.1).getD (Int.toNat 0) default).2.1 == (((hMoS xh ([xb] : List (JV))).2.1).getD (Int.toNat 0) default).2.1), ((((hMoS xg ([xa] : List (JV))).2.1).getD (Int.toNat 0) default).2.2 == (((hMoS xh ([xb] : List (JV))).2.1).getD (Int.toNat 0) default).2.2)].all id) : Value) = .bool (halV0 xg xa xh xb) from congrArg (Value.bool) (mand_t hc19)) ?_
                exact fun a W hA hW => ⟨g16, (Gext.refl w0 g16), hA.sub (by kernel_rfl), hW.sub (.cons _ (.cons _ (.cons _ .slnil))), hF⟩
              · replace hF := hF.2 hc19
                refine OkQ.batch 10 [(8, .bool false), (9, .int .i64 0)] (by kernel_rfl) ?_
                refine OkQ.nil ?_
                refine Ok.thenN ?_
                refine Ok.reval 8 rfl (show (.bool false : Value) = .bool (halV0 xg xa xh xb) from congrArg (Value.bool) (mand_f hc19)) ?_
                exact fun a W hA hW => ⟨g16, (Gext.refl w0 g16), hA.sub (by kernel_rfl), hW.sub (.cons _ (.cons _ (.cons _ .slnil))), hF⟩
            ·
              clear hF
              rintro a W ⟨gj48, hxj48, hA, hW, hF⟩
              refine (?_ : Ok _ _ _ _ _ _) a W hA hW
              clear hA hW
              refine Ok.ret ?_
              exact Ok.resH (vs := [.bool (halV0 xg xa xh xb), .int .i64 0]) (.inl rfl) rfl (.cons (.tmp rfl) (.cons (.tmp rfl) .nil)) (((((hxl7.trans hx9).trans hx11).trans hx14).trans hx16).trans hxj48) ⟨(halV0 xg xa xh xb), 0, rfl, rfl, hF⟩
def halS (g : List JC) (a : JV) (h : List JC) (b : JV) : Bool × Int :=
  if (hchkS g != 0) = true then (false, hchkS g) else if (hchkS h != 0) = true then (false, hchkS h) else
  if ((hMoS g [a]).2.2 != 0) = true then (false, (hMoS g [a]).2.2) else if ((hMoS h [b]).2.2 != 0) = true then (false, (hMoS h [b]).2.2) else (halV0 g a h b, 0)
def halP (g : List JC) (_ : JV) (h : List JC) (_ : JV) : Prop := rcrP g ∧ rcrP h
theorem mov_len {h : List JC} (H : HV h) (to : List Int) (n : Int) : (movC h to n).2.1.length ≤ 200 ∧ (movC h to n).2.2.length ≤ 200 := by
  unfold movC
  by_cases hn : n.toNat < h.length
  · have := H.small _ (mem_getD default hn)
    simp only [List.length_map]; omega
  · rw [List.getD_eq_getElem?_getD, List.getElem?_eq_none (by omega)]
    exact ⟨Nat.zero_le _, by simp; exact Nat.zero_le _⟩
theorem mo_ok {h : List JC} {l : List JV} (hz : (hMoS h l).2.2 = 0) : HV h ∧ (∀ v ∈ l, hrefM v < (h.length : Int)) ∧ hMoS h l = ((order h l).2.map (movC h (order h l).1), l.map (movV (order h l).1), 0) := by
  unfold hMoS at hz
  split at hz
  · rename_i h1
    have hz : haskS h l = 0 := hz
    rw [hz] at h1; cases h1
  · rename_i h1
    have h0 : haskS h l = 0 := by simpa using h1
    exact ⟨(ask_zero h0).1, (ask_zero h0).2, by unfold hMoS; rw [if_neg h1]⟩
theorem mo_cells {h : List JC} {l : List JV} (H : HV h) (hl : ∀ v ∈ l, hrefM v < (h.length : Int)) : ((order h l).2.map (movC h (order h l).1)).length ≤ 1000000 ∧ ∀ c ∈ (order h l).2.map (movC h (order h l).1), c.2.1.length ≤ 200 ∧ c.2.2.length ≤ 200 := by
  have I : Inv h (order h l) := (comes_ok H hl (start_inv h)).1
  have hc := I.cnt
  have hf := H.few
  refine ⟨by rw [List.length_map]; omega, fun c hc => ?_⟩
  obtain ⟨n, -, rfl⟩ := List.mem_map.1 hc
  exact mov_len H _ n
theorem hal_F (g : List JC) (a : JV) (h : List JC) (b : JV) (hp : halP g a h b) : halF g a h b (fun x y => (x, y) = halS g a h b) := by
  obtain ⟨hg, hh⟩ := hp
  refine ⟨3, fun _ => ⟨by simp, by simp, fun h1 => ?_, fun h1 => ?_⟩, fun h => by cases h⟩
  · have h1 : (hchkS g != 0) = true := h1
    show (false, hchkS g) = _
    unfold halS; rw [if_t h1]
  have h1 : (hchkS g != 0) = false := h1
  refine ⟨fun _ => ⟨(by decide : (0 : Int) ≤ IntKind.wrap .i64 1), (by show (IntKind.wrap .i64 1).toNat < 2; decide), fun h2 => ?_, fun h2 => ?_⟩, fun h => by cases h⟩
  · have h2 : (hchkS h != 0) = true := h2
    show (false, hchkS h) = _
    unfold halS; rw [if_f h1, if_t h2]
  have h2 : (hchkS h != 0) = false := h2
  refine ⟨(fun h => by cases h), fun _ => ⟨⟨hg, by simp⟩, fun h3 => ?_, fun h3 => ⟨⟨hh, by simp⟩, fun h4 => ?_, fun h4 => ?_⟩⟩⟩
  · unfold halS; rw [if_f h1, if_f h2, if_t h3]
  · unfold halS; rw [if_f h1, if_f h2, if_f h3, if_t h4]
  · have j : halj48 g a h b (fun x y => (x, y) = halS g a h b) := by
      unfold halj48 halS; rw [if_f h1, if_f h2, if_f h3, if_f h4]
    obtain ⟨H1, r1, e1⟩ := mo_ok (show (hMoS g [a]).2.2 = 0 by simpa using h3)
    obtain ⟨H2, r2, e2⟩ := mo_ok (show (hMoS h [b]).2.2 = 0 by simpa using h4)
    have c1 := mo_cells H1 r1
    have c2 := mo_cells H2 r2
    refine ⟨⟨by rw [e1]; exact c1.1, fun x hx y hy => ?_⟩, fun _ => ⟨by simp, by rw [e1]; simp, by simp, by rw [e2]; simp, j⟩, fun _ => j⟩
    rw [e1] at hx
    rw [e2] at hy
    have q1 := c1.2 x hx
    have q2 := c2.2 y hy
    exact ⟨⟨by omega, by omega⟩, ⟨by omega, by omega⟩⟩
set_option linter.unusedVariables false in
theorem hal_c {g : Ghost} {axg_0 : Option Addr} {cxg_0 : Nat} (xg : List (Int × List (List UInt8) × List (Int × Int × List UInt8))) (xa : Int × Int × List UInt8) {axh_0 : Option Addr} {cxh_0 : Nat} (xh : List (Int × List (List UInt8) × List (Int × Int × List UInt8))) (xb : Int × Int × List UInt8) (hRxg_0 : Rep g (.slice (.pair (.int .i64) (.pair (.slice (.str)) (.slice (.pair (.int .i64) (.pair (.int .i64) (.str))))))) [.slice axg_0 xg.length cxg_0] xg) (hRxh_0 : Rep g (.slice (.pair (.int .i64) (.pair (.slice (.str)) (.slice (.pair (.int .i64) (.pair (.int .i64) (.str))))))) [.slice axh_0 xh.length cxh_0] xh)  (hp : halP xg xa xh xb) : CallsG Try.prog 7 #[.slice axg_0 xg.length cxg_0, .agg #[.int .i64 xa.1, .int .i64 xa.2.1, .string ⟨⟨xa.2.2⟩⟩], .slice axh_0 xh.length cxh_0, .agg #[.int .i64 xb.1, .int .i64 xb.2.1, .string ⟨⟨xb.2.2⟩⟩]] g (.tuple #[.bool ((halS xg xa xh xb).1), .int .i64 ((halS xg xa xh xb).2)]) :=
  (hal_ok xg xa xh xb hRxg_0 hRxh_0 _ (hal_F xg xa xh xb hp)).gives (by rintro g' H' v _ ⟨r0, r1, rfl, rfl, hK⟩; obtain ⟨rfl, rfl⟩ : r0 = (halS xg xa xh xb).1 ∧ r1 = (halS xg xa xh xb).2 := ⟨congrArg (fun z => z.1) hK, congrArg (fun z => z.2) hK⟩; rfl)
/-! the reference: what is right -/
def rbtF (xn : Int) (xlow : Int) (xhigh : Int) (K : Bool → Prop) : Prop :=
  K ((decide (xlow ≤ xn)) && (decide (xn ≤ xhigh)))
set_option maxHeartbeats 4000000 in
set_option maxRecDepth 100000 in
set_option linter.unusedVariables false in
theorem rbt_ok {g : Ghost} (xn : Int) (xlow : Int) (xhigh : Int) (K : Bool → Prop)
    (hF : rbtF xn xlow xhigh K) : CallsH Try.prog 17 #[.int .i64 xn, .int .i64 xlow, .int .i64 xhigh] g [] (fun g' H' v => ∃ (r0 : Bool), v = .bool r0 ∧ H' = [] ∧ K r0) := by
  refine CallsH.enter 15 [(0, .int .i64 xn), (1, .int .i64 xlow), (2, .int .i64 xhigh)] Try.func17 rfl (by kernel_rfl) (by kernel_rfl) (by kernel_rfl) fun w0 => ?_
  refine Ok.seq ?_
  refine Ok.region ?_
  refine Ok.batch 1 [(0, .int .i64 xn), (1, .int .i64 xlow), (2, .int .i64 xhigh)] (by kernel_rfl) ?_
  refine Ok.nil ?_
  refine Ok.thenN ?_
  refine Ok.seq ?_
  refine Ok.region ?_
  refine Ok.batch 4 [(0, .int .i64 xn), (2, .int .i64 xhigh), (10, .bool (decide (xlow ≤ xn)))] (by kernel_rfl) ?_
  refine Ok.midway 4 [(14, .bool ((decide (xlow ≤ xn)) && (decide (xn ≤ xhigh))))] (fun hR1 => ?_) ?_
  · refine Ok.boolAt 10 (decide (xlow ≤ xn)) rfl (fun hc2 => ?_) (fun hc2 => ?_)
    · skip
      refine Ok.batch 4 [(14, .bool (decide (xn ≤ xhigh)))] (by kernel_rfl) ?_
      refine Ok.reval 14 rfl (show (.bool (decide (xn ≤ xhigh)) : Value) = .bool ((decide (xlow ≤ xn)) && (decide (xn ≤ xhigh))) from congrArg Value.bool (mand_t hc2)) ?_
      refine Ok.batch 0 [(14, .bool ((decide (xlow ≤ xn)) && (decide (xn ≤ xhigh))))] (by kernel_rfl) ?_
      exact hR1
    · skip
      refine Ok.batch 4 [(14, .bool false)] (by kernel_rfl) ?_
      refine Ok.reval 14 rfl (show (.bool false : Value) = .bool ((decide (xlow ≤ xn)) && (decide (xn ≤ xhigh))) from congrArg Value.bool (mand_f hc2)) ?_
      refine Ok.batch 0 [(14, .bool ((decide (xlow ≤ xn)) && (decide (xn ≤ xhigh))))] (by kernel_rfl) ?_
      exact hR1
  refine Ok.batch 1 [(6, .bool ((decide (xlow ≤ xn)) && (decide (xn ≤ xhigh))))] (by kernel_rfl) ?_
  refine Ok.nil ?_
  refine Ok.thenN ?_
  refine Ok.ret ?_
  exact Ok.resH (vs := [.bool ((decide (xlow ≤ xn)) && (decide (xn ≤ xhigh)))]) (.inl rfl) rfl (.cons (.tmp rfl) .nil) (Gext.refl w0 g) ⟨((decide (xlow ≤ xn)) && (decide (xn ≤ xhigh))), rfl, rfl, hF⟩
def rbtM (xn : Int) (xlow : Int) (xhigh : Int) : Bool := ((decide (xlow ≤ xn)) && (decide (xn ≤ xhigh)))
set_option linter.unusedSimpArgs false in
set_option linter.unusedVariables false in
theorem rbtF_A (xn : Int) (xlow : Int) (xhigh : Int) (P : Bool → Prop) (h : P (rbtM xn xlow xhigh)) : rbtF xn xlow xhigh (fun k0 => P k0) := by
  unfold rbtM at h
  unfold rbtF
  exact h
theorem rbt_F (xn : Int) (xlow : Int) (xhigh : Int) : rbtF xn xlow xhigh (fun k0 => k0 = rbtM xn xlow xhigh) :=
  rbtF_A xn xlow xhigh (fun z => z = rbtM xn xlow xhigh) rfl
set_option linter.unusedVariables false in
theorem rbt_c {g : Ghost} (xn : Int) (xlow : Int) (xhigh : Int)  : CallsG Try.prog 17 #[.int .i64 xn, .int .i64 xlow, .int .i64 xhigh] g (.bool (rbtM xn xlow xhigh)) :=
  (rbt_ok xn xlow xhigh _ (rbt_F xn xlow xhigh)).gives (by rintro g' H' v _ ⟨r0, rfl, rfl, hK⟩; subst hK; rfl)
def rvrV0 (xv : JV) : Bool :=
  (([(xv.1 == xv.1), (xv.2.1 == 0), (xv.2.2 == ([] : List UInt8))].all id) || ([(xv.1 == 1), (xv.2.1 == 1), (xv.2.2 == ([] : List UInt8))].all id))
def rvrV1 (xv : JV) : Bool :=
  (([(xv.1 == xv.1), (xv.2.1 == xv.2.1), (xv.2.2 == ([] : List UInt8))].all id) && (rbtM xv.2.1 (-9007199254740992) 9007199254740992))
def rvrV2 (xv : JV) : Bool :=
  (([(xv.1 == xv.1), (xv.2.1 == 0), (xv.2.2 == xv.2.2)].all id) && (decide ((xv.2.2.length : Int) ≤ 2000)))
def rvrV3 (xv : JV) : Bool :=
  (([(xv.1 == xv.1), (xv.2.1 == xv.2.1), (xv.2.2 == ([] : List UInt8))].all id) && (decide (xv.2.1 > (-1))))
def rvrj5 (xv : JV) (K : Bool → Prop) : Prop :=
  K ([(xv.1 == xv.1), (xv.2.1 == 0), (xv.2.2 == (if (xv.1 == 0) = true then ([] : List UInt8) else xv.2.2))].all id)
def rvrj16 (xv : JV) (K : Bool → Prop) : Prop :=
  K (rvrV0 xv)
def rvrj24 (xv : JV) (K : Bool → Prop) : Prop :=
  K (rvrV1 xv)
def rvrj32 (xv : JV) (K : Bool → Prop) : Prop :=
  K (rvrV2 xv)
def rvrj40 (xv : JV) (K : Bool → Prop) : Prop :=
  K (rvrV3 xv)
def rvrF (xv : JV) (K : Bool → Prop) : Prop :=
  (((xv.1 == 0)) = true → rvrj5 xv K) ∧ (((xv.1 == 0)) = false → (((xv.1 == 1)) = true → ((([(xv.1 == xv.1), (xv.2.1 == 0), (xv.2.2 == ([] : List UInt8))].all id)) = true → rvrj16 xv K) ∧ ((([(xv.1 == xv.1), (xv.2.1 == 0), (xv.2.2 == ([] : List UInt8))].all id)) = false → rvrj16 xv K)) ∧ (((xv.1 == 1)) = false → (((xv.1 == 2)) = true → ((([(xv.1 == xv.1), (xv.2.1 == xv.2.1), (xv.2.2 == ([] : List UInt8))].all id)) = true → rvrj24 xv K) ∧ ((([(xv.1 == xv.1), (xv.2.1 == xv.2.1), (xv.2.2 == ([] : List UInt8))].all id)) = false → rvrj24 xv K)) ∧ (((xv.1 == 2)) = false → (((xv.1 == 3)) = true → ((([(xv.1 == xv.1), (xv.2.1 == 0), (xv.2.2 == xv.2.2)].all id)) = true → rvrj32 xv K) ∧ ((([(xv.1 == xv.1), (xv.2.1 == 0), (xv.2.2 == xv.2.2)].all id)) = false → rvrj32 xv K)) ∧ (((xv.1 == 3)) = false → (((xv.1 == 4)) = true → ((([(xv.1 == xv.1), (xv.2.1 == xv.2.1), (xv.2.2 == ([] : List UInt8))].all id)) = true → rvrj40 xv K) ∧ ((([(xv.1 == xv.1), (xv.2.1 == xv.2.1), (xv.2.2 == ([] : List UInt8))].all id)) = false → rvrj40 xv K)) ∧ (((xv.1 == 4)) = false → (((xv.1 == 5)) = true → rvrj5 xv K) ∧ (((xv.1 == 5)) = false → K false))))))
set_option maxHeartbeats 4000000 in
set_option maxRecDepth 100000 in
set_option linter.unusedVariables false in
theorem rvr_ok {g : Ghost} (xv : JV) (K : Bool → Prop)
    (hF : rvrF xv K) : CallsH Try.prog 67 #[.agg #[.int .i64 xv.1, .int .i64 xv.2.1, .string ⟨⟨xv.2.2⟩⟩]] g [] (fun g' H' v => ∃ (r0 : Bool), v = .bool r0 ∧ H' = [] ∧ K r0) := by
  refine CallsH.enter 69 [(0, .agg #[.int .i64 xv.1, .int .i64 xv.2.1, .string ⟨⟨xv.2.2⟩⟩])] Try.func67 rfl (by kernel_rfl) (by kernel_rfl) (by kernel_rfl) fun w0 => ?_
  refine Ok.seq ?_
  refine Ok.region ?_
  refine Ok.op rfl (OpOk.box (v := .agg #[.int .i64 xv.1, .int .i64 xv.2.1, .string ⟨⟨xv.2.2⟩⟩]) (cs := #[.int .i64 xv.1, .int .i64 xv.2.1, .string ⟨⟨xv.2.2⟩⟩]) rfl (by kernel_rfl) rfl fun b1 => ?_)
  refine Ok.batch 1 [(1, .pointer (some ⟨b1, 0, none⟩))] (by kernel_rfl) ?_
  refine Ok.nil ?_
  refine Ok.thenN ?_
  refine Ok.seq ?_
  refine Ok.region ?_
  refine Ok.batch 1 [(1, .pointer (some ⟨b1, 0, none⟩)), (4, .pointer (some ⟨b1, 0, none⟩))] (by kernel_rfl) ?_
  refine Ok.op rfl (OpOk.step (v := .int .i64 xv.1) (Yields.load 0 rfl rfl Try.underlying3 rfl (by kernel_rfl)) rfl rfl ?_)
  refine Ok.batch 1 [(1, .pointer (some ⟨b1, 0, none⟩)), (6, .agg #[.int .i64 xv.1, .int .i64 0, .string ⟨⟨([] : List UInt8)⟩⟩])] (by kernel_rfl) ?_
  refine Ok.op rfl (OpOk.alloc (z := .agg #[.int .i64 0, .int .i64 0, .string ⟨⟨([] : List UInt8)⟩⟩]) (cs := #[.int .i64 0, .int .i64 0, .string ⟨⟨([] : List UInt8)⟩⟩]) (by kernel_rfl) (by kernel_rfl) rfl fun b2 => ?_)
  refine Ok.op rfl (OpOk.store (k := 3) (v := .agg #[.int .i64 xv.1, .int .i64 0, .string ⟨⟨([] : List UInt8)⟩⟩]) (H' := [.blk b2 (.cells #[.int .i64 xv.1, .int .i64 0, .string ⟨⟨([] : List UInt8)⟩⟩] 24), .blk b1 (.cells #[.int .i64 xv.1, .int .i64 xv.2.1, .string ⟨⟨xv.2.2⟩⟩] 24)]) 0 rfl rfl rfl (by kernel_rfl) (by kernel_rfl) (by kernel_rfl) (by kernel_rfl) (by kernel_rfl) ?_)
  refine Ok.nil ?_
  refine Ok.thenN ?_
  refine Ok.cut (fun a W => StA 69 [(1, .pointer (some ⟨b1, 0, none⟩)), (3, .pointer (some ⟨b2, 0, none⟩))] a ∧ StW w0 [.blk b2 (.cells #[.int .i64 xv.1, .int .i64 0, .string ⟨⟨(if (xv.1 == 0) = true then ([] : List UInt8) else xv.2.2)⟩⟩] 24), .blk b1 (.cells #[.int .i64 xv.1, .int .i64 xv.2.1, .string ⟨⟨xv.2.2⟩⟩] 24)] g W ∧ rvrj5 xv K) ?_ ?_
  ·
    refine Ok.seq ?_
    refine Ok.region ?_
    refine Ok.batch 1 [(1, .pointer (some ⟨b1, 0, none⟩)), (3, .pointer (some ⟨b2, 0, none⟩)), (7, .pointer (some ⟨b1, 0, none⟩))] (by kernel_rfl) ?_
    refine Ok.op rfl (OpOk.step (v := .int .i64 xv.1) (Yields.load 1 rfl rfl Try.underlying3 rfl (by kernel_rfl)) rfl rfl ?_)
    refine Ok.nil ?_
    refine Ok.thenN ?_
    refine Ok.block ?_
    refine Ok.seq ?_
    refine Ok.region ?_
    refine Ok.batch 2 [(1, .pointer (some ⟨b1, 0, none⟩)), (3, .pointer (some ⟨b2, 0, none⟩)), (8, .int .i64 xv.1), (9, .bool (xv.1 == 0))] (by kernel_rfl) ?_
    refine Ok.nil ?_
    refine Ok.thenN ?_
    refine Ok.cond (b := (xv.1 == 0)) rfl (fun hc3 => ?_) (fun hc3 => ?_)
    · replace hF := hF.1 hc3
      refine Ok.skip ?_
      refine Ok.blockN ?_
      refine Ok.thenN ?_
      refine Ok.heapEq (H' := [.blk b2 (.cells #[.int .i64 xv.1, .int .i64 0, .string ⟨⟨(if (xv.1 == 0) = true then ([] : List UInt8) else xv.2.2)⟩⟩] 24), .blk b1 (.cells #[.int .i64 xv.1, .int .i64 xv.2.1, .string ⟨⟨xv.2.2⟩⟩] 24)]) (econs (congrArg (fun l : List Value => Ent.blk b2 (.cells ⟨l⟩ 24)) (lcons (rfl) (lcons (rfl) (lcons (congrArg ((fun s : List UInt8 => Value.string ⟨⟨s⟩⟩)) ((if_t hc3).symm)) rfl)))) (econs (rfl) rfl)) ?_
      exact fun a W hA hW => ⟨hA.sub (by kernel_rfl), hW, hF⟩
    · replace hF := hF.2 hc3
      refine Ok.seq ?_
      refine Ok.region ?_
      refine Ok.batch 2 [(1, .pointer (some ⟨b1, 0, none⟩)), (3, .pointer (some ⟨b2, 0, none⟩)), (8, .int .i64 xv.1), (11, .bool (xv.1 == 1))] (by kernel_rfl) ?_
      refine Ok.nil ?_
      refine Ok.thenN ?_
      refine Ok.cond (b := (xv.1 == 1)) rfl (fun hc4 => ?_) (fun hc4 => ?_)
      · replace hF := hF.1 hc4
        refine Ok.cut (fun a W => StA 69 [(2, .bool (rvrV0 xv))] a ∧ StW w0 [] g W ∧ rvrj16 xv K) ?_ ?_
        ·
          refine Ok.region ?_
          refine Ok.op rfl (OpOk.step (v := .agg #[.int .i64 xv.1, .int .i64 xv.2.1, .string ⟨⟨xv.2.2⟩⟩]) (Yields.loadAgg 1 3 #[.int .i64 xv.1, .int .i64 xv.2.1, .string ⟨⟨xv.2.2⟩⟩] rfl rfl Try.underlying24 rfl (by kernel_rfl) (by kernel_rfl) (by kernel_rfl)) rfl rfl ?_)
          refine Ok.op rfl (OpOk.step (v := .agg #[.int .i64 xv.1, .int .i64 0, .string ⟨⟨([] : List UInt8)⟩⟩]) (Yields.loadAgg 0 3 #[.int .i64 xv.1, .int .i64 0, .string ⟨⟨([] : List UInt8)⟩⟩] rfl rfl Try.underlying24 rfl (by kernel_rfl) (by kernel_rfl) (by kernel_rfl)) rfl rfl ?_)
          refine Ok.op rfl (OpOk.step (v := .bool ([(xv.1 == xv.1), (xv.2.1 == 0), (xv.2.2 == ([] : List UInt8))].all id)) (Yields.eqAgg (k := 2) rfl rfl (.struct (k := 1) Try.underlying24 (by kernel_rfl) ⟨by decide, ⟨.int .i64 xv.1, .int .i64 xv.1, fun _ => by kernel_rfl, fun _ => by kernel_rfl, EqR.mono (k := 1) (.int Try.underlying3) (by decide)⟩, ⟨by decide, ⟨.int .i64 xv.2.1, .int .i64 0, fun _ => by kernel_rfl, fun _ => by kernel_rfl, EqR.mono (k := 1) (.int Try.underlying3) (by decide)⟩, ⟨by decide, ⟨.string ⟨⟨xv.2.2⟩⟩, .string ⟨⟨([] : List UInt8)⟩⟩, fun _ => by kernel_rfl, fun _ => by kernel_rfl, EqR.mono (k := 1) (.str Try.underlying9) (by decide)⟩, trivial⟩⟩⟩) rfl (by kernel_rfl)) rfl rfl ?_)
          refine Ok.batch 1 [(1, .pointer (some ⟨b1, 0, none⟩)), (16, .bool ([(xv.1 == xv.1), (xv.2.1 == 0), (xv.2.2 == ([] : List UInt8))].all id))] (by kernel_rfl) ?_
          refine Ok.boolAt 16 (([(xv.1 == xv.1), (xv.2.1 == 0), (xv.2.2 == ([] : List UInt8))].all id)) rfl (fun hc5 => ?_) (fun hc5 => ?_)
          · replace hF := hF.1 hc5
            refine Ok.batch 5 [(2, .bool true)] (by kernel_rfl) ?_
            refine Ok.nil ?_
            refine Ok.thenN ?_
            refine Ok.reval 2 rfl (show (.bool true : Value) = .bool (rvrV0 xv) from congrArg (Value.bool) (mor_t hc5)) ?_
            exact fun a W hA hW => ⟨hA.sub (by kernel_rfl), hW.sub (.cons _ (.cons _ .slnil)), hF⟩
          · replace hF := hF.2 hc5
            refine Ok.opYes (j := 3) (d := 16) (want := false) (b := false) rfl (by kernel_rfl) (by kernel_rfl) rfl (OpOk.step (v := .agg #[.int .i64 xv.1, .int .i64 xv.2.1, .string ⟨⟨xv.2.2⟩⟩]) (Yields.loadAgg 1 3 #[.int .i64 xv.1, .int .i64 xv.2.1, .string ⟨⟨xv.2.2⟩⟩] rfl rfl Try.underlying24 rfl (by kernel_rfl) (by kernel_rfl) (by kernel_rfl)) rfl rfl ?_)
            refine Ok.batch 1 [(16, .bool false), (17, .agg #[.int .i64 xv.1, .int .i64 xv.2.1, .string ⟨⟨xv.2.2⟩⟩]), (18, .agg #[.int .i64 1, .int .i64 1, .string ⟨⟨([] : List UInt8)⟩⟩])] (by kernel_rfl) ?_
            refine Ok.opYes (j := 3) (d := 16) (want := false) (b := false) rfl (by kernel_rfl) (by kernel_rfl) rfl (OpOk.step (v := .bool ([(xv.1 == 1), (xv.2.1 == 1), (xv.2.2 == ([] : List UInt8))].all id)) (Yields.eqAgg (k := 2) rfl rfl (.struct (k := 1) Try.underlying24 (by kernel_rfl) ⟨by decide, ⟨.int .i64 xv.1, .int .i64 1, fun _ => by kernel_rfl, fun _ => by kernel_rfl, EqR.mono (k := 1) (.int Try.underlying3) (by decide)⟩, ⟨by decide, ⟨.int .i64 xv.2.1, .int .i64 1, fun _ => by kernel_rfl, fun _ => by kernel_rfl, EqR.mono (k := 1) (.int Try.underlying3) (by decide)⟩, ⟨by decide, ⟨.string ⟨⟨xv.2.2⟩⟩, .string ⟨⟨([] : List UInt8)⟩⟩, fun _ => by kernel_rfl, fun _ => by kernel_rfl, EqR.mono (k := 1) (.str Try.underlying9) (by decide)⟩, trivial⟩⟩⟩) rfl (by kernel_rfl)) rfl rfl ?_)
            refine Ok.batch 2 [(2, .bool ([(xv.1 == 1), (xv.2.1 == 1), (xv.2.2 == ([] : List UInt8))].all id))] (by kernel_rfl) ?_
            refine Ok.nil ?_
            refine Ok.thenN ?_
            refine Ok.reval 2 rfl (show (.bool ([(xv.1 == 1), (xv.2.1 == 1), (xv.2.2 == ([] : List UInt8))].all id) : Value) = .bool (rvrV0 xv) from congrArg (Value.bool) (mor_f hc5)) ?_
            exact fun a W hA hW => ⟨hA.sub (by kernel_rfl), hW.sub (.cons _ (.cons _ .slnil)), hF⟩
        ·
          clear hF
          rintro a W ⟨hA, hW, hF⟩
          refine (?_ : Ok _ _ _ _ _ _) a W hA hW
          clear hA hW
          refine Ok.ret ?_
          refine Ok.blockR ?_
          refine Ok.thenR ?_
          exact Ok.resH (vs := [.bool (rvrV0 xv)]) (.inl rfl) rfl (.cons (.tmp rfl) .nil) (Gext.refl w0 g) ⟨(rvrV0 xv), rfl, rfl, hF⟩
      · replace hF := hF.2 hc4
        refine Ok.seq ?_
        refine Ok.region ?_
        refine Ok.batch 2 [(1, .pointer (some ⟨b1, 0, none⟩)), (3, .pointer (some ⟨b2, 0, none⟩)), (8, .int .i64 xv.1), (21, .bool (xv.1 == 2))] (by kernel_rfl) ?_
        refine Ok.nil ?_
        refine Ok.thenN ?_
        refine Ok.cond (b := (xv.1 == 2)) rfl (fun hc6 => ?_) (fun hc6 => ?_)
        · replace hF := hF.1 hc6
          refine Ok.seq ?_
          refine Ok.region ?_
          refine Ok.batch 1 [(1, .pointer (some ⟨b1, 0, none⟩)), (3, .pointer (some ⟨b2, 0, none⟩)), (23, .pointer (some ⟨b1, 1, none⟩))] (by kernel_rfl) ?_
          refine Ok.op rfl (OpOk.step (v := .int .i64 xv.2.1) (Yields.load 1 rfl rfl Try.underlying3 rfl (by kernel_rfl)) rfl rfl ?_)
          refine Ok.batch 1 [(1, .pointer (some ⟨b1, 0, none⟩)), (3, .pointer (some ⟨b2, 0, none⟩)), (24, .int .i64 xv.2.1), (25, .pointer (some ⟨b2, 1, none⟩))] (by kernel_rfl) ?_
          refine Ok.op rfl (OpOk.store (k := 1) (v := .int .i64 xv.2.1) (H' := [.blk b2 (.cells #[.int .i64 xv.1, .int .i64 xv.2.1, .string ⟨⟨([] : List UInt8)⟩⟩] 24), .blk b1 (.cells #[.int .i64 xv.1, .int .i64 xv.2.1, .string ⟨⟨xv.2.2⟩⟩] 24)]) 0 rfl rfl rfl (by kernel_rfl) (by kernel_rfl) (by kernel_rfl) (by kernel_rfl) (by kernel_rfl) ?_)
          refine Ok.nil ?_
          refine Ok.thenN ?_
          refine Ok.cut (fun a W => StA 69 [(2, .bool (rvrV1 xv))] a ∧ StW w0 [] g W ∧ rvrj24 xv K) ?_ ?_
          ·
            refine Ok.region ?_
            refine Ok.op rfl (OpOk.step (v := .agg #[.int .i64 xv.1, .int .i64 xv.2.1, .string ⟨⟨xv.2.2⟩⟩]) (Yields.loadAgg 1 3 #[.int .i64 xv.1, .int .i64 xv.2.1, .string ⟨⟨xv.2.2⟩⟩] rfl rfl Try.underlying24 rfl (by kernel_rfl) (by kernel_rfl) (by kernel_rfl)) rfl rfl ?_)
            refine Ok.op rfl (OpOk.step (v := .agg #[.int .i64 xv.1, .int .i64 xv.2.1, .string ⟨⟨([] : List UInt8)⟩⟩]) (Yields.loadAgg 0 3 #[.int .i64 xv.1, .int .i64 xv.2.1, .string ⟨⟨([] : List UInt8)⟩⟩] rfl rfl Try.underlying24 rfl (by kernel_rfl) (by kernel_rfl) (by kernel_rfl)) rfl rfl ?_)
            refine Ok.op rfl (OpOk.step (v := .bool ([(xv.1 == xv.1), (xv.2.1 == xv.2.1), (xv.2.2 == ([] : List UInt8))].all id)) (Yields.eqAgg (k := 2) rfl rfl (.struct (k := 1) Try.underlying24 (by kernel_rfl) ⟨by decide, ⟨.int .i64 xv.1, .int .i64 xv.1, fun _ => by kernel_rfl, fun _ => by kernel_rfl, EqR.mono (k := 1) (.int Try.underlying3) (by decide)⟩, ⟨by decide, ⟨.int .i64 xv.2.1, .int .i64 xv.2.1, fun _ => by kernel_rfl, fun _ => by kernel_rfl, EqR.mono (k := 1) (.int Try.underlying3) (by decide)⟩, ⟨by decide, ⟨.string ⟨⟨xv.2.2⟩⟩, .string ⟨⟨([] : List UInt8)⟩⟩, fun _ => by kernel_rfl, fun _ => by kernel_rfl, EqR.mono (k := 1) (.str Try.underlying9) (by decide)⟩, trivial⟩⟩⟩) rfl (by kernel_rfl)) rfl rfl ?_)
            refine Ok.batch 1 [(1, .pointer (some ⟨b1, 0, none⟩)), (29, .bool ([(xv.1 == xv.1), (xv.2.1 == xv.2.1), (xv.2.2 == ([] : List UInt8))].all id))] (by kernel_rfl) ?_
            refine Ok.boolAt 29 (([(xv.1 == xv.1), (xv.2.1 == xv.2.1), (xv.2.2 == ([] : List UInt8))].all id)) rfl (fun hc7 => ?_) (fun hc7 => ?_)
            · replace hF := hF.1 hc7
              refine Ok.batch 1 [(29, .bool true), (30, .pointer (some ⟨b1, 1, none⟩))] (by kernel_rfl) ?_
              refine Ok.opYes (j := 3) (d := 29) (want := true) (b := true) rfl (by kernel_rfl) (by kernel_rfl) rfl (OpOk.step (v := .int .i64 xv.2.1) (Yields.load 1 rfl rfl Try.underlying3 rfl (by kernel_rfl)) rfl rfl ?_)
              refine Ok.opYes (j := 3) (d := 29) (want := true) (b := true) rfl (by kernel_rfl) (by kernel_rfl) rfl (OpOk.callG (v := .bool (rbtM xv.2.1 (-9007199254740992) 9007199254740992)) (enters (by kernel_rfl) (fun _ => by kernel_rfl)) (fun W hW => rbt_c xv.2.1 (-9007199254740992) 9007199254740992) rfl ?_)
              refine Ok.batch 2 [(2, .bool (rbtM xv.2.1 (-9007199254740992) 9007199254740992))] (by kernel_rfl) ?_
              refine Ok.nil ?_
              refine Ok.thenN ?_
              refine Ok.reval 2 rfl (show (.bool (rbtM xv.2.1 (-9007199254740992) 9007199254740992) : Value) = .bool (rvrV1 xv) from congrArg (Value.bool) (mand_t hc7)) ?_
              exact fun a W hA hW => ⟨hA.sub (by kernel_rfl), hW.sub (.cons _ (.cons _ .slnil)), hF⟩
            · replace hF := hF.2 hc7
              refine Ok.batch 5 [(2, .bool false)] (by kernel_rfl) ?_
              refine Ok.nil ?_
              refine Ok.thenN ?_
              refine Ok.reval 2 rfl (show (.bool false : Value) = .bool (rvrV1 xv) from congrArg (Value.bool) (mand_f hc7)) ?_
              exact fun a W hA hW => ⟨hA.sub (by kernel_rfl), hW.sub (.cons _ (.cons _ .slnil)), hF⟩
          ·
            clear hF
            rintro a W ⟨hA, hW, hF⟩
            refine (?_ : Ok _ _ _ _ _ _) a W hA hW
            clear hA hW
            refine Ok.ret ?_
            refine Ok.blockR ?_
            refine Ok.thenR ?_
            exact Ok.resH (vs := [.bool (rvrV1 xv)]) (.inl rfl) rfl (.cons (.tmp rfl) .nil) (Gext.refl w0 g) ⟨(rvrV1 xv), rfl, rfl, hF⟩
        · replace hF := hF.2 hc6
          refine Ok.seq ?_
          refine Ok.region ?_
          refine Ok.batch 2 [(1, .pointer (some ⟨b1, 0, none⟩)), (3, .pointer (some ⟨b2, 0, none⟩)), (8, .int .i64 xv.1), (34, .bool (xv.1 == 3))] (by kernel_rfl) ?_
          refine Ok.nil ?_
          refine Ok.thenN ?_
          refine Ok.cond (b := (xv.1 == 3)) rfl (fun hc8 => ?_) (fun hc8 => ?_)
          · replace hF := hF.1 hc8
            refine Ok.seq ?_
            refine Ok.region ?_
            refine Ok.batch 1 [(1, .pointer (some ⟨b1, 0, none⟩)), (3, .pointer (some ⟨b2, 0, none⟩)), (36, .pointer (some ⟨b1, 2, none⟩))] (by kernel_rfl) ?_
            refine Ok.op rfl (OpOk.step (v := .string ⟨⟨xv.2.2⟩⟩) (Yields.load 1 rfl rfl Try.underlying9 rfl (by kernel_rfl)) rfl rfl ?_)
            refine Ok.batch 1 [(1, .pointer (some ⟨b1, 0, none⟩)), (3, .pointer (some ⟨b2, 0, none⟩)), (37, .string ⟨⟨xv.2.2⟩⟩), (38, .pointer (some ⟨b2, 2, none⟩))] (by kernel_rfl) ?_
            refine Ok.op rfl (OpOk.store (k := 1) (v := .string ⟨⟨xv.2.2⟩⟩) (H' := [.blk b2 (.cells #[.int .i64 xv.1, .int .i64 0, .string ⟨⟨xv.2.2⟩⟩] 24), .blk b1 (.cells #[.int .i64 xv.1, .int .i64 xv.2.1, .string ⟨⟨xv.2.2⟩⟩] 24)]) 0 rfl rfl rfl (by kernel_rfl) (by kernel_rfl) (by kernel_rfl) (by kernel_rfl) (by kernel_rfl) ?_)
            refine Ok.nil ?_
            refine Ok.thenN ?_
            refine Ok.cut (fun a W => StA 69 [(2, .bool (rvrV2 xv))] a ∧ StW w0 [] g W ∧ rvrj32 xv K) ?_ ?_
            ·
              refine Ok.region ?_
              refine Ok.op rfl (OpOk.step (v := .agg #[.int .i64 xv.1, .int .i64 xv.2.1, .string ⟨⟨xv.2.2⟩⟩]) (Yields.loadAgg 1 3 #[.int .i64 xv.1, .int .i64 xv.2.1, .string ⟨⟨xv.2.2⟩⟩] rfl rfl Try.underlying24 rfl (by kernel_rfl) (by kernel_rfl) (by kernel_rfl)) rfl rfl ?_)
              refine Ok.op rfl (OpOk.step (v := .agg #[.int .i64 xv.1, .int .i64 0, .string ⟨⟨xv.2.2⟩⟩]) (Yields.loadAgg 0 3 #[.int .i64 xv.1, .int .i64 0, .string ⟨⟨xv.2.2⟩⟩] rfl rfl Try.underlying24 rfl (by kernel_rfl) (by kernel_rfl) (by kernel_rfl)) rfl rfl ?_)
              refine Ok.op rfl (OpOk.step (v := .bool ([(xv.1 == xv.1), (xv.2.1 == 0), (xv.2.2 == xv.2.2)].all id)) (Yields.eqAgg (k := 2) rfl rfl (.struct (k := 1) Try.underlying24 (by kernel_rfl) ⟨by decide, ⟨.int .i64 xv.1, .int .i64 xv.1, fun _ => by kernel_rfl, fun _ => by kernel_rfl, EqR.mono (k := 1) (.int Try.underlying3) (by decide)⟩, ⟨by decide, ⟨.int .i64 xv.2.1, .int .i64 0, fun _ => by kernel_rfl, fun _ => by kernel_rfl, EqR.mono (k := 1) (.int Try.underlying3) (by decide)⟩, ⟨by decide, ⟨.string ⟨⟨xv.2.2⟩⟩, .string ⟨⟨xv.2.2⟩⟩, fun _ => by kernel_rfl, fun _ => by kernel_rfl, EqR.mono (k := 1) (.str Try.underlying9) (by decide)⟩, trivial⟩⟩⟩) rfl (by kernel_rfl)) rfl rfl ?_)
              refine Ok.batch 1 [(1, .pointer (some ⟨b1, 0, none⟩)), (42, .bool ([(xv.1 == xv.1), (xv.2.1 == 0), (xv.2.2 == xv.2.2)].all id))] (by kernel_rfl) ?_
              refine Ok.boolAt 42 (([(xv.1 == xv.1), (xv.2.1 == 0), (xv.2.2 == xv.2.2)].all id)) rfl (fun hc9 => ?_) (fun hc9 => ?_)
              · replace hF := hF.1 hc9
                refine Ok.batch 1 [(42, .bool true), (43, .pointer (some ⟨b1, 2, none⟩))] (by kernel_rfl) ?_
                refine Ok.opYes (j := 3) (d := 42) (want := true) (b := true) rfl (by kernel_rfl) (by kernel_rfl) rfl (OpOk.step (v := .string ⟨⟨xv.2.2⟩⟩) (Yields.load 1 rfl rfl Try.underlying9 rfl (by kernel_rfl)) rfl rfl ?_)
                refine Ok.batch 4 [(2, .bool (decide ((xv.2.2.length : Int) ≤ 2000)))] (by kernel_rfl) ?_
                refine Ok.nil ?_
                refine Ok.thenN ?_
                refine Ok.reval 2 rfl (show (.bool (decide ((xv.2.2.length : Int) ≤ 2000)) : Value) = .bool (rvrV2 xv) from congrArg (Value.bool) (mand_t hc9)) ?_
                exact fun a W hA hW => ⟨hA.sub (by kernel_rfl), hW.sub (.cons _ (.cons _ .slnil)), hF⟩
              · replace hF := hF.2 hc9
                refine Ok.batch 6 [(2, .bool false)] (by kernel_rfl) ?_
                refine Ok.nil ?_
                refine Ok.thenN ?_
                refine Ok.reval 2 rfl (show (.bool false : Value) = .bool (rvrV2 xv) from congrArg (Value.bool) (mand_f hc9)) ?_
                exact fun a W hA hW => ⟨hA.sub (by kernel_rfl), hW.sub (.cons _ (.cons _ .slnil)), hF⟩
            ·
              clear hF
              rintro a W ⟨hA, hW, hF⟩
              refine (?_ : Ok _ _ _ _ _ _) a W hA hW
              clear hA hW
              refine Ok.ret ?_
              refine Ok.blockR ?_
              refine Ok.thenR ?_
              exact Ok.resH (vs := [.bool (rvrV2 xv)]) (.inl rfl) rfl (.cons (.tmp rfl) .nil) (Gext.refl w0 g) ⟨(rvrV2 xv), rfl, rfl, hF⟩
          · replace hF := hF.2 hc8
            refine Ok.seq ?_
            refine Ok.region ?_
            refine Ok.batch 2 [(1, .pointer (some ⟨b1, 0, none⟩)), (3, .pointer (some ⟨b2, 0, none⟩)), (8, .int .i64 xv.1), (48, .bool (xv.1 == 4))] (by kernel_rfl) ?_
            refine Ok.nil ?_
            refine Ok.thenN ?_
            refine Ok.cond (b := (xv.1 == 4)) rfl (fun hc10 => ?_) (fun hc10 => ?_)
            · replace hF := hF.1 hc10
              refine Ok.seq ?_
              refine Ok.region ?_
              refine Ok.batch 1 [(1, .pointer (some ⟨b1, 0, none⟩)), (3, .pointer (some ⟨b2, 0, none⟩)), (50, .pointer (some ⟨b1, 1, none⟩))] (by kernel_rfl) ?_
              refine Ok.op rfl (OpOk.step (v := .int .i64 xv.2.1) (Yields.load 1 rfl rfl Try.underlying3 rfl (by kernel_rfl)) rfl rfl ?_)
              refine Ok.batch 1 [(1, .pointer (some ⟨b1, 0, none⟩)), (3, .pointer (some ⟨b2, 0, none⟩)), (51, .int .i64 xv.2.1), (52, .pointer (some ⟨b2, 1, none⟩))] (by kernel_rfl) ?_
              refine Ok.op rfl (OpOk.store (k := 1) (v := .int .i64 xv.2.1) (H' := [.blk b2 (.cells #[.int .i64 xv.1, .int .i64 xv.2.1, .string ⟨⟨([] : List UInt8)⟩⟩] 24), .blk b1 (.cells #[.int .i64 xv.1, .int .i64 xv.2.1, .string ⟨⟨xv.2.2⟩⟩] 24)]) 0 rfl rfl rfl (by kernel_rfl) (by kernel_rfl) (by kernel_rfl) (by kernel_rfl) (by kernel_rfl) ?_)
              refine Ok.nil ?_
              refine Ok.thenN ?_
              refine Ok.cut (fun a W => StA 69 [(2, .bool (rvrV3 xv))] a ∧ StW w0 [] g W ∧ rvrj40 xv K) ?_ ?_
              ·
                refine Ok.region ?_
                refine Ok.op rfl (OpOk.step (v := .agg #[.int .i64 xv.1, .int .i64 xv.2.1, .string ⟨⟨xv.2.2⟩⟩]) (Yields.loadAgg 1 3 #[.int .i64 xv.1, .int .i64 xv.2.1, .string ⟨⟨xv.2.2⟩⟩] rfl rfl Try.underlying24 rfl (by kernel_rfl) (by kernel_rfl) (by kernel_rfl)) rfl rfl ?_)
                refine Ok.op rfl (OpOk.step (v := .agg #[.int .i64 xv.1, .int .i64 xv.2.1, .string ⟨⟨([] : List UInt8)⟩⟩]) (Yields.loadAgg 0 3 #[.int .i64 xv.1, .int .i64 xv.2.1, .string ⟨⟨([] : List UInt8)⟩⟩] rfl rfl Try.underlying24 rfl (by kernel_rfl) (by kernel_rfl) (by kernel_rfl)) rfl rfl ?_)
                refine Ok.op rfl (OpOk.step (v := .bool ([(xv.1 == xv.1), (xv.2.1 == xv.2.1), (xv.2.2 == ([] : List UInt8))].all id)) (Yields.eqAgg (k := 2) rfl rfl (.struct (k := 1) Try.underlying24 (by kernel_rfl) ⟨by decide, ⟨.int .i64 xv.1, .int .i64 xv.1, fun _ => by kernel_rfl, fun _ => by kernel_rfl, EqR.mono (k := 1) (.int Try.underlying3) (by decide)⟩, ⟨by decide, ⟨.int .i64 xv.2.1, .int .i64 xv.2.1, fun _ => by kernel_rfl, fun _ => by kernel_rfl, EqR.mono (k := 1) (.int Try.underlying3) (by decide)⟩, ⟨by decide, ⟨.string ⟨⟨xv.2.2⟩⟩, .string ⟨⟨([] : List UInt8)⟩⟩, fun _ => by kernel_rfl, fun _ => by kernel_rfl, EqR.mono (k := 1) (.str Try.underlying9) (by decide)⟩, trivial⟩⟩⟩) rfl (by kernel_rfl)) rfl rfl ?_)
                refine Ok.batch 1 [(1, .pointer (some ⟨b1, 0, none⟩)), (56, .bool ([(xv.1 == xv.1), (xv.2.1 == xv.2.1), (xv.2.2 == ([] : List UInt8))].all id))] (by kernel_rfl) ?_
                refine Ok.boolAt 56 (([(xv.1 == xv.1), (xv.2.1 == xv.2.1), (xv.2.2 == ([] : List UInt8))].all id)) rfl (fun hc11 => ?_) (fun hc11 => ?_)
                · replace hF := hF.1 hc11
                  refine Ok.batch 1 [(56, .bool true), (57, .pointer (some ⟨b1, 1, none⟩))] (by kernel_rfl) ?_
                  refine Ok.opYes (j := 3) (d := 56) (want := true) (b := true) rfl (by kernel_rfl) (by kernel_rfl) rfl (OpOk.step (v := .int .i64 xv.2.1) (Yields.load 1 rfl rfl Try.underlying3 rfl (by kernel_rfl)) rfl rfl ?_)
                  refine Ok.batch 3 [(2, .bool (decide (xv.2.1 > (-1))))] (by kernel_rfl) ?_
                  refine Ok.nil ?_
                  refine Ok.thenN ?_
                  refine Ok.reval 2 rfl (show (.bool (decide (xv.2.1 > (-1))) : Value) = .bool (rvrV3 xv) from congrArg (Value.bool) (mand_t hc11)) ?_
                  exact fun a W hA hW => ⟨hA.sub (by kernel_rfl), hW.sub (.cons _ (.cons _ .slnil)), hF⟩
                · replace hF := hF.2 hc11
                  refine Ok.batch 5 [(2, .bool false)] (by kernel_rfl) ?_
                  refine Ok.nil ?_
                  refine Ok.thenN ?_
                  refine Ok.reval 2 rfl (show (.bool false : Value) = .bool (rvrV3 xv) from congrArg (Value.bool) (mand_f hc11)) ?_
                  exact fun a W hA hW => ⟨hA.sub (by kernel_rfl), hW.sub (.cons _ (.cons _ .slnil)), hF⟩
              ·
                clear hF
                rintro a W ⟨hA, hW, hF⟩
                refine (?_ : Ok _ _ _ _ _ _) a W hA hW
                clear hA hW
                refine Ok.ret ?_
                refine Ok.blockR ?_
                refine Ok.thenR ?_
                exact Ok.resH (vs := [.bool (rvrV3 xv)]) (.inl rfl) rfl (.cons (.tmp rfl) .nil) (Gext.refl w0 g) ⟨(rvrV3 xv), rfl, rfl, hF⟩
            · replace hF := hF.2 hc10
              refine Ok.seq ?_
              refine Ok.region ?_
              refine Ok.batch 2 [(1, .pointer (some ⟨b1, 0, none⟩)), (3, .pointer (some ⟨b2, 0, none⟩)), (61, .bool (xv.1 == 5))] (by kernel_rfl) ?_
              refine Ok.nil ?_
              refine Ok.thenN ?_
              refine Ok.cond (b := (xv.1 == 5)) rfl (fun hc12 => ?_) (fun hc12 => ?_)
              · replace hF := hF.1 hc12
                refine Ok.region ?_
                refine Ok.batch 1 [(1, .pointer (some ⟨b1, 0, none⟩)), (3, .pointer (some ⟨b2, 0, none⟩)), (63, .pointer (some ⟨b1, 2, none⟩))] (by kernel_rfl) ?_
                refine Ok.op rfl (OpOk.step (v := .string ⟨⟨xv.2.2⟩⟩) (Yields.load 1 rfl rfl Try.underlying9 rfl (by kernel_rfl)) rfl rfl ?_)
                refine Ok.batch 1 [(1, .pointer (some ⟨b1, 0, none⟩)), (3, .pointer (some ⟨b2, 0, none⟩)), (64, .string ⟨⟨xv.2.2⟩⟩), (65, .pointer (some ⟨b2, 2, none⟩))] (by kernel_rfl) ?_
                refine Ok.op rfl (OpOk.store (k := 1) (v := .string ⟨⟨xv.2.2⟩⟩) (H' := [.blk b2 (.cells #[.int .i64 xv.1, .int .i64 0, .string ⟨⟨xv.2.2⟩⟩] 24), .blk b1 (.cells #[.int .i64 xv.1, .int .i64 xv.2.1, .string ⟨⟨xv.2.2⟩⟩] 24)]) 0 rfl rfl rfl (by kernel_rfl) (by kernel_rfl) (by kernel_rfl) (by kernel_rfl) (by kernel_rfl) ?_)
                refine Ok.nil ?_
                refine Ok.blockN ?_
                refine Ok.thenN ?_
                refine Ok.heapEq (H' := [.blk b2 (.cells #[.int .i64 xv.1, .int .i64 0, .string ⟨⟨(if (xv.1 == 0) = true then ([] : List UInt8) else xv.2.2)⟩⟩] 24), .blk b1 (.cells #[.int .i64 xv.1, .int .i64 xv.2.1, .string ⟨⟨xv.2.2⟩⟩] 24)]) (econs (congrArg (fun l : List Value => Ent.blk b2 (.cells ⟨l⟩ 24)) (lcons (rfl) (lcons (rfl) (lcons (congrArg ((fun s : List UInt8 => Value.string ⟨⟨s⟩⟩)) ((if_f hc3).symm)) rfl)))) (econs (rfl) rfl)) ?_
                exact fun a W hA hW => ⟨hA.sub (by kernel_rfl), hW, hF⟩
              · replace hF := hF.2 hc12
                refine Ok.seq ?_
                refine Ok.region ?_
                refine Ok.batch 1 [(2, .bool false)] (by kernel_rfl) ?_
                refine Ok.nil ?_
                refine Ok.thenN ?_
                refine Ok.ret ?_
                refine Ok.blockR ?_
                refine Ok.thenR ?_
                exact Ok.resP (vs := [.bool false]) [] [] (by decide) rfl (.inl rfl) rfl (.cons (.tmp rfl) .nil) (Gext.refl w0 g) ⟨false, rfl, rfl, hF⟩
  ·
    clear hF
    rintro a W ⟨hA, hW, hF⟩
    refine (?_ : Ok _ _ _ _ _ _) a W hA hW
    clear hA hW
    refine Ok.seq ?_
    refine Ok.region ?_
    refine Ok.op rfl (OpOk.step (v := .agg #[.int .i64 xv.1, .int .i64 xv.2.1, .string ⟨⟨xv.2.2⟩⟩]) (Yields.loadAgg 1 3 #[.int .i64 xv.1, .int .i64 xv.2.1, .string ⟨⟨xv.2.2⟩⟩] rfl rfl Try.underlying24 rfl (by kernel_rfl) (by kernel_rfl) (by kernel_rfl)) rfl rfl ?_)
    refine Ok.op rfl (OpOk.step (v := .agg #[.int .i64 xv.1, .int .i64 0, .string ⟨⟨(if (xv.1 == 0) = true then ([] : List UInt8) else xv.2.2)⟩⟩]) (Yields.loadAgg 0 3 #[.int .i64 xv.1, .int .i64 0, .string ⟨⟨(if (xv.1 == 0) = true then ([] : List UInt8) else xv.2.2)⟩⟩] rfl rfl Try.underlying24 rfl (by kernel_rfl) (by kernel_rfl) (by kernel_rfl)) rfl rfl ?_)
    refine Ok.op rfl (OpOk.step (v := .bool ([(xv.1 == xv.1), (xv.2.1 == 0), (xv.2.2 == (if (xv.1 == 0) = true then ([] : List UInt8) else xv.2.2))].all id)) (Yields.eqAgg (k := 2) rfl rfl (.struct (k := 1) Try.underlying24 (by kernel_rfl) ⟨by decide, ⟨.int .i64 xv.1, .int .i64 xv.1, fun _ => by kernel_rfl, fun _ => by kernel_rfl, EqR.mono (k := 1) (.int Try.underlying3) (by decide)⟩, ⟨by decide, ⟨.int .i64 xv.2.1, .int .i64 0, fun _ => by kernel_rfl, fun _ => by kernel_rfl, EqR.mono (k := 1) (.int Try.underlying3) (by decide)⟩, ⟨by decide, ⟨.string ⟨⟨xv.2.2⟩⟩, .string ⟨⟨(if (xv.1 == 0) = true then ([] : List UInt8) else xv.2.2)⟩⟩, fun _ => by kernel_rfl, fun _ => by kernel_rfl, EqR.mono (k := 1) (.str Try.underlying9) (by decide)⟩, trivial⟩⟩⟩) rfl (by kernel_rfl)) rfl rfl ?_)
    refine Ok.batch 1 [(2, .bool ([(xv.1 == xv.1), (xv.2.1 == 0), (xv.2.2 == (if (xv.1 == 0) = true then ([] : List UInt8) else xv.2.2))].all id))] (by kernel_rfl) ?_
    refine Ok.nil ?_
    refine Ok.thenN ?_
    refine Ok.ret ?_
    exact Ok.resP (vs := [.bool ([(xv.1 == xv.1), (xv.2.1 == 0), (xv.2.2 == (if (xv.1 == 0) = true then ([] : List UInt8) else xv.2.2))].all id)]) [] [] (by decide) rfl (.inl rfl) rfl (.cons (.tmp rfl) .nil) (Gext.refl w0 g) ⟨([(xv.1 == xv.1), (xv.2.1 == 0), (xv.2.2 == (if (xv.1 == 0) = true then ([] : List UInt8) else xv.2.2))].all id), rfl, rfl, hF⟩
def rvrj5M (xv : Int × Int × List UInt8) : Bool := ([(xv.1 == xv.1), (xv.2.1 == 0), (xv.2.2 == (if (xv.1 == 0) = true then ([] : List UInt8) else xv.2.2))].all id)
set_option linter.unusedSimpArgs false in
set_option linter.unusedVariables false in
theorem rvrj5_A (xv : Int × Int × List UInt8) (P : Bool → Prop) (h : P (rvrj5M xv)) : rvrj5 xv (fun k0 => P k0) := by
  unfold rvrj5M at h
  unfold rvrj5
  exact h
def rvrj16M (xv : Int × Int × List UInt8) : Bool := (rvrV0 xv)
set_option linter.unusedSimpArgs false in
set_option linter.unusedVariables false in
theorem rvrj16_A (xv : Int × Int × List UInt8) (P : Bool → Prop) (h : P (rvrj16M xv)) : rvrj16 xv (fun k0 => P k0) := by
  unfold rvrj16M at h
  unfold rvrj16
  exact h
def rvrj24M (xv : Int × Int × List UInt8) : Bool := (rvrV1 xv)
set_option linter.unusedSimpArgs false in
set_option linter.unusedVariables false in
theorem rvrj24_A (xv : Int × Int × List UInt8) (P : Bool → Prop) (h : P (rvrj24M xv)) : rvrj24 xv (fun k0 => P k0) := by
  unfold rvrj24M at h
  unfold rvrj24
  exact h
def rvrj32M (xv : Int × Int × List UInt8) : Bool := (rvrV2 xv)
set_option linter.unusedSimpArgs false in
set_option linter.unusedVariables false in
theorem rvrj32_A (xv : Int × Int × List UInt8) (P : Bool → Prop) (h : P (rvrj32M xv)) : rvrj32 xv (fun k0 => P k0) := by
  unfold rvrj32M at h
  unfold rvrj32
  exact h
def rvrj40M (xv : Int × Int × List UInt8) : Bool := (rvrV3 xv)
set_option linter.unusedSimpArgs false in
set_option linter.unusedVariables false in
theorem rvrj40_A (xv : Int × Int × List UInt8) (P : Bool → Prop) (h : P (rvrj40M xv)) : rvrj40 xv (fun k0 => P k0) := by
  unfold rvrj40M at h
  unfold rvrj40
  exact h
def rvrM (xv : Int × Int × List UInt8) : Bool := (if (xv.1 == 0) = true then (rvrj5M xv) else (if (xv.1 == 1) = true then (rvrj16M xv) else (if (xv.1 == 2) = true then (rvrj24M xv) else (if (xv.1 == 3) = true then (rvrj32M xv) else (if (xv.1 == 4) = true then (rvrj40M xv) else (if (xv.1 == 5) = true then (rvrj5M xv) else false))))))
set_option linter.unusedSimpArgs false in
set_option linter.unusedVariables false in
theorem rvrF_A (xv : Int × Int × List UInt8) (P : Bool → Prop) (h : P (rvrM xv)) : rvrF xv (fun k0 => P k0) := by
  unfold rvrM at h
  unfold rvrF
  refine ⟨fun hc0 => ?_, fun hc0 => ?_⟩
  · rw [if_t hc0] at h
    have hd0 := hc0; try simp only [Bool.and_eq_true, Bool.or_eq_true, Bool.and_eq_false_iff, Bool.or_eq_false_iff, Bool.not_eq_true', Bool.not_eq_false', decide_eq_true_eq, decide_eq_false_iff_not, beq_iff_eq, beq_eq_false_iff_ne, ne_eq] at hd0
    exact rvrj5_A xv _ h
  · rw [if_f hc0] at h
    have hd0 := hc0; try simp only [Bool.and_eq_true, Bool.or_eq_true, Bool.and_eq_false_iff, Bool.or_eq_false_iff, Bool.not_eq_true', Bool.not_eq_false', decide_eq_true_eq, decide_eq_false_iff_not, beq_iff_eq, beq_eq_false_iff_ne, ne_eq] at hd0
    refine ⟨fun hc1 => ?_, fun hc1 => ?_⟩
    · rw [if_t hc1] at h
      have hd1 := hc1; try simp only [Bool.and_eq_true, Bool.or_eq_true, Bool.and_eq_false_iff, Bool.or_eq_false_iff, Bool.not_eq_true', Bool.not_eq_false', decide_eq_true_eq, decide_eq_false_iff_not, beq_iff_eq, beq_eq_false_iff_ne, ne_eq] at hd1
      refine ⟨fun hc2 => ?_, fun hc2 => ?_⟩
      · skip
        have hd2 := hc2; try simp only [Bool.and_eq_true, Bool.or_eq_true, Bool.and_eq_false_iff, Bool.or_eq_false_iff, Bool.not_eq_true', Bool.not_eq_false', decide_eq_true_eq, decide_eq_false_iff_not, beq_iff_eq, beq_eq_false_iff_ne, ne_eq] at hd2
        exact rvrj16_A xv _ h
      · skip
        have hd2 := hc2; try simp only [Bool.and_eq_true, Bool.or_eq_true, Bool.and_eq_false_iff, Bool.or_eq_false_iff, Bool.not_eq_true', Bool.not_eq_false', decide_eq_true_eq, decide_eq_false_iff_not, beq_iff_eq, beq_eq_false_iff_ne, ne_eq] at hd2
        exact rvrj16_A xv _ h
    · rw [if_f hc1] at h
      have hd1 := hc1; try simp only [Bool.and_eq_true, Bool.or_eq_true, Bool.and_eq_false_iff, Bool.or_eq_false_iff, Bool.not_eq_true', Bool.not_eq_false', decide_eq_true_eq, decide_eq_false_iff_not, beq_iff_eq, beq_eq_false_iff_ne, ne_eq] at hd1
      refine ⟨fun hc2 => ?_, fun hc2 => ?_⟩
      · rw [if_t hc2] at h
        have hd2 := hc2; try simp only [Bool.and_eq_true, Bool.or_eq_true, Bool.and_eq_false_iff, Bool.or_eq_false_iff, Bool.not_eq_true', Bool.not_eq_false', decide_eq_true_eq, decide_eq_false_iff_not, beq_iff_eq, beq_eq_false_iff_ne, ne_eq] at hd2
        refine ⟨fun hc3 => ?_, fun hc3 => ?_⟩
        · skip
          have hd3 := hc3; try simp only [Bool.and_eq_true, Bool.or_eq_true, Bool.and_eq_false_iff, Bool.or_eq_false_iff, Bool.not_eq_true', Bool.not_eq_false', decide_eq_true_eq, decide_eq_false_iff_not, beq_iff_eq, beq_eq_false_iff_ne, ne_eq] at hd3
          exact rvrj24_A xv _ h
        · skip
          have hd3 := hc3; try simp only [Bool.and_eq_true, Bool.or_eq_true, Bool.and_eq_false_iff, Bool.or_eq_false_iff, Bool.not_eq_true', Bool.not_eq_false', decide_eq_true_eq, decide_eq_false_iff_not, beq_iff_eq, beq_eq_false_iff_ne, ne_eq] at hd3
          exact rvrj24_A xv _ h
      · rw [if_f hc2] at h
        have hd2 := hc2; try simp only [Bool.and_eq_true, Bool.or_eq_true, Bool.and_eq_false_iff, Bool.or_eq_false_iff, Bool.not_eq_true', Bool.not_eq_false', decide_eq_true_eq, decide_eq_false_iff_not, beq_iff_eq, beq_eq_false_iff_ne, ne_eq] at hd2
        refine ⟨fun hc3 => ?_, fun hc3 => ?_⟩
        · rw [if_t hc3] at h
          have hd3 := hc3; try simp only [Bool.and_eq_true, Bool.or_eq_true, Bool.and_eq_false_iff, Bool.or_eq_false_iff, Bool.not_eq_true', Bool.not_eq_false', decide_eq_true_eq, decide_eq_false_iff_not, beq_iff_eq, beq_eq_false_iff_ne, ne_eq] at hd3
          refine ⟨fun hc4 => ?_, fun hc4 => ?_⟩
          · skip
            have hd4 := hc4; try simp only [Bool.and_eq_true, Bool.or_eq_true, Bool.and_eq_false_iff, Bool.or_eq_false_iff, Bool.not_eq_true', Bool.not_eq_false', decide_eq_true_eq, decide_eq_false_iff_not, beq_iff_eq, beq_eq_false_iff_ne, ne_eq] at hd4
            exact rvrj32_A xv _ h
          · skip
            have hd4 := hc4; try simp only [Bool.and_eq_true, Bool.or_eq_true, Bool.and_eq_false_iff, Bool.or_eq_false_iff, Bool.not_eq_true', Bool.not_eq_false', decide_eq_true_eq, decide_eq_false_iff_not, beq_iff_eq, beq_eq_false_iff_ne, ne_eq] at hd4
            exact rvrj32_A xv _ h
        · rw [if_f hc3] at h
          have hd3 := hc3; try simp only [Bool.and_eq_true, Bool.or_eq_true, Bool.and_eq_false_iff, Bool.or_eq_false_iff, Bool.not_eq_true', Bool.not_eq_false', decide_eq_true_eq, decide_eq_false_iff_not, beq_iff_eq, beq_eq_false_iff_ne, ne_eq] at hd3
          refine ⟨fun hc4 => ?_, fun hc4 => ?_⟩
          · rw [if_t hc4] at h
            have hd4 := hc4; try simp only [Bool.and_eq_true, Bool.or_eq_true, Bool.and_eq_false_iff, Bool.or_eq_false_iff, Bool.not_eq_true', Bool.not_eq_false', decide_eq_true_eq, decide_eq_false_iff_not, beq_iff_eq, beq_eq_false_iff_ne, ne_eq] at hd4
            refine ⟨fun hc5 => ?_, fun hc5 => ?_⟩
            · skip
              have hd5 := hc5; try simp only [Bool.and_eq_true, Bool.or_eq_true, Bool.and_eq_false_iff, Bool.or_eq_false_iff, Bool.not_eq_true', Bool.not_eq_false', decide_eq_true_eq, decide_eq_false_iff_not, beq_iff_eq, beq_eq_false_iff_ne, ne_eq] at hd5
              exact rvrj40_A xv _ h
            · skip
              have hd5 := hc5; try simp only [Bool.and_eq_true, Bool.or_eq_true, Bool.and_eq_false_iff, Bool.or_eq_false_iff, Bool.not_eq_true', Bool.not_eq_false', decide_eq_true_eq, decide_eq_false_iff_not, beq_iff_eq, beq_eq_false_iff_ne, ne_eq] at hd5
              exact rvrj40_A xv _ h
          · rw [if_f hc4] at h
            have hd4 := hc4; try simp only [Bool.and_eq_true, Bool.or_eq_true, Bool.and_eq_false_iff, Bool.or_eq_false_iff, Bool.not_eq_true', Bool.not_eq_false', decide_eq_true_eq, decide_eq_false_iff_not, beq_iff_eq, beq_eq_false_iff_ne, ne_eq] at hd4
            refine ⟨fun hc5 => ?_, fun hc5 => ?_⟩
            · rw [if_t hc5] at h
              have hd5 := hc5; try simp only [Bool.and_eq_true, Bool.or_eq_true, Bool.and_eq_false_iff, Bool.or_eq_false_iff, Bool.not_eq_true', Bool.not_eq_false', decide_eq_true_eq, decide_eq_false_iff_not, beq_iff_eq, beq_eq_false_iff_ne, ne_eq] at hd5
              exact rvrj5_A xv _ h
            · rw [if_f hc5] at h
              have hd5 := hc5; try simp only [Bool.and_eq_true, Bool.or_eq_true, Bool.and_eq_false_iff, Bool.or_eq_false_iff, Bool.not_eq_true', Bool.not_eq_false', decide_eq_true_eq, decide_eq_false_iff_not, beq_iff_eq, beq_eq_false_iff_ne, ne_eq] at hd5
              exact h
theorem rvr_F (xv : Int × Int × List UInt8) : rvrF xv (fun k0 => k0 = rvrM xv) :=
  rvrF_A xv (fun z => z = rvrM xv) rfl
set_option linter.unusedVariables false in
theorem rvr_c {g : Ghost} (xv : Int × Int × List UInt8)  : CallsG Try.prog 67 #[.agg #[.int .i64 xv.1, .int .i64 xv.2.1, .string ⟨⟨xv.2.2⟩⟩]] g (.bool (rvrM xv)) :=
  (rvr_ok xv _ (rvr_F xv)).gives (by rintro g' H' v _ ⟨r0, rfl, rfl, hK⟩; subst hK; rfl)
theorem rvr_eq (v : JV) : rvrM v = vchkM v := by
  obtain ⟨k, n, s⟩ := v
  have hw : ∀ a b : Int, rbtM n a b = vwiM n a b := fun a b => by
    show (decide (a ≤ n) && decide (n ≤ b)) = (decide (n ≥ a) && decide (n ≤ b)); rfl
  unfold rvrM vchkM rvrj5M rvrj16M rvrj24M rvrj32M rvrj40M rvrV0 rvrV1 rvrV2 rvrV3 vchkj10M vchkj16M vchkj22M vchkj28M vchkj34M vchkV0
  simp only [hw, beq_self_eq_true, List.all_cons, List.all_nil, id, Bool.true_and, Bool.and_true]
  by_cases h0 : (k == 0) = true
  · rw [if_t h0, if_t h0, if_t h0]
  have h0 : (k == 0) = false := by simpa using h0
  rw [if_f h0, if_f h0, if_f h0]
  by_cases h1 : (k == 1) = true
  · rw [if_t h1, if_t h1, h1]
    have : vwiM n 0 1 = ((n == 0) || (n == 1)) := by
      show (decide (n ≥ 0) && decide (n ≤ 1)) = _
      rw [Bool.eq_iff_iff]; simp; omega
    rw [this]
    cases (n == 0) <;> cases (n == 1) <;> cases (s == ([] : List UInt8)) <;> rfl
  have h1 : (k == 1) = false := by simpa using h1
  rw [if_f h1, if_f h1]
  by_cases h2 : (k == 2) = true
  · rw [if_t h2, if_t h2, Bool.and_comm]
  have h2 : (k == 2) = false := by simpa using h2
  rw [if_f h2, if_f h2]
  by_cases h3 : (k == 3) = true
  · rw [if_t h3, if_t h3, Bool.and_comm]
  have h3 : (k == 3) = false := by simpa using h3
  rw [if_f h3, if_f h3]
  by_cases h4 : (k == 4) = true
  · rw [if_t h4, if_t h4, Bool.and_comm]
    have : decide (n > -1) = decide (n ≥ 0) := by rw [decide_eq_decide]; omega
    rw [this]
  have h4 : (k == 4) = false := by simpa using h4
  rw [if_f h4, if_f h4]
  by_cases h5 : (k == 5) = true
  · rw [if_t h5, if_t h5]; simp
  have h5 : (k == 5) = false := by simpa using h5
  rw [if_f h5, if_f h5]
def rviV0 (xh : List (Int × List (List UInt8) × List (JV))) (xv : JV) : Bool :=
  ((rvrM xv) && ((xv.1 != 4) || ((decide (xv.2.1 < (xh.length : Int))) && ((xh.getD (Int.toNat xv.2.1) default).1 != 0))))
def rvij3 (xh : List (Int × List (List UInt8) × List (JV))) (xv : JV) (K : Bool → Prop) : Prop :=
  K (rviV0 xh xv)
def rviF (xh : List (Int × List (List UInt8) × List (JV))) (xv : JV) (K : Bool → Prop) : Prop :=
  (((rvrM xv)) = true → (((xv.1 != 4)) = true → rvij3 xh xv K) ∧ (((xv.1 != 4)) = false → ((decide (xv.2.1 < (xh.length : Int))) = true → (0 : Int) ≤ xv.2.1 ∧ Int.toNat xv.2.1 < xh.length ∧ rvij3 xh xv K) ∧ ((decide (xv.2.1 < (xh.length : Int))) = false → rvij3 xh xv K))) ∧ (((rvrM xv)) = false → rvij3 xh xv K)
set_option maxHeartbeats 4000000 in
set_option maxRecDepth 100000 in
set_option linter.unusedVariables false in
theorem rvi_ok {g : Ghost} {axh_0 : Option Addr} {cxh_0 : Nat} (xh : List (Int × List (List UInt8) × List (JV))) (xv : JV) (hRxh_0 : Rep g (.slice (.pair (.int .i64) (.pair (.slice (.str)) (.slice (.pair (.int .i64) (.pair (.int .i64) (.str))))))) [.slice axh_0 xh.length cxh_0] xh) (K : Bool → Prop)
    (hF : rviF xh xv K) : CallsH Try.prog 36 #[.slice axh_0 xh.length cxh_0, .agg #[.int .i64 xv.1, .int .i64 xv.2.1, .string ⟨⟨xv.2.2⟩⟩]] g [] (fun g' H' v => ∃ (r0 : Bool), v = .bool r0 ∧ H' = [] ∧ K r0) := by
  refine CallsH.enter 28 [(0, .slice axh_0 xh.length cxh_0), (1, .agg #[.int .i64 xv.1, .int .i64 xv.2.1, .string ⟨⟨xv.2.2⟩⟩])] Try.func36 rfl (by kernel_rfl) (by kernel_rfl) (by kernel_rfl) fun w0 => ?_
  refine Ok.seq ?_
  refine Ok.region ?_
  refine Ok.op rfl (OpOk.box (v := .agg #[.int .i64 xv.1, .int .i64 xv.2.1, .string ⟨⟨xv.2.2⟩⟩]) (cs := #[.int .i64 xv.1, .int .i64 xv.2.1, .string ⟨⟨xv.2.2⟩⟩]) rfl (by kernel_rfl) rfl fun b1 => ?_)
  refine Ok.batch 1 [(0, .slice axh_0 xh.length cxh_0), (3, .pointer (some ⟨b1, 0, none⟩))] (by kernel_rfl) ?_
  refine Ok.nil ?_
  refine Ok.thenN ?_
  refine Ok.cut (fun a W => StA 28 [(4, .bool (rviV0 xh xv))] a ∧ StW w0 [] g W ∧ rvij3 xh xv K) ?_ ?_
  ·
    refine Ok.region ?_
    refine Ok.op rfl (OpOk.step (v := .agg #[.int .i64 xv.1, .int .i64 xv.2.1, .string ⟨⟨xv.2.2⟩⟩]) (Yields.loadAgg 0 3 #[.int .i64 xv.1, .int .i64 xv.2.1, .string ⟨⟨xv.2.2⟩⟩] rfl rfl Try.underlying24 rfl (by kernel_rfl) (by kernel_rfl) (by kernel_rfl)) rfl rfl ?_)
    refine Ok.op rfl (OpOk.callG (v := .bool (rvrM xv)) (enters (by kernel_rfl) (fun _ => by kernel_rfl)) (fun W hW => rvr_c xv) rfl ?_)
    refine Ok.batch 1 [(0, .slice axh_0 xh.length cxh_0), (3, .pointer (some ⟨b1, 0, none⟩)), (7, .bool (rvrM xv))] (by kernel_rfl) ?_
    refine Ok.boolAt 7 ((rvrM xv)) rfl (fun hc2 => ?_) (fun hc2 => ?_)
    · replace hF := hF.1 hc2
      refine Ok.batch 1 [(0, .slice axh_0 xh.length cxh_0), (3, .pointer (some ⟨b1, 0, none⟩)), (7, .bool true), (8, .pointer (some ⟨b1, 0, none⟩))] (by kernel_rfl) ?_
      refine Ok.opYes (j := 2) (d := 7) (want := true) (b := true) rfl (by kernel_rfl) (by kernel_rfl) rfl (OpOk.step (v := .int .i64 xv.1) (Yields.load 0 rfl rfl Try.underlying3 rfl (by kernel_rfl)) rfl rfl ?_)
      refine Ok.batch 2 [(0, .slice axh_0 xh.length cxh_0), (3, .pointer (some ⟨b1, 0, none⟩)), (7, .bool true), (11, .bool (xv.1 != 4))] (by kernel_rfl) ?_
      refine Ok.boolAt 11 ((xv.1 != 4)) rfl (fun hc3 => ?_) (fun hc3 => ?_)
      · replace hF := hF.1 hc3
        refine Ok.batch 17 [(4, .bool true)] (by kernel_rfl) ?_
        refine Ok.nil ?_
        refine Ok.thenN ?_
        refine Ok.reval 4 rfl (show (.bool true : Value) = .bool (rviV0 xh xv) from congrArg (Value.bool) ((Eq.trans (mor_t hc3) (mand_t hc2)))) ?_
        exact fun a W hA hW => ⟨hA.sub (by kernel_rfl), hW.sub (.cons _ .slnil), hF⟩
      · replace hF := hF.2 hc3
        refine Ok.batch 1 [(0, .slice axh_0 xh.length cxh_0), (3, .pointer (some ⟨b1, 0, none⟩)), (7, .bool true), (11, .bool false), (12, .pointer (some ⟨b1, 1, none⟩))] (by kernel_rfl) ?_
        refine Ok.opYes (j := 6) (d := 11) (want := false) (b := false) rfl (by kernel_rfl) (by kernel_rfl) rfl (OpOk.step (v := .int .i64 xv.2.1) (Yields.load 0 rfl rfl Try.underlying3 rfl (by kernel_rfl)) rfl rfl ?_)
        refine Ok.batch 4 [(0, .slice axh_0 xh.length cxh_0), (3, .pointer (some ⟨b1, 0, none⟩)), (7, .bool true), (11, .bool false), (17, .bool (decide (xv.2.1 < (xh.length : Int))))] (by kernel_rfl) ?_
        refine Ok.boolAt 17 (decide (xv.2.1 < (xh.length : Int))) rfl (fun hc4 => ?_) (fun hc4 => ?_)
        · replace hF := hF.1 hc4
          refine Ok.batch 2 [(7, .bool true), (11, .bool false), (17, .bool true), (18, .slice axh_0 xh.length cxh_0), (19, .pointer (some ⟨b1, 1, none⟩))] (by kernel_rfl) ?_
          refine Ok.opYes (j := 12) (d := 17) (want := true) (b := true) rfl (by kernel_rfl) (by kernel_rfl) rfl (OpOk.step (v := .int .i64 xv.2.1) (Yields.load 0 rfl rfl Try.underlying3 rfl (by kernel_rfl)) rfl rfl ?_)
          obtain ⟨h06, h16, hF⟩ := hF
          have he6 := get_of (l := xh) (default : Int × List (List UInt8) × List (JV)) h16
          generalize hg6 : (xh.getD (Int.toNat xv.2.1) default) = e6 at he6 hF ⊢
          refine Ok.opYes (j := 12) (d := 17) (want := true) (b := true) rfl (by kernel_rfl) (by kernel_rfl) rfl (OpOk.indexRo (e := .pair (.int .i64) (.pair (.slice (.str)) (.slice (.pair (.int .i64) (.pair (.int .i64) (.str)))))) (i := xv.2.1) (el := e6) rfl rfl Try.underlying22 (by kernel_rfl) hRxh_0 h06 he6 rfl fun q5 o5 cs5 _ hat5 hr5 => ?_)
          obtain ⟨_, _, rfl, rfl, ⟨_, _, rfl, ⟨a5_1, c5_1, rfl, hm5_1, hr5_1⟩, ⟨a5_2, c5_2, rfl, hm5_2, hr5_2⟩⟩⟩ := hr5
          have hR5_1 : Rep g (.slice (.str)) [.slice a5_1 e6.2.1.length c5_1] e6.2.1 := ⟨a5_1, c5_1, rfl, hm5_1, hr5_1⟩
          have hR5_2 : Rep g (.slice (.pair (.int .i64) (.pair (.int .i64) (.str)))) [.slice a5_2 e6.2.2.length c5_2] e6.2.2 := ⟨a5_2, c5_2, rfl, hm5_2, hr5_2⟩
          replace hat5 : At g q5 o5 [.int .i64 e6.1, .slice a5_1 e6.2.1.length c5_1, .slice a5_2 e6.2.2.length c5_2] := hat5
          refine Ok.batch 1 [(7, .bool true), (11, .bool false), (17, .bool true), (22, .pointer (some ⟨q5, o5, none⟩))] (by kernel_rfl) ?_
          refine Ok.opYes (j := 12) (d := 17) (want := true) (b := true) rfl (by kernel_rfl) (by kernel_rfl) rfl (OpOk.step (v := .int .i64 e6.1) (Yields.loadRo 0 hat5 (by kernel_rfl) Try.underlying3 rfl (by kernel_rfl)) rfl rfl ?_)
          refine Ok.batch 5 [(4, .bool (e6.1 != 0))] (by kernel_rfl) ?_
          refine Ok.nil ?_
          refine Ok.thenN ?_
          subst hg6
          refine Ok.reval 4 rfl (show (.bool ((xh.getD (Int.toNat xv.2.1) default).1 != 0) : Value) = .bool (rviV0 xh xv) from congrArg (Value.bool) ((Eq.trans ((Eq.trans (mand_t hc4) (mor_f hc3))) (mand_t hc2)))) ?_
          exact fun a W hA hW => ⟨hA.sub (by kernel_rfl), hW.sub (.cons _ .slnil), hF⟩
        · replace hF := hF.2 hc4
          refine Ok.batch 11 [(4, .bool false)] (by kernel_rfl) ?_
          refine Ok.nil ?_
          refine Ok.thenN ?_
          refine Ok.reval 4 rfl (show (.bool false : Value) = .bool (rviV0 xh xv) from congrArg (Value.bool) ((Eq.trans ((Eq.trans (mand_f hc4) (mor_f hc3))) (mand_t hc2)))) ?_
          exact fun a W hA hW => ⟨hA.sub (by kernel_rfl), hW.sub (.cons _ .slnil), hF⟩
    · replace hF := hF.2 hc2
      refine Ok.batch 21 [(4, .bool false)] (by kernel_rfl) ?_
      refine Ok.nil ?_
      refine Ok.thenN ?_
      refine Ok.reval 4 rfl (show (.bool false : Value) = .bool (rviV0 xh xv) from congrArg (Value.bool) (mand_f hc2)) ?_
      exact fun a W hA hW => ⟨hA.sub (by kernel_rfl), hW.sub (.cons _ .slnil), hF⟩
  ·
    clear hF
    rintro a W ⟨hA, hW, hF⟩
    refine (?_ : Ok _ _ _ _ _ _) a W hA hW
    clear hA hW
    refine Ok.ret ?_
    exact Ok.resH (vs := [.bool (rviV0 xh xv)]) (.inl rfl) rfl (.cons (.tmp rfl) .nil) (Gext.refl w0 g) ⟨(rviV0 xh xv), rfl, rfl, hF⟩
theorem chk_ref {v : JV} (hc : vchkM v = true) : (v.1 == 4) = true → v.2.1 ≥ 0 := by
  intro h4
  obtain ⟨k, n, s⟩ := v
  have hk : k = 4 := eq_of_beq h4
  subst hk
  have : (decide (n ≥ 0) && (s == ([] : List UInt8))) = true := hc
  rw [Bool.and_eq_true, decide_eq_true_eq] at this
  exact this.1
theorem rvi_eq (h : List JC) (v : JV) : rviV0 h v = hfitS h v := by
  unfold rviV0 hfitS hfitV0
  rw [rvr_eq]
  cases hc : vchkM v
  · rfl
  · rw [Bool.true_and, Bool.true_and]
    have hr := chk_ref hc
    show _ = (decide (hrefM v < 0) || _)
    unfold hrefM
    cases h4 : (v.1 == 4)
    · rw [if_f rfl]
      have : (v.1 != 4) = true := by rw [bne, h4]; rfl
      rw [this]; rfl
    · rw [if_t rfl]
      have : (v.1 != 4) = false := by rw [bne, h4]; rfl
      rw [this, decide_eq_false (show ¬ v.2.1 < 0 by have := hr h4; omega)]
theorem rvi_F (h : List JC) (v : JV) : rviF h v (fun r => r = hfitS h v) := by
  have j : rvij3 h v (fun r => r = hfitS h v) := rvi_eq h v
  refine ⟨fun hc => ⟨fun _ => j, fun h4 => ⟨fun h2 => ⟨?_, ?_, j⟩, fun _ => j⟩⟩, fun _ => j⟩
  · rw [rvr_eq] at hc
    exact chk_ref hc (by rw [bne, Bool.not_eq_false'] at h4; exact h4)
  · rw [rvr_eq] at hc
    have := chk_ref hc (by rw [bne, Bool.not_eq_false'] at h4; exact h4)
    have := of_decide_eq_true h2
    omega
set_option linter.unusedVariables false in
theorem rvi_c {g : Ghost} {axh_0 : Option Addr} {cxh_0 : Nat} (xh : List (Int × List (List UInt8) × List (Int × Int × List UInt8))) (xv : Int × Int × List UInt8) (hRxh_0 : Rep g (.slice (.pair (.int .i64) (.pair (.slice (.str)) (.slice (.pair (.int .i64) (.pair (.int .i64) (.str))))))) [.slice axh_0 xh.length cxh_0] xh)  : CallsG Try.prog 36 #[.slice axh_0 xh.length cxh_0, .agg #[.int .i64 xv.1, .int .i64 xv.2.1, .string ⟨⟨xv.2.2⟩⟩]] g (.bool (hfitS xh xv)) :=
  (rvi_ok xh xv hRxh_0 _ (rvi_F xh xv)).gives (by rintro g' H' v _ ⟨r0, rfl, rfl, hK⟩; subst hK; rfl)
def rcrV4 (e3 : Int × List (List UInt8) × List (JV)) (x66l36 : Int) (x4l36 : Bool) : Bool :=
  (x4l36 && ((x66l36 == 0) || (Op.bytesLess (e3.2.1.getD (Int.toNat (IntKind.wrap .i64 (x66l36 - 1))) default) (e3.2.1.getD (Int.toNat x66l36) default))))
def rcrV5 (e3 : Int × List (List UInt8) × List (JV)) (x4l11 : Bool) : Bool :=
  (x4l11 && ((rbtM e3.1 0 3) && ((e3.1 != 0) || ((e3.2.2.length : Int) == 0))))
def rcrV6 (e3 : Int × List (List UInt8) × List (JV)) (x4l11 : Bool) : Bool :=
  (if (e3.1 == 2) = true then ((rcrV5 e3 x4l11) && ((e3.2.1.length : Int) == (e3.2.2.length : Int))) else ((rcrV5 e3 x4l11) && ((e3.2.1.length : Int) == 0)))
def rcrV8 (xh : List (Int × List (List UInt8) × List (JV))) (e3 : Int × List (List UInt8) × List (JV)) (x4l52 : Bool) (x92l52 : Int) : Bool :=
  (x4l52 && (hfitS xh (e3.2.2.getD (Int.toNat x92l52) default)))
def rcrj43 (e3 : Int × List (List UInt8) × List (JV)) (x66l36 : Int) (x4l36 : Bool) (C36 : Bool → Int → Prop) : Prop :=
  C36 (rcrV4 e3 x66l36 x4l36) (IntKind.wrap .i64 (x66l36 + 1))
def rcrj59 (xh : List (Int × List (List UInt8) × List (JV))) (e3 : Int × List (List UInt8) × List (JV)) (x4l52 : Bool) (x92l52 : Int) (C52 : Bool → Int → Prop) : Prop :=
  C52 (rcrV8 xh e3 x4l52 x92l52) (IntKind.wrap .i64 (x92l52 + 1))
def rcrl52b (xh : List (Int × List (List UInt8) × List (JV))) (e3 : Int × List (List UInt8) × List (JV)) (x3l11 : Bool) (x15l11 : Int) (C11 : Bool → Bool → Int → Prop) (x4l52 : Bool) (x92l52 : Int) (C52 : Bool → Int → Prop) : Prop :=
  ((decide (x92l52 < (e3.2.2.length : Int))) = true → (0 : Int) ≤ x92l52 ∧ Int.toNat x92l52 < e3.2.2.length ∧ ((x4l52) = true → rcrj59 xh e3 x4l52 x92l52 C52) ∧ ((x4l52) = false → rcrj59 xh e3 x4l52 x92l52 C52)) ∧ ((decide (x92l52 < (e3.2.2.length : Int))) = false → C11 (x3l11 || (decide (((xh.getD (Int.toNat x15l11) default).2.2.length : Int) > 200))) x4l52 (IntKind.wrap .i64 (x15l11 + 1)))
def rcrl52 (xh : List (Int × List (List UInt8) × List (JV))) (e3 : Int × List (List UInt8) × List (JV)) (x3l11 : Bool) (x15l11 : Int) (C11 : Bool → Bool → Int → Prop) : Nat → Bool → Int → Prop
  | 0, _, _ => False
  | k + 1, x4l52, x92l52 => rcrl52b xh e3 x3l11 x15l11 C11 x4l52 x92l52 (rcrl52 xh e3 x3l11 x15l11 C11 k)
def rcrl36b (xh : List (Int × List (List UInt8) × List (JV))) (e3 : Int × List (List UInt8) × List (JV)) (x3l11 : Bool) (x15l11 : Int) (C11 : Bool → Bool → Int → Prop) (x4l36 : Bool) (x66l36 : Int) (C36 : Bool → Int → Prop) : Prop :=
  ((decide (x66l36 < (e3.2.1.length : Int))) = true → ((x4l36) = true → (((x66l36 == 0)) = true → rcrj43 e3 x66l36 x4l36 C36) ∧ (((x66l36 == 0)) = false → (0 : Int) ≤ (IntKind.wrap .i64 (x66l36 - 1)) ∧ Int.toNat (IntKind.wrap .i64 (x66l36 - 1)) < e3.2.1.length ∧ (0 : Int) ≤ x66l36 ∧ Int.toNat x66l36 < e3.2.1.length ∧ rcrj43 e3 x66l36 x4l36 C36)) ∧ ((x4l36) = false → rcrj43 e3 x66l36 x4l36 C36)) ∧ ((decide (x66l36 < (e3.2.1.length : Int))) = false → ∃ k, rcrl52 xh e3 x3l11 x15l11 C11 k x4l36 0)
def rcrl36 (xh : List (Int × List (List UInt8) × List (JV))) (e3 : Int × List (List UInt8) × List (JV)) (x3l11 : Bool) (x15l11 : Int) (C11 : Bool → Bool → Int → Prop) : Nat → Bool → Int → Prop
  | 0, _, _ => False
  | k + 1, x4l36, x66l36 => rcrl36b xh e3 x3l11 x15l11 C11 x4l36 x66l36 (rcrl36 xh e3 x3l11 x15l11 C11 k)
def rcrj26 (xh : List (Int × List (List UInt8) × List (JV))) (e3 : Int × List (List UInt8) × List (JV)) (x3l11 : Bool) (x4l11 : Bool) (x15l11 : Int) (C11 : Bool → Bool → Int → Prop) : Prop :=
  ∃ k, rcrl36 xh e3 x3l11 x15l11 C11 k (rcrV6 e3 x4l11) 0
def rcrj24 (xh : List (Int × List (List UInt8) × List (JV))) (e3 : Int × List (List UInt8) × List (JV)) (x3l11 : Bool) (x4l11 : Bool) (x15l11 : Int) (C11 : Bool → Bool → Int → Prop) : Prop :=
  (((e3.1 == 2)) = true → (((rcrV5 e3 x4l11)) = true → rcrj26 xh e3 x3l11 x4l11 x15l11 C11) ∧ (((rcrV5 e3 x4l11)) = false → rcrj26 xh e3 x3l11 x4l11 x15l11 C11)) ∧ (((e3.1 == 2)) = false → (((rcrV5 e3 x4l11)) = true → rcrj26 xh e3 x3l11 x4l11 x15l11 C11) ∧ (((rcrV5 e3 x4l11)) = false → rcrj26 xh e3 x3l11 x4l11 x15l11 C11))
def rcrj22 (xh : List (Int × List (List UInt8) × List (JV))) (e3 : Int × List (List UInt8) × List (JV)) (x3l11 : Bool) (x4l11 : Bool) (x15l11 : Int) (C11 : Bool → Bool → Int → Prop) : Prop :=
  ((x4l11) = true → (((rbtM e3.1 0 3)) = true → (((e3.1 != 0)) = true → rcrj24 xh e3 x3l11 x4l11 x15l11 C11) ∧ (((e3.1 != 0)) = false → rcrj24 xh e3 x3l11 x4l11 x15l11 C11)) ∧ (((rbtM e3.1 0 3)) = false → rcrj24 xh e3 x3l11 x4l11 x15l11 C11)) ∧ ((x4l11) = false → rcrj24 xh e3 x3l11 x4l11 x15l11 C11)
def rcrl11b (xh : List (Int × List (List UInt8) × List (JV))) (K : Int → Prop) (x3l11 : Bool) (x4l11 : Bool) (x15l11 : Int) (C11 : Bool → Bool → Int → Prop) : Prop :=
  ((decide (x15l11 < (xh.length : Int))) = true → (0 : Int) ≤ x15l11 ∧ Int.toNat x15l11 < xh.length ∧ ((x3l11) = true → rcrj22 xh (xh.getD (Int.toNat x15l11) default) x3l11 x4l11 x15l11 C11) ∧ ((x3l11) = false → rcrj22 xh (xh.getD (Int.toNat x15l11) default) x3l11 x4l11 x15l11 C11)) ∧ ((decide (x15l11 < (xh.length : Int))) = false → ((x3l11) = true → K 2) ∧ ((x3l11) = false → ((!x4l11) = true → K 3) ∧ ((!x4l11) = false → K 0)))
def rcrl11 (xh : List (Int × List (List UInt8) × List (JV))) (K : Int → Prop) : Nat → Bool → Bool → Int → Prop
  | 0, _, _, _ => False
  | k + 1, x3l11, x4l11, x15l11 => rcrl11b xh K x3l11 x4l11 x15l11 (rcrl11 xh K k)
def rcrF (xh : List (Int × List (List UInt8) × List (JV))) (K : Int → Prop) : Prop :=
  ∃ k, rcrl11 xh K k (decide ((xh.length : Int) > 300)) true 0
set_option maxHeartbeats 4000000 in
set_option maxRecDepth 100000 in
set_option linter.unusedVariables false in
theorem rcr_ok {g : Ghost} {axh_0 : Option Addr} {cxh_0 : Nat} (xh : List (Int × List (List UInt8) × List (JV))) (hRxh_0 : Rep g (.slice (.pair (.int .i64) (.pair (.slice (.str)) (.slice (.pair (.int .i64) (.pair (.int .i64) (.str))))))) [.slice axh_0 xh.length cxh_0] xh) (K : Int → Prop)
    (hF : rcrF xh K) : CallsH Try.prog 28 #[.slice axh_0 xh.length cxh_0] g [] (fun g' H' v => ∃ (r0 : Int), v = .int .i64 r0 ∧ H' = [] ∧ K r0) := by
  refine CallsH.enter 109 [(0, .slice axh_0 xh.length cxh_0)] Try.func28 rfl (by kernel_rfl) (by kernel_rfl) (by kernel_rfl) fun w0 => ?_
  refine Ok.seq ?_
  refine Ok.region ?_
  refine Ok.batch 1 [(0, .slice axh_0 xh.length cxh_0)] (by kernel_rfl) ?_
  refine Ok.nil ?_
  refine Ok.thenN ?_
  refine Ok.seq ?_
  refine Ok.region ?_
  refine Ok.batch 4 [(0, .slice axh_0 xh.length cxh_0), (3, .bool (decide ((xh.length : Int) > 300)))] (by kernel_rfl) ?_
  refine Ok.nil ?_
  refine Ok.thenN ?_
  refine Ok.seq ?_
  refine Ok.region ?_
  refine Ok.batch 1 [(0, .slice axh_0 xh.length cxh_0), (3, .bool (decide ((xh.length : Int) > 300))), (4, .bool true)] (by kernel_rfl) ?_
  refine Ok.nil ?_
  refine Ok.thenN ?_
  refine Ok.seq ?_
  refine Ok.seq ?_
  refine Ok.region ?_
  refine Ok.batch 3 [(0, .slice axh_0 xh.length cxh_0), (3, .bool (decide ((xh.length : Int) > 300))), (4, .bool true), (13, .slice axh_0 xh.length cxh_0), (14, .int .i64 (xh.length : Int)), (15, .int .i64 0)] (by kernel_rfl) ?_
  refine Ok.nil ?_
  refine Ok.thenN ?_
  refine Ok.block ?_
  obtain ⟨k, hF⟩ := hF
  refine Ok.loop (fun k a W => ∃ (x3l11 : Bool) (x4l11 : Bool) (x15l11 : Int), StA 109 [(0, .slice axh_0 xh.length cxh_0), (3, .bool x3l11), (4, .bool x4l11), (13, .slice axh_0 xh.length cxh_0), (14, .int .i64 (xh.length : Int)), (15, .int .i64 x15l11)] a ∧ StW w0 [] g W ∧ rcrl11 xh K k x3l11 x4l11 x15l11) k ?_ ?_
  ·
    exact fun a W hA hW => ⟨decide ((xh.length : Int) > 300), true, 0, hA.sub (by kernel_rfl), hW, hF⟩
  ·
    clear hF
    rintro k11 a W ⟨x3l11, x4l11, x15l11, hA, hW, hF⟩
    cases k11 with
    | zero => exact (hF : False).elim
    | succ k11 =>
      refine (?_ : Ok _ _ _ _ _ _) a W hA hW
      clear hA hW
      refine Ok.seq ?_
      refine Ok.region ?_
      refine Ok.batch 1 [(0, .slice axh_0 xh.length cxh_0), (3, .bool x3l11), (4, .bool x4l11), (13, .slice axh_0 xh.length cxh_0), (14, .int .i64 (xh.length : Int)), (15, .int .i64 x15l11), (16, .bool (decide (x15l11 < (xh.length : Int))))] (by kernel_rfl) ?_
      refine Ok.nil ?_
      refine Ok.thenN ?_
      refine Ok.seq ?_
      refine Ok.cond (b := decide (x15l11 < (xh.length : Int))) rfl (fun hc1 => ?_) (fun hc1 => ?_)
      · replace hF := hF.1 hc1
        refine Ok.skip ?_
        refine Ok.thenN ?_
        refine Ok.seq ?_
        refine Ok.block ?_
        refine Ok.seq ?_
        refine Ok.region ?_
        obtain ⟨h03, h13, hF⟩ := hF
        have he3 := get_of (l := xh) (default : Int × List (List UInt8) × List (JV)) h13
        generalize hg3 : (xh.getD (Int.toNat x15l11) default) = e3 at he3 hF ⊢
        refine Ok.op rfl (OpOk.indexRo (e := .pair (.int .i64) (.pair (.slice (.str)) (.slice (.pair (.int .i64) (.pair (.int .i64) (.str)))))) (i := x15l11) (el := e3) rfl rfl Try.underlying22 (by kernel_rfl) hRxh_0 h03 he3 rfl fun q2 o2 cs2 _ hat2 hr2 => ?_)
        obtain ⟨_, _, rfl, rfl, ⟨_, _, rfl, ⟨a2_1, c2_1, rfl, hm2_1, hr2_1⟩, ⟨a2_2, c2_2, rfl, hm2_2, hr2_2⟩⟩⟩ := hr2
        have hR2_1 : Rep g (.slice (.str)) [.slice a2_1 e3.2.1.length c2_1] e3.2.1 := ⟨a2_1, c2_1, rfl, hm2_1, hr2_1⟩
        have hR2_2 : Rep g (.slice (.pair (.int .i64) (.pair (.int .i64) (.str)))) [.slice a2_2 e3.2.2.length c2_2] e3.2.2 := ⟨a2_2, c2_2, rfl, hm2_2, hr2_2⟩
        replace hat2 : At g q2 o2 [.int .i64 e3.1, .slice a2_1 e3.2.1.length c2_1, .slice a2_2 e3.2.2.length c2_2] := hat2
        refine Ok.op rfl (OpOk.step (v := .agg #[.int .i64 e3.1, .slice a2_1 e3.2.1.length c2_1, .slice a2_2 e3.2.2.length c2_2]) (Yields.loadAggRo 0 3 #[.int .i64 e3.1, .slice a2_1 e3.2.1.length c2_1, .slice a2_2 e3.2.2.length c2_2] hat2 (by kernel_rfl) Try.underlying72 rfl (by kernel_rfl) (by kernel_rfl) (by kernel_rfl)) rfl rfl ?_)
        refine Ok.op rfl (OpOk.alloc (z := .agg #[.int .i64 0, .slice none 0 0, .slice none 0 0]) (cs := #[.int .i64 0, .slice none 0 0, .slice none 0 0]) (by kernel_rfl) (by kernel_rfl) rfl fun b4 => ?_)
        refine Ok.op rfl (OpOk.store (k := 3) (v := .agg #[.int .i64 e3.1, .slice a2_1 e3.2.1.length c2_1, .slice a2_2 e3.2.2.length c2_2]) (H' := [.blk b4 (.cells #[.int .i64 e3.1, .slice a2_1 e3.2.1.length c2_1, .slice a2_2 e3.2.2.length c2_2] 72)]) 0 rfl rfl rfl (by kernel_rfl) (by kernel_rfl) (by kernel_rfl) (by kernel_rfl) (by kernel_rfl) ?_)
        refine Ok.nil ?_
        refine Ok.thenN ?_
        refine Ok.cut (fun a W => StA 109 [(0, .slice axh_0 xh.length cxh_0), (3, .bool (x3l11 || (decide ((e3.2.2.length : Int) > 200)))), (4, .bool x4l11), (6, .pointer (some ⟨b4, 0, none⟩)), (13, .slice axh_0 xh.length cxh_0), (14, .int .i64 (xh.length : Int)), (15, .int .i64 x15l11)] a ∧ StW w0 [.blk b4 (.cells #[.int .i64 e3.1, .slice a2_1 e3.2.1.length c2_1, .slice a2_2 e3.2.2.length c2_2] 72)] g W ∧ rcrj22 xh e3 x3l11 x4l11 x15l11 (rcrl11 xh K k11)) ?_ ?_
        ·
          refine Ok.region ?_
          refine Ok.batch 2 [(0, .slice axh_0 xh.length cxh_0), (4, .bool x4l11), (6, .pointer (some ⟨b4, 0, none⟩)), (13, .slice axh_0 xh.length cxh_0), (14, .int .i64 (xh.length : Int)), (15, .int .i64 x15l11), (20, .bool x3l11)] (by kernel_rfl) ?_
          refine Ok.boolAt 20 (x3l11) rfl (fun hc23 => ?_) (fun hc23 => ?_)
          · replace hF := hF.1 hc23
            refine Ok.batch 6 [(0, .slice axh_0 xh.length cxh_0), (3, .bool true), (4, .bool x4l11), (6, .pointer (some ⟨b4, 0, none⟩)), (13, .slice axh_0 xh.length cxh_0), (14, .int .i64 (xh.length : Int)), (15, .int .i64 x15l11)] (by kernel_rfl) ?_
            refine Ok.nil ?_
            refine Ok.thenN ?_
            refine Ok.reval 3 rfl (show (.bool true : Value) = .bool (x3l11 || (decide ((e3.2.2.length : Int) > 200))) from congrArg (Value.bool) (mor_t hc23)) ?_
            exact fun a W hA hW => ⟨hA.sub (by kernel_rfl), hW, hF⟩
          · replace hF := hF.2 hc23
            refine Ok.batch 1 [(0, .slice axh_0 xh.length cxh_0), (4, .bool x4l11), (6, .pointer (some ⟨b4, 0, none⟩)), (13, .slice axh_0 xh.length cxh_0), (14, .int .i64 (xh.length : Int)), (15, .int .i64 x15l11), (20, .bool false), (21, .pointer (some ⟨b4, 2, none⟩))] (by kernel_rfl) ?_
            refine Ok.opYes (j := 1) (d := 20) (want := false) (b := false) rfl (by kernel_rfl) (by kernel_rfl) rfl (OpOk.step (v := .slice a2_2 e3.2.2.length c2_2) (Yields.load 0 rfl rfl Try.underlying29 rfl (by kernel_rfl)) rfl rfl ?_)
            refine Ok.batch 4 [(0, .slice axh_0 xh.length cxh_0), (3, .bool (decide ((e3.2.2.length : Int) > 200))), (4, .bool x4l11), (6, .pointer (some ⟨b4, 0, none⟩)), (13, .slice axh_0 xh.length cxh_0), (14, .int .i64 (xh.length : Int)), (15, .int .i64 x15l11)] (by kernel_rfl) ?_
            refine Ok.nil ?_
            refine Ok.thenN ?_
            refine Ok.reval 3 rfl (show (.bool (decide ((e3.2.2.length : Int) > 200)) : Value) = .bool (x3l11 || (decide ((e3.2.2.length : Int) > 200))) from congrArg (Value.bool) (mor_f hc23)) ?_
            exact fun a W hA hW => ⟨hA.sub (by kernel_rfl), hW, hF⟩
        ·
          clear hF
          rintro a W ⟨hA, hW, hF⟩
          refine (?_ : Ok _ _ _ _ _ _) a W hA hW
          clear hA hW
          refine Ok.cut (fun a W => StA 109 [(0, .slice axh_0 xh.length cxh_0), (3, .bool (x3l11 || (decide ((e3.2.2.length : Int) > 200)))), (4, .bool (rcrV5 e3 x4l11)), (6, .pointer (some ⟨b4, 0, none⟩)), (13, .slice axh_0 xh.length cxh_0), (14, .int .i64 (xh.length : Int)), (15, .int .i64 x15l11)] a ∧ StW w0 [.blk b4 (.cells #[.int .i64 e3.1, .slice a2_1 e3.2.1.length c2_1, .slice a2_2 e3.2.2.length c2_2] 72)] g W ∧ rcrj24 xh e3 x3l11 x4l11 x15l11 (rcrl11 xh K k11)) ?_ ?_
          ·
            refine Ok.region ?_
            refine Ok.batch 2 [(0, .slice axh_0 xh.length cxh_0), (3, .bool (x3l11 || (decide ((e3.2.2.length : Int) > 200)))), (6, .pointer (some ⟨b4, 0, none⟩)), (13, .slice axh_0 xh.length cxh_0), (14, .int .i64 (xh.length : Int)), (15, .int .i64 x15l11), (27, .bool x4l11)] (by kernel_rfl) ?_
            refine Ok.boolAt 27 (x4l11) rfl (fun hc20 => ?_) (fun hc20 => ?_)
            · replace hF := hF.1 hc20
              refine Ok.batch 1 [(0, .slice axh_0 xh.length cxh_0), (3, .bool (x3l11 || (decide ((e3.2.2.length : Int) > 200)))), (6, .pointer (some ⟨b4, 0, none⟩)), (13, .slice axh_0 xh.length cxh_0), (14, .int .i64 (xh.length : Int)), (15, .int .i64 x15l11), (27, .bool true), (28, .pointer (some ⟨b4, 0, none⟩))] (by kernel_rfl) ?_
              refine Ok.opYes (j := 1) (d := 27) (want := true) (b := true) rfl (by kernel_rfl) (by kernel_rfl) rfl (OpOk.step (v := .int .i64 e3.1) (Yields.load 0 rfl rfl Try.underlying3 rfl (by kernel_rfl)) rfl rfl ?_)
              refine Ok.opYes (j := 1) (d := 27) (want := true) (b := true) rfl (by kernel_rfl) (by kernel_rfl) rfl (OpOk.callG (v := .bool (rbtM e3.1 0 3)) (enters (by kernel_rfl) (fun _ => by kernel_rfl)) (fun W hW => rbt_c e3.1 0 3) rfl ?_)
              refine Ok.batch 2 [(0, .slice axh_0 xh.length cxh_0), (3, .bool (x3l11 || (decide ((e3.2.2.length : Int) > 200)))), (6, .pointer (some ⟨b4, 0, none⟩)), (13, .slice axh_0 xh.length cxh_0), (14, .int .i64 (xh.length : Int)), (15, .int .i64 x15l11), (32, .bool (rbtM e3.1 0 3))] (by kernel_rfl) ?_
              refine Ok.boolAt 32 ((rbtM e3.1 0 3)) rfl (fun hc21 => ?_) (fun hc21 => ?_)
              · replace hF := hF.1 hc21
                refine Ok.batch 1 [(0, .slice axh_0 xh.length cxh_0), (3, .bool (x3l11 || (decide ((e3.2.2.length : Int) > 200)))), (6, .pointer (some ⟨b4, 0, none⟩)), (13, .slice axh_0 xh.length cxh_0), (14, .int .i64 (xh.length : Int)), (15, .int .i64 x15l11), (32, .bool true), (33, .pointer (some ⟨b4, 0, none⟩))] (by kernel_rfl) ?_
                refine Ok.opYes (j := 6) (d := 32) (want := true) (b := true) rfl (by kernel_rfl) (by kernel_rfl) rfl (OpOk.step (v := .int .i64 e3.1) (Yields.load 0 rfl rfl Try.underlying3 rfl (by kernel_rfl)) rfl rfl ?_)
                refine Ok.batch 2 [(0, .slice axh_0 xh.length cxh_0), (3, .bool (x3l11 || (decide ((e3.2.2.length : Int) > 200)))), (6, .pointer (some ⟨b4, 0, none⟩)), (13, .slice axh_0 xh.length cxh_0), (14, .int .i64 (xh.length : Int)), (15, .int .i64 x15l11), (32, .bool true), (36, .bool (e3.1 != 0))] (by kernel_rfl) ?_
                refine Ok.boolAt 36 ((e3.1 != 0)) rfl (fun hc22 => ?_) (fun hc22 => ?_)
                · replace hF := hF.1 hc22
                  refine Ok.batch 7 [(0, .slice axh_0 xh.length cxh_0), (3, .bool (x3l11 || (decide ((e3.2.2.length : Int) > 200)))), (4, .bool true), (6, .pointer (some ⟨b4, 0, none⟩)), (13, .slice axh_0 xh.length cxh_0), (14, .int .i64 (xh.length : Int)), (15, .int .i64 x15l11)] (by kernel_rfl) ?_
                  refine Ok.nil ?_
                  refine Ok.thenN ?_
                  refine Ok.reval 4 rfl (show (.bool true : Value) = .bool (rcrV5 e3 x4l11) from congrArg (Value.bool) ((Eq.trans ((Eq.trans (mor_t hc22) (mand_t hc21))) (mand_t hc20)))) ?_
                  exact fun a W hA hW => ⟨hA.sub (by kernel_rfl), hW, hF⟩
                · replace hF := hF.2 hc22
                  refine Ok.batch 1 [(0, .slice axh_0 xh.length cxh_0), (3, .bool (x3l11 || (decide ((e3.2.2.length : Int) > 200)))), (6, .pointer (some ⟨b4, 0, none⟩)), (13, .slice axh_0 xh.length cxh_0), (14, .int .i64 (xh.length : Int)), (15, .int .i64 x15l11), (32, .bool true), (36, .bool false), (37, .pointer (some ⟨b4, 2, none⟩))] (by kernel_rfl) ?_
                  refine Ok.opYes (j := 10) (d := 36) (want := false) (b := false) rfl (by kernel_rfl) (by kernel_rfl) rfl (OpOk.step (v := .slice a2_2 e3.2.2.length c2_2) (Yields.load 0 rfl rfl Try.underlying29 rfl (by kernel_rfl)) rfl rfl ?_)
                  refine Ok.batch 5 [(0, .slice axh_0 xh.length cxh_0), (3, .bool (x3l11 || (decide ((e3.2.2.length : Int) > 200)))), (4, .bool ((e3.2.2.length : Int) == 0)), (6, .pointer (some ⟨b4, 0, none⟩)), (13, .slice axh_0 xh.length cxh_0), (14, .int .i64 (xh.length : Int)), (15, .int .i64 x15l11)] (by kernel_rfl) ?_
                  refine Ok.nil ?_
                  refine Ok.thenN ?_
                  refine Ok.reval 4 rfl (show (.bool ((e3.2.2.length : Int) == 0) : Value) = .bool (rcrV5 e3 x4l11) from congrArg (Value.bool) ((Eq.trans ((Eq.trans (mor_f hc22) (mand_t hc21))) (mand_t hc20)))) ?_
                  exact fun a W hA hW => ⟨hA.sub (by kernel_rfl), hW, hF⟩
              · replace hF := hF.2 hc21
                refine Ok.batch 11 [(0, .slice axh_0 xh.length cxh_0), (3, .bool (x3l11 || (decide ((e3.2.2.length : Int) > 200)))), (4, .bool false), (6, .pointer (some ⟨b4, 0, none⟩)), (13, .slice axh_0 xh.length cxh_0), (14, .int .i64 (xh.length : Int)), (15, .int .i64 x15l11)] (by kernel_rfl) ?_
                refine Ok.nil ?_
                refine Ok.thenN ?_
                refine Ok.reval 4 rfl (show (.bool false : Value) = .bool (rcrV5 e3 x4l11) from congrArg (Value.bool) ((Eq.trans (mand_f hc21) (mand_t hc20)))) ?_
                exact fun a W hA hW => ⟨hA.sub (by kernel_rfl), hW, hF⟩
            · replace hF := hF.2 hc20
              refine Ok.batch 16 [(0, .slice axh_0 xh.length cxh_0), (3, .bool (x3l11 || (decide ((e3.2.2.length : Int) > 200)))), (4, .bool false), (6, .pointer (some ⟨b4, 0, none⟩)), (13, .slice axh_0 xh.length cxh_0), (14, .int .i64 (xh.length : Int)), (15, .int .i64 x15l11)] (by kernel_rfl) ?_
              refine Ok.nil ?_
              refine Ok.thenN ?_
              refine Ok.reval 4 rfl (show (.bool false : Value) = .bool (rcrV5 e3 x4l11) from congrArg (Value.bool) (mand_f hc20)) ?_
              exact fun a W hA hW => ⟨hA.sub (by kernel_rfl), hW, hF⟩
          ·
            clear hF
            rintro a W ⟨hA, hW, hF⟩
            refine (?_ : Ok _ _ _ _ _ _) a W hA hW
            clear hA hW
            refine Ok.cut (fun a W => StA 109 [(0, .slice axh_0 xh.length cxh_0), (3, .bool (x3l11 || (decide ((e3.2.2.length : Int) > 200)))), (4, .bool (rcrV6 e3 x4l11)), (6, .pointer (some ⟨b4, 0, none⟩)), (13, .slice axh_0 xh.length cxh_0), (14, .int .i64 (xh.length : Int)), (15, .int .i64 x15l11)] a ∧ StW w0 [.blk b4 (.cells #[.int .i64 e3.1, .slice a2_1 e3.2.1.length c2_1, .slice a2_2 e3.2.2.length c2_2] 72)] g W ∧ rcrj26 xh e3 x3l11 x4l11 x15l11 (rcrl11 xh K k11)) ?_ ?_
            ·
              refine Ok.seq ?_
              refine Ok.region ?_
              refine Ok.batch 1 [(0, .slice axh_0 xh.length cxh_0), (3, .bool (x3l11 || (decide ((e3.2.2.length : Int) > 200)))), (4, .bool (rcrV5 e3 x4l11)), (6, .pointer (some ⟨b4, 0, none⟩)), (13, .slice axh_0 xh.length cxh_0), (14, .int .i64 (xh.length : Int)), (15, .int .i64 x15l11), (43, .pointer (some ⟨b4, 0, none⟩))] (by kernel_rfl) ?_
              refine Ok.op rfl (OpOk.step (v := .int .i64 e3.1) (Yields.load 0 rfl rfl Try.underlying3 rfl (by kernel_rfl)) rfl rfl ?_)
              refine Ok.batch 1 [(0, .slice axh_0 xh.length cxh_0), (3, .bool (x3l11 || (decide ((e3.2.2.length : Int) > 200)))), (4, .bool (rcrV5 e3 x4l11)), (6, .pointer (some ⟨b4, 0, none⟩)), (13, .slice axh_0 xh.length cxh_0), (14, .int .i64 (xh.length : Int)), (15, .int .i64 x15l11), (45, .bool (e3.1 == 2))] (by kernel_rfl) ?_
              refine Ok.nil ?_
              refine Ok.thenN ?_
              refine Ok.cond (b := (e3.1 == 2)) rfl (fun hc17 => ?_) (fun hc17 => ?_)
              · replace hF := hF.1 hc17
                refine Ok.region ?_
                refine Ok.batch 2 [(0, .slice axh_0 xh.length cxh_0), (3, .bool (x3l11 || (decide ((e3.2.2.length : Int) > 200)))), (6, .pointer (some ⟨b4, 0, none⟩)), (13, .slice axh_0 xh.length cxh_0), (14, .int .i64 (xh.length : Int)), (15, .int .i64 x15l11), (47, .bool (rcrV5 e3 x4l11))] (by kernel_rfl) ?_
                refine Ok.boolAt 47 ((rcrV5 e3 x4l11)) rfl (fun hc18 => ?_) (fun hc18 => ?_)
                · replace hF := hF.1 hc18
                  refine Ok.batch 1 [(0, .slice axh_0 xh.length cxh_0), (3, .bool (x3l11 || (decide ((e3.2.2.length : Int) > 200)))), (6, .pointer (some ⟨b4, 0, none⟩)), (13, .slice axh_0 xh.length cxh_0), (14, .int .i64 (xh.length : Int)), (15, .int .i64 x15l11), (47, .bool true), (48, .pointer (some ⟨b4, 1, none⟩))] (by kernel_rfl) ?_
                  refine Ok.opYes (j := 1) (d := 47) (want := true) (b := true) rfl (by kernel_rfl) (by kernel_rfl) rfl (OpOk.step (v := .slice a2_1 e3.2.1.length c2_1) (Yields.load 0 rfl rfl Try.underlying70 rfl (by kernel_rfl)) rfl rfl ?_)
                  refine Ok.batch 2 [(0, .slice axh_0 xh.length cxh_0), (3, .bool (x3l11 || (decide ((e3.2.2.length : Int) > 200)))), (6, .pointer (some ⟨b4, 0, none⟩)), (13, .slice axh_0 xh.length cxh_0), (14, .int .i64 (xh.length : Int)), (15, .int .i64 x15l11), (47, .bool true), (50, .int .i64 (e3.2.1.length : Int)), (51, .pointer (some ⟨b4, 2, none⟩))] (by kernel_rfl) ?_
                  refine Ok.opYes (j := 1) (d := 47) (want := true) (b := true) rfl (by kernel_rfl) (by kernel_rfl) rfl (OpOk.step (v := .slice a2_2 e3.2.2.length c2_2) (Yields.load 0 rfl rfl Try.underlying29 rfl (by kernel_rfl)) rfl rfl ?_)
                  refine Ok.batch 4 [(0, .slice axh_0 xh.length cxh_0), (3, .bool (x3l11 || (decide ((e3.2.2.length : Int) > 200)))), (4, .bool ((e3.2.1.length : Int) == (e3.2.2.length : Int))), (6, .pointer (some ⟨b4, 0, none⟩)), (13, .slice axh_0 xh.length cxh_0), (14, .int .i64 (xh.length : Int)), (15, .int .i64 x15l11)] (by kernel_rfl) ?_
                  refine Ok.nil ?_
                  refine Ok.thenN ?_
                  refine Ok.reval 4 rfl (show (.bool ((e3.2.1.length : Int) == (e3.2.2.length : Int)) : Value) = .bool (rcrV6 e3 x4l11) from congrArg (Value.bool) ((Eq.trans (mand_t hc18) ((if_t hc17).symm)))) ?_
                  exact fun a W hA hW => ⟨hA.sub (by kernel_rfl), hW, hF⟩
                · replace hF := hF.2 hc18
                  refine Ok.batch 9 [(0, .slice axh_0 xh.length cxh_0), (3, .bool (x3l11 || (decide ((e3.2.2.length : Int) > 200)))), (4, .bool false), (6, .pointer (some ⟨b4, 0, none⟩)), (13, .slice axh_0 xh.length cxh_0), (14, .int .i64 (xh.length : Int)), (15, .int .i64 x15l11)] (by kernel_rfl) ?_
                  refine Ok.nil ?_
                  refine Ok.thenN ?_
                  refine Ok.reval 4 rfl (show (.bool false : Value) = .bool (rcrV6 e3 x4l11) from congrArg (Value.bool) ((Eq.trans (mand_f hc18) ((if_t hc17).symm)))) ?_
                  exact fun a W hA hW => ⟨hA.sub (by kernel_rfl), hW, hF⟩
              · replace hF := hF.2 hc17
                refine Ok.region ?_
                refine Ok.batch 2 [(0, .slice axh_0 xh.length cxh_0), (3, .bool (x3l11 || (decide ((e3.2.2.length : Int) > 200)))), (6, .pointer (some ⟨b4, 0, none⟩)), (13, .slice axh_0 xh.length cxh_0), (14, .int .i64 (xh.length : Int)), (15, .int .i64 x15l11), (57, .bool (rcrV5 e3 x4l11))] (by kernel_rfl) ?_
                refine Ok.boolAt 57 ((rcrV5 e3 x4l11)) rfl (fun hc19 => ?_) (fun hc19 => ?_)
                · replace hF := hF.1 hc19
                  refine Ok.batch 1 [(0, .slice axh_0 xh.length cxh_0), (3, .bool (x3l11 || (decide ((e3.2.2.length : Int) > 200)))), (6, .pointer (some ⟨b4, 0, none⟩)), (13, .slice axh_0 xh.length cxh_0), (14, .int .i64 (xh.length : Int)), (15, .int .i64 x15l11), (57, .bool true), (58, .pointer (some ⟨b4, 1, none⟩))] (by kernel_rfl) ?_
                  refine Ok.opYes (j := 1) (d := 57) (want := true) (b := true) rfl (by kernel_rfl) (by kernel_rfl) rfl (OpOk.step (v := .slice a2_1 e3.2.1.length c2_1) (Yields.load 0 rfl rfl Try.underlying70 rfl (by kernel_rfl)) rfl rfl ?_)
                  refine Ok.batch 4 [(0, .slice axh_0 xh.length cxh_0), (3, .bool (x3l11 || (decide ((e3.2.2.length : Int) > 200)))), (4, .bool ((e3.2.1.length : Int) == 0)), (6, .pointer (some ⟨b4, 0, none⟩)), (13, .slice axh_0 xh.length cxh_0), (14, .int .i64 (xh.length : Int)), (15, .int .i64 x15l11)] (by kernel_rfl) ?_
                  refine Ok.nil ?_
                  refine Ok.thenN ?_
                  refine Ok.reval 4 rfl (show (.bool ((e3.2.1.length : Int) == 0) : Value) = .bool (rcrV6 e3 x4l11) from congrArg (Value.bool) ((Eq.trans (mand_t hc19) ((if_f hc17).symm)))) ?_
                  exact fun a W hA hW => ⟨hA.sub (by kernel_rfl), hW, hF⟩
                · replace hF := hF.2 hc19
                  refine Ok.batch 6 [(0, .slice axh_0 xh.length cxh_0), (3, .bool (x3l11 || (decide ((e3.2.2.length : Int) > 200)))), (4, .bool false), (6, .pointer (some ⟨b4, 0, none⟩)), (13, .slice axh_0 xh.length cxh_0), (14, .int .i64 (xh.length : Int)), (15, .int .i64 x15l11)] (by kernel_rfl) ?_
                  refine Ok.nil ?_
                  refine Ok.thenN ?_
                  refine Ok.reval 4 rfl (show (.bool false : Value) = .bool (rcrV6 e3 x4l11) from congrArg (Value.bool) ((Eq.trans (mand_f hc19) ((if_f hc17).symm)))) ?_
                  exact fun a W hA hW => ⟨hA.sub (by kernel_rfl), hW, hF⟩
            ·
              clear hF
              rintro a W ⟨hA, hW, hF⟩
              refine (?_ : Ok _ _ _ _ _ _) a W hA hW
              clear hA hW
              refine Ok.seq ?_
              refine Ok.seq ?_
              refine Ok.region ?_
              refine Ok.batch 1 [(0, .slice axh_0 xh.length cxh_0), (3, .bool (x3l11 || (decide ((e3.2.2.length : Int) > 200)))), (4, .bool (rcrV6 e3 x4l11)), (6, .pointer (some ⟨b4, 0, none⟩)), (13, .slice axh_0 xh.length cxh_0), (14, .int .i64 (xh.length : Int)), (15, .int .i64 x15l11), (63, .pointer (some ⟨b4, 1, none⟩))] (by kernel_rfl) ?_
              refine Ok.op rfl (OpOk.step (v := .slice a2_1 e3.2.1.length c2_1) (Yields.load 0 rfl rfl Try.underlying70 rfl (by kernel_rfl)) rfl rfl ?_)
              refine Ok.batch 2 [(0, .slice axh_0 xh.length cxh_0), (3, .bool (x3l11 || (decide ((e3.2.2.length : Int) > 200)))), (4, .bool (rcrV6 e3 x4l11)), (6, .pointer (some ⟨b4, 0, none⟩)), (13, .slice axh_0 xh.length cxh_0), (14, .int .i64 (xh.length : Int)), (15, .int .i64 x15l11), (65, .int .i64 (e3.2.1.length : Int)), (66, .int .i64 0)] (by kernel_rfl) ?_
              refine Ok.nil ?_
              refine Ok.thenN ?_
              refine Ok.block ?_
              obtain ⟨k, hF⟩ := hF
              refine Ok.loop (fun k a W => ∃ (x4l36 : Bool) (x66l36 : Int), StA 109 [(0, .slice axh_0 xh.length cxh_0), (3, .bool (x3l11 || (decide ((e3.2.2.length : Int) > 200)))), (4, .bool x4l36), (6, .pointer (some ⟨b4, 0, none⟩)), (13, .slice axh_0 xh.length cxh_0), (14, .int .i64 (xh.length : Int)), (15, .int .i64 x15l11), (65, .int .i64 (e3.2.1.length : Int)), (66, .int .i64 x66l36)] a ∧ StW w0 [.blk b4 (.cells #[.int .i64 e3.1, .slice a2_1 e3.2.1.length c2_1, .slice a2_2 e3.2.2.length c2_2] 72)] g W ∧ rcrl36 xh e3 x3l11 x15l11 (rcrl11 xh K k11) k x4l36 x66l36) k ?_ ?_
              ·
                exact fun a W hA hW => ⟨(rcrV6 e3 x4l11), 0, hA.sub (by kernel_rfl), hW, hF⟩
              ·
                clear hF
                rintro k36 a W ⟨x4l36, x66l36, hA, hW, hF⟩
                cases k36 with
                | zero => exact (hF : False).elim
                | succ k36 =>
                  refine (?_ : Ok _ _ _ _ _ _) a W hA hW
                  clear hA hW
                  refine Ok.seq ?_
                  refine Ok.region ?_
                  refine Ok.batch 1 [(0, .slice axh_0 xh.length cxh_0), (3, .bool (x3l11 || (decide ((e3.2.2.length : Int) > 200)))), (4, .bool x4l36), (6, .pointer (some ⟨b4, 0, none⟩)), (13, .slice axh_0 xh.length cxh_0), (14, .int .i64 (xh.length : Int)), (15, .int .i64 x15l11), (65, .int .i64 (e3.2.1.length : Int)), (66, .int .i64 x66l36), (67, .bool (decide (x66l36 < (e3.2.1.length : Int))))] (by kernel_rfl) ?_
                  refine Ok.nil ?_
                  refine Ok.thenN ?_
                  refine Ok.seq ?_
                  refine Ok.cond (b := decide (x66l36 < (e3.2.1.length : Int))) rfl (fun hc5 => ?_) (fun hc5 => ?_)
                  · replace hF := hF.1 hc5
                    refine Ok.skip ?_
                    refine Ok.thenN ?_
                    refine Ok.cut (fun a W => StA 109 [(0, .slice axh_0 xh.length cxh_0), (3, .bool (x3l11 || (decide ((e3.2.2.length : Int) > 200)))), (4, .bool (rcrV4 e3 x66l36 x4l36)), (6, .pointer (some ⟨b4, 0, none⟩)), (13, .slice axh_0 xh.length cxh_0), (14, .int .i64 (xh.length : Int)), (15, .int .i64 x15l11), (65, .int .i64 (e3.2.1.length : Int)), (66, .int .i64 x66l36)] a ∧ StW w0 [.blk b4 (.cells #[.int .i64 e3.1, .slice a2_1 e3.2.1.length c2_1, .slice a2_2 e3.2.2.length c2_2] 72)] g W ∧ rcrj43 e3 x66l36 x4l36 (rcrl36 xh e3 x3l11 x15l11 (rcrl11 xh K k11) k36)) ?_ ?_
                    ·
                      refine Ok.block ?_
                      refine Ok.seq ?_
                      refine Ok.region ?_
                      refine Ok.batch 2 [(0, .slice axh_0 xh.length cxh_0), (3, .bool (x3l11 || (decide ((e3.2.2.length : Int) > 200)))), (4, .bool x4l36), (6, .pointer (some ⟨b4, 0, none⟩)), (7, .int .i64 x66l36), (13, .slice axh_0 xh.length cxh_0), (14, .int .i64 (xh.length : Int)), (15, .int .i64 x15l11), (65, .int .i64 (e3.2.1.length : Int)), (66, .int .i64 x66l36)] (by kernel_rfl) ?_
                      refine Ok.nil ?_
                      refine Ok.thenN ?_
                      refine Ok.quiet' (by kernel_rfl) (by kernel_rfl) ?_
                      refine OkQ.batch 2 [(0, .slice axh_0 xh.length cxh_0), (3, .bool (x3l11 || (decide ((e3.2.2.length : Int) > 200)))), (6, .pointer (some ⟨b4, 0, none⟩)), (7, .int .i64 x66l36), (13, .slice axh_0 xh.length cxh_0), (14, .int .i64 (xh.length : Int)), (15, .int .i64 x15l11), (65, .int .i64 (e3.2.1.length : Int)), (66, .int .i64 x66l36), (70, .bool x4l36)] (by kernel_rfl) ?_
                      refine OkQ.boolAt 70 (x4l36) rfl (fun hc6 => ?_) (fun hc6 => ?_)
                      · replace hF := hF.1 hc6
                        refine OkQ.batch 3 [(0, .slice axh_0 xh.length cxh_0), (3, .bool (x3l11 || (decide ((e3.2.2.length : Int) > 200)))), (6, .pointer (some ⟨b4, 0, none⟩)), (7, .int .i64 x66l36), (13, .slice axh_0 xh.length cxh_0), (14, .int .i64 (xh.length : Int)), (15, .int .i64 x15l11), (65, .int .i64 (e3.2.1.length : Int)), (66, .int .i64 x66l36), (70, .bool true), (73, .bool (x66l36 == 0))] (by kernel_rfl) ?_
                        refine OkQ.boolAt 73 ((x66l36 == 0)) rfl (fun hc7 => ?_) (fun hc7 => ?_)
                        · replace hF := hF.1 hc7
                          refine OkQ.batch 15 [(0, .slice axh_0 xh.length cxh_0), (3, .bool (x3l11 || (decide ((e3.2.2.length : Int) > 200)))), (4, .bool true), (6, .pointer (some ⟨b4, 0, none⟩)), (13, .slice axh_0 xh.length cxh_0), (14, .int .i64 (xh.length : Int)), (15, .int .i64 x15l11), (65, .int .i64 (e3.2.1.length : Int)), (66, .int .i64 x66l36)] (by kernel_rfl) ?_
                          refine OkQ.nil ?_
                          refine Ok.blockN ?_
                          refine Ok.thenN ?_
                          refine Ok.reval 4 rfl (show (.bool true : Value) = .bool (rcrV4 e3 x66l36 x4l36) from congrArg (Value.bool) ((Eq.trans (mor_t hc7) (mand_t hc6)))) ?_
                          exact fun a W hA hW => ⟨hA.sub (by kernel_rfl), hW, hF⟩
                        · replace hF := hF.2 hc7
                          refine OkQ.batch 1 [(0, .slice axh_0 xh.length cxh_0), (3, .bool (x3l11 || (decide ((e3.2.2.length : Int) > 200)))), (6, .pointer (some ⟨b4, 0, none⟩)), (7, .int .i64 x66l36), (13, .slice axh_0 xh.length cxh_0), (14, .int .i64 (xh.length : Int)), (15, .int .i64 x15l11), (65, .int .i64 (e3.2.1.length : Int)), (66, .int .i64 x66l36), (70, .bool true), (73, .bool false), (74, .pointer (some ⟨b4, 1, none⟩))] (by kernel_rfl) ?_
                          refine OkQ.opYes (j := 4) (d := 73) (want := false) (b := false) rfl (by kernel_rfl) (by kernel_rfl) rfl (OpQ.step (v := .slice a2_1 e3.2.1.length c2_1) (Yields.load 0 rfl rfl Try.underlying70 rfl (by kernel_rfl)) rfl rfl ?_)
                          refine OkQ.batch 2 [(0, .slice axh_0 xh.length cxh_0), (3, .bool (x3l11 || (decide ((e3.2.2.length : Int) > 200)))), (6, .pointer (some ⟨b4, 0, none⟩)), (7, .int .i64 x66l36), (13, .slice axh_0 xh.length cxh_0), (14, .int .i64 (xh.length : Int)), (15, .int .i64 x15l11), (65, .int .i64 (e3.2.1.length : Int)), (66, .int .i64 x66l36), (70, .bool true), (73, .bool false), (75, .slice a2_1 e3.2.1.length c2_1), (77, .int .i64 (IntKind.wrap .i64 (x66l36 - 1)))] (by kernel_rfl) ?_
                          obtain ⟨h09, h19, hF⟩ := hF
                          have he9 := get_of (l := e3.2.1) (default : List UInt8) h19
                          generalize hg9 : (e3.2.1.getD (Int.toNat (IntKind.wrap .i64 (x66l36 - 1))) default) = e9 at he9 hF ⊢
                          refine OkQ.opYes (j := 4) (d := 73) (want := false) (b := false) rfl (by kernel_rfl) (by kernel_rfl) rfl (OpQ.indexRo (e := .str) (i := IntKind.wrap .i64 (x66l36 - 1)) (el := e9) rfl rfl Try.underlying70 (by kernel_rfl) hR2_1 h09 he9 rfl fun q8 o8 cs8 _ hat8 hr8 => ?_)
                          obtain rfl := hr8
                          replace hat8 : At g q8 o8 [.string ⟨⟨e9⟩⟩] := hat8
                          refine OkQ.opYes (j := 4) (d := 73) (want := false) (b := false) rfl (by kernel_rfl) (by kernel_rfl) rfl (OpQ.step (v := .string ⟨⟨e9⟩⟩) (Yields.loadRo 0 hat8 (by kernel_rfl) Try.underlying9 rfl (by kernel_rfl)) rfl rfl ?_)
                          refine OkQ.batch 1 [(0, .slice axh_0 xh.length cxh_0), (3, .bool (x3l11 || (decide ((e3.2.2.length : Int) > 200)))), (6, .pointer (some ⟨b4, 0, none⟩)), (7, .int .i64 x66l36), (13, .slice axh_0 xh.length cxh_0), (14, .int .i64 (xh.length : Int)), (15, .int .i64 x15l11), (65, .int .i64 (e3.2.1.length : Int)), (66, .int .i64 x66l36), (70, .bool true), (73, .bool false), (79, .string ⟨⟨e9⟩⟩), (80, .pointer (some ⟨b4, 1, none⟩))] (by kernel_rfl) ?_
                          refine OkQ.opYes (j := 4) (d := 73) (want := false) (b := false) rfl (by kernel_rfl) (by kernel_rfl) rfl (OpQ.step (v := .slice a2_1 e3.2.1.length c2_1) (Yields.load 0 rfl rfl Try.underlying70 rfl (by kernel_rfl)) rfl rfl ?_)
                          refine OkQ.batch 1 [(0, .slice axh_0 xh.length cxh_0), (3, .bool (x3l11 || (decide ((e3.2.2.length : Int) > 200)))), (6, .pointer (some ⟨b4, 0, none⟩)), (13, .slice axh_0 xh.length cxh_0), (14, .int .i64 (xh.length : Int)), (15, .int .i64 x15l11), (65, .int .i64 (e3.2.1.length : Int)), (66, .int .i64 x66l36), (70, .bool true), (73, .bool false), (79, .string ⟨⟨e9⟩⟩), (81, .slice a2_1 e3.2.1.length c2_1), (82, .int .i64 x66l36)] (by kernel_rfl) ?_
                          obtain ⟨h011, h111, hF⟩ := hF
                          have he11 := get_of (l := e3.2.1) (default : List UInt8) h111
                          generalize hg11 : (e3.2.1.getD (Int.toNat x66l36) default) = e11 at he11 hF ⊢
                          refine OkQ.opYes (j := 4) (d := 73) (want := false) (b := false) rfl (by kernel_rfl) (by kernel_rfl) rfl (OpQ.indexRo (e := .str) (i := x66l36) (el := e11) rfl rfl Try.underlying70 (by kernel_rfl) hR2_1 h011 he11 rfl fun q10 o10 cs10 _ hat10 hr10 => ?_)
                          obtain rfl := hr10
                          replace hat10 : At g q10 o10 [.string ⟨⟨e11⟩⟩] := hat10
                          refine OkQ.opYes (j := 4) (d := 73) (want := false) (b := false) rfl (by kernel_rfl) (by kernel_rfl) rfl (OpQ.step (v := .string ⟨⟨e11⟩⟩) (Yields.loadRo 0 hat10 (by kernel_rfl) Try.underlying9 rfl (by kernel_rfl)) rfl rfl ?_)
                          refine OkQ.opYes (j := 4) (d := 73) (want := false) (b := false) rfl (by kernel_rfl) (by kernel_rfl) rfl (OpQ.step (v := .bool (Op.bytesLess e9 e11)) (Yields.strCmp (f := .lss) (a := e9) (b := e11) (by kernel_rfl) (by kernel_rfl) rfl) rfl rfl ?_)
                          refine OkQ.batch 3 [(0, .slice axh_0 xh.length cxh_0), (3, .bool (x3l11 || (decide ((e3.2.2.length : Int) > 200)))), (4, .bool (Op.bytesLess e9 e11)), (6, .pointer (some ⟨b4, 0, none⟩)), (13, .slice axh_0 xh.length cxh_0), (14, .int .i64 (xh.length : Int)), (15, .int .i64 x15l11), (65, .int .i64 (e3.2.1.length : Int)), (66, .int .i64 x66l36)] (by kernel_rfl) ?_
                          refine OkQ.nil ?_
                          refine Ok.blockN ?_
                          refine Ok.thenN ?_
                          subst hg11
                          subst hg9
                          refine Ok.reval 4 rfl (show (.bool (Op.bytesLess (e3.2.1.getD (Int.toNat (IntKind.wrap .i64 (x66l36 - 1))) default) (e3.2.1.getD (Int.toNat x66l36) default)) : Value) = .bool (rcrV4 e3 x66l36 x4l36) from congrArg (Value.bool) ((Eq.trans (mor_f hc7) (mand_t hc6)))) ?_
                          exact fun a W hA hW => ⟨hA.sub (by kernel_rfl), hW, hF⟩
                      · replace hF := hF.2 hc6
                        refine OkQ.batch 18 [(0, .slice axh_0 xh.length cxh_0), (3, .bool (x3l11 || (decide ((e3.2.2.length : Int) > 200)))), (4, .bool false), (6, .pointer (some ⟨b4, 0, none⟩)), (13, .slice axh_0 xh.length cxh_0), (14, .int .i64 (xh.length : Int)), (15, .int .i64 x15l11), (65, .int .i64 (e3.2.1.length : Int)), (66, .int .i64 x66l36)] (by kernel_rfl) ?_
                        refine OkQ.nil ?_
                        refine Ok.blockN ?_
                        refine Ok.thenN ?_
                        refine Ok.reval 4 rfl (show (.bool false : Value) = .bool (rcrV4 e3 x66l36 x4l36) from congrArg (Value.bool) (mand_f hc6)) ?_
                        exact fun a W hA hW => ⟨hA.sub (by kernel_rfl), hW, hF⟩
                    ·
                      clear hF
                      rintro a W ⟨hA, hW, hF⟩
                      refine (?_ : Ok _ _ _ _ _ _) a W hA hW
                      clear hA hW
                      refine Ok.region ?_
                      refine Ok.batch 2 [(0, .slice axh_0 xh.length cxh_0), (3, .bool (x3l11 || (decide ((e3.2.2.length : Int) > 200)))), (4, .bool (rcrV4 e3 x66l36 x4l36)), (6, .pointer (some ⟨b4, 0, none⟩)), (13, .slice axh_0 xh.length cxh_0), (14, .int .i64 (xh.length : Int)), (15, .int .i64 x15l11), (65, .int .i64 (e3.2.1.length : Int)), (66, .int .i64 (IntKind.wrap .i64 (x66l36 + 1)))] (by kernel_rfl) ?_
                      refine Ok.nil ?_
                      refine Ok.thenN ?_
                      exact fun a W hA hW => ⟨k36, Nat.lt_succ_self _, (rcrV4 e3 x66l36 x4l36), IntKind.wrap .i64 (x66l36 + 1), hA.sub (by kernel_rfl), hW, hF⟩
                  · replace hF := hF.2 hc5
                    refine Ok.exit ?_
                    refine Ok.thenE ?_
                    refine Ok.thenE ?_
                    refine Ok.blockHit ?_
                    refine Ok.thenN ?_
                    refine Ok.seq ?_
                    refine Ok.region ?_
                    refine Ok.batch 1 [(0, .slice axh_0 xh.length cxh_0), (3, .bool (x3l11 || (decide ((e3.2.2.length : Int) > 200)))), (4, .bool x4l36), (13, .slice axh_0 xh.length cxh_0), (14, .int .i64 (xh.length : Int)), (15, .int .i64 x15l11), (89, .pointer (some ⟨b4, 2, none⟩))] (by kernel_rfl) ?_
                    refine Ok.op rfl (OpOk.step (v := .slice a2_2 e3.2.2.length c2_2) (Yields.load 0 rfl rfl Try.underlying29 rfl (by kernel_rfl)) rfl rfl ?_)
                    refine Ok.batch 2 [(0, .slice axh_0 xh.length cxh_0), (3, .bool (x3l11 || (decide ((e3.2.2.length : Int) > 200)))), (4, .bool x4l36), (13, .slice axh_0 xh.length cxh_0), (14, .int .i64 (xh.length : Int)), (15, .int .i64 x15l11), (90, .slice a2_2 e3.2.2.length c2_2), (91, .int .i64 (e3.2.2.length : Int)), (92, .int .i64 0)] (by kernel_rfl) ?_
                    refine Ok.nil ?_
                    refine Ok.thenN ?_
                    refine Ok.block ?_
                    obtain ⟨k, hF⟩ := hF
                    refine Ok.loop (fun k a W => ∃ (x4l52 : Bool) (x92l52 : Int), StA 109 [(0, .slice axh_0 xh.length cxh_0), (3, .bool (x3l11 || (decide ((e3.2.2.length : Int) > 200)))), (4, .bool x4l52), (13, .slice axh_0 xh.length cxh_0), (14, .int .i64 (xh.length : Int)), (15, .int .i64 x15l11), (90, .slice a2_2 e3.2.2.length c2_2), (91, .int .i64 (e3.2.2.length : Int)), (92, .int .i64 x92l52)] a ∧ StW w0 [] g W ∧ rcrl52 xh e3 x3l11 x15l11 (rcrl11 xh K k11) k x4l52 x92l52) k ?_ ?_
                    ·
                      exact fun a W hA hW => ⟨x4l36, 0, hA.sub (by kernel_rfl), hW.sub (.cons _ .slnil), hF⟩
                    ·
                      clear hF
                      rintro k52 a W ⟨x4l52, x92l52, hA, hW, hF⟩
                      cases k52 with
                      | zero => exact (hF : False).elim
                      | succ k52 =>
                        refine (?_ : Ok _ _ _ _ _ _) a W hA hW
                        clear hA hW
                        refine Ok.seq ?_
                        refine Ok.region ?_
                        refine Ok.batch 1 [(0, .slice axh_0 xh.length cxh_0), (3, .bool (x3l11 || (decide ((e3.2.2.length : Int) > 200)))), (4, .bool x4l52), (13, .slice axh_0 xh.length cxh_0), (14, .int .i64 (xh.length : Int)), (15, .int .i64 x15l11), (90, .slice a2_2 e3.2.2.length c2_2), (91, .int .i64 (e3.2.2.length : Int)), (92, .int .i64 x92l52), (93, .bool (decide (x92l52 < (e3.2.2.length : Int))))] (by kernel_rfl) ?_
                        refine Ok.nil ?_
                        refine Ok.thenN ?_
                        refine Ok.seq ?_
                        refine Ok.cond (b := decide (x92l52 < (e3.2.2.length : Int))) rfl (fun hc12 => ?_) (fun hc12 => ?_)
                        · replace hF := hF.1 hc12
                          refine Ok.skip ?_
                          refine Ok.thenN ?_
                          refine Ok.cut (fun a W => StA 109 [(0, .slice axh_0 xh.length cxh_0), (3, .bool (x3l11 || (decide ((e3.2.2.length : Int) > 200)))), (4, .bool (rcrV8 xh e3 x4l52 x92l52)), (13, .slice axh_0 xh.length cxh_0), (14, .int .i64 (xh.length : Int)), (15, .int .i64 x15l11), (90, .slice a2_2 e3.2.2.length c2_2), (91, .int .i64 (e3.2.2.length : Int)), (92, .int .i64 x92l52)] a ∧ StW w0 [] g W ∧ rcrj59 xh e3 x4l52 x92l52 (rcrl52 xh e3 x3l11 x15l11 (rcrl11 xh K k11) k52)) ?_ ?_
                          ·
                            refine Ok.block ?_
                            refine Ok.seq ?_
                            refine Ok.region ?_
                            obtain ⟨h014, h114, hF⟩ := hF
                            have he14 := get_of (l := e3.2.2) (default : JV) h114
                            generalize hg14 : (e3.2.2.getD (Int.toNat x92l52) default) = e14 at he14 hF ⊢
                            refine Ok.op rfl (OpOk.indexRo (e := .pair (.int .i64) (.pair (.int .i64) (.str))) (i := x92l52) (el := e14) rfl rfl Try.underlying29 (by kernel_rfl) hR2_2 h014 he14 rfl fun q13 o13 cs13 _ hat13 hr13 => ?_)
                            obtain ⟨_, _, rfl, rfl, ⟨_, _, rfl, rfl, rfl⟩⟩ := hr13
                            replace hat13 : At g q13 o13 [.int .i64 e14.1, .int .i64 e14.2.1, .string ⟨⟨e14.2.2⟩⟩] := hat13
                            refine Ok.op rfl (OpOk.step (v := .agg #[.int .i64 e14.1, .int .i64 e14.2.1, .string ⟨⟨e14.2.2⟩⟩]) (Yields.loadAggRo 0 3 #[.int .i64 e14.1, .int .i64 e14.2.1, .string ⟨⟨e14.2.2⟩⟩] hat13 (by kernel_rfl) Try.underlying24 rfl (by kernel_rfl) (by kernel_rfl) (by kernel_rfl)) rfl rfl ?_)
                            refine Ok.op rfl (OpOk.alloc (z := .agg #[.int .i64 0, .int .i64 0, .string ⟨⟨([] : List UInt8)⟩⟩]) (cs := #[.int .i64 0, .int .i64 0, .string ⟨⟨([] : List UInt8)⟩⟩]) (by kernel_rfl) (by kernel_rfl) rfl fun b15 => ?_)
                            refine Ok.op rfl (OpOk.store (k := 3) (v := .agg #[.int .i64 e14.1, .int .i64 e14.2.1, .string ⟨⟨e14.2.2⟩⟩]) (H' := [.blk b15 (.cells #[.int .i64 e14.1, .int .i64 e14.2.1, .string ⟨⟨e14.2.2⟩⟩] 24)]) 0 rfl rfl rfl (by kernel_rfl) (by kernel_rfl) (by kernel_rfl) (by kernel_rfl) (by kernel_rfl) ?_)
                            refine Ok.nil ?_
                            refine Ok.thenN ?_
                            refine Ok.region ?_
                            refine Ok.batch 2 [(0, .slice axh_0 xh.length cxh_0), (3, .bool (x3l11 || (decide ((e3.2.2.length : Int) > 200)))), (9, .pointer (some ⟨b15, 0, none⟩)), (13, .slice axh_0 xh.length cxh_0), (14, .int .i64 (xh.length : Int)), (15, .int .i64 x15l11), (90, .slice a2_2 e3.2.2.length c2_2), (91, .int .i64 (e3.2.2.length : Int)), (92, .int .i64 x92l52), (97, .bool x4l52)] (by kernel_rfl) ?_
                            refine Ok.boolAt 97 (x4l52) rfl (fun hc16 => ?_) (fun hc16 => ?_)
                            · replace hF := hF.1 hc16
                              refine Ok.batch 1 [(0, .slice axh_0 xh.length cxh_0), (3, .bool (x3l11 || (decide ((e3.2.2.length : Int) > 200)))), (9, .pointer (some ⟨b15, 0, none⟩)), (13, .slice axh_0 xh.length cxh_0), (14, .int .i64 (xh.length : Int)), (15, .int .i64 x15l11), (90, .slice a2_2 e3.2.2.length c2_2), (91, .int .i64 (e3.2.2.length : Int)), (92, .int .i64 x92l52), (97, .bool true), (98, .slice axh_0 xh.length cxh_0)] (by kernel_rfl) ?_
                              refine Ok.opYes (j := 1) (d := 97) (want := true) (b := true) rfl (by kernel_rfl) (by kernel_rfl) rfl (OpOk.step (v := .agg #[.int .i64 e14.1, .int .i64 e14.2.1, .string ⟨⟨e14.2.2⟩⟩]) (Yields.loadAgg 0 3 #[.int .i64 e14.1, .int .i64 e14.2.1, .string ⟨⟨e14.2.2⟩⟩] rfl rfl Try.underlying24 rfl (by kernel_rfl) (by kernel_rfl) (by kernel_rfl)) rfl rfl ?_)
                              refine Ok.opYes (j := 1) (d := 97) (want := true) (b := true) rfl (by kernel_rfl) (by kernel_rfl) rfl (OpOk.callG (v := .bool (hfitS xh e14)) (enters (by kernel_rfl) (fun _ => by kernel_rfl)) (fun W hW => rvi_c xh e14 (hRxh_0.mono hW.sees)) rfl ?_)
                              refine Ok.batch 2 [(0, .slice axh_0 xh.length cxh_0), (3, .bool (x3l11 || (decide ((e3.2.2.length : Int) > 200)))), (4, .bool (hfitS xh e14)), (13, .slice axh_0 xh.length cxh_0), (14, .int .i64 (xh.length : Int)), (15, .int .i64 x15l11), (90, .slice a2_2 e3.2.2.length c2_2), (91, .int .i64 (e3.2.2.length : Int)), (92, .int .i64 x92l52)] (by kernel_rfl) ?_
                              refine Ok.nil ?_
                              refine Ok.blockN ?_
                              refine Ok.thenN ?_
                              subst hg14
                              refine Ok.reval 4 rfl (show (.bool (hfitS xh (e3.2.2.getD (Int.toNat x92l52) default)) : Value) = .bool (rcrV8 xh e3 x4l52 x92l52) from congrArg (Value.bool) (mand_t hc16)) ?_
                              exact fun a W hA hW => ⟨hA.sub (by kernel_rfl), hW.sub (.cons _ .slnil), hF⟩
                            · replace hF := hF.2 hc16
                              refine Ok.batch 5 [(0, .slice axh_0 xh.length cxh_0), (3, .bool (x3l11 || (decide ((e3.2.2.length : Int) > 200)))), (4, .bool false), (13, .slice axh_0 xh.length cxh_0), (14, .int .i64 (xh.length : Int)), (15, .int .i64 x15l11), (90, .slice a2_2 e3.2.2.length c2_2), (91, .int .i64 (e3.2.2.length : Int)), (92, .int .i64 x92l52)] (by kernel_rfl) ?_
                              refine Ok.nil ?_
                              refine Ok.blockN ?_
                              refine Ok.thenN ?_
                              subst hg14
                              refine Ok.reval 4 rfl (show (.bool false : Value) = .bool (rcrV8 xh e3 x4l52 x92l52) from congrArg (Value.bool) (mand_f hc16)) ?_
                              exact fun a W hA hW => ⟨hA.sub (by kernel_rfl), hW.sub (.cons _ .slnil), hF⟩
                          ·
                            clear hF
                            rintro a W ⟨hA, hW, hF⟩
                            refine (?_ : Ok _ _ _ _ _ _) a W hA hW
                            clear hA hW
                            refine Ok.region ?_
                            refine Ok.batch 2 [(0, .slice axh_0 xh.length cxh_0), (3, .bool (x3l11 || (decide ((e3.2.2.length : Int) > 200)))), (4, .bool (rcrV8 xh e3 x4l52 x92l52)), (13, .slice axh_0 xh.length cxh_0), (14, .int .i64 (xh.length : Int)), (15, .int .i64 x15l11), (90, .slice a2_2 e3.2.2.length c2_2), (91, .int .i64 (e3.2.2.length : Int)), (92, .int .i64 (IntKind.wrap .i64 (x92l52 + 1)))] (by kernel_rfl) ?_
                            refine Ok.nil ?_
                            refine Ok.thenN ?_
                            exact fun a W hA hW => ⟨k52, Nat.lt_succ_self _, (rcrV8 xh e3 x4l52 x92l52), IntKind.wrap .i64 (x92l52 + 1), hA.sub (by kernel_rfl), hW, hF⟩
                        · replace hF := hF.2 hc12
                          refine Ok.exit ?_
                          refine Ok.thenE ?_
                          refine Ok.thenE ?_
                          refine Ok.blockHit ?_
                          refine Ok.blockN ?_
                          refine Ok.thenN ?_
                          refine Ok.region ?_
                          refine Ok.batch 2 [(0, .slice axh_0 xh.length cxh_0), (3, .bool (x3l11 || (decide ((e3.2.2.length : Int) > 200)))), (4, .bool x4l52), (13, .slice axh_0 xh.length cxh_0), (14, .int .i64 (xh.length : Int)), (15, .int .i64 (IntKind.wrap .i64 (x15l11 + 1)))] (by kernel_rfl) ?_
                          refine Ok.nil ?_
                          refine Ok.thenN ?_
                          subst hg3
                          exact fun a W hA hW => ⟨k11, Nat.lt_succ_self _, (x3l11 || (decide (((xh.getD (Int.toNat x15l11) default).2.2.length : Int) > 200))), x4l52, IntKind.wrap .i64 (x15l11 + 1), hA.sub (by kernel_rfl), hW, hF⟩
      · replace hF := hF.2 hc1
        refine Ok.exit ?_
        refine Ok.thenE ?_
        refine Ok.thenE ?_
        refine Ok.blockHit ?_
        refine Ok.thenN ?_
        refine Ok.seq ?_
        refine Ok.block ?_
        refine Ok.seq ?_
        refine Ok.region ?_
        refine Ok.batch 2 [(4, .bool x4l11), (104, .bool x3l11)] (by kernel_rfl) ?_
        refine Ok.nil ?_
        refine Ok.thenN ?_
        refine Ok.cond (b := x3l11) rfl (fun hc24 => ?_) (fun hc24 => ?_)
        · replace hF := hF.1 hc24
          refine Ok.seq ?_
          refine Ok.region ?_
          refine Ok.batch 1 [(2, .int .i64 2)] (by kernel_rfl) ?_
          refine Ok.nil ?_
          refine Ok.thenN ?_
          refine Ok.ret ?_
          refine Ok.blockR ?_
          refine Ok.thenR ?_
          exact Ok.resH (vs := [.int .i64 2]) (.inl rfl) rfl (.cons (.tmp rfl) .nil) (Gext.refl w0 g) ⟨2, rfl, rfl, hF⟩
        · replace hF := hF.2 hc24
          refine Ok.seq ?_
          refine Ok.region ?_
          refine Ok.batch 3 [(106, .bool (!x4l11))] (by kernel_rfl) ?_
          refine Ok.nil ?_
          refine Ok.thenN ?_
          refine Ok.cond (b := !x4l11) rfl (fun hc25 => ?_) (fun hc25 => ?_)
          · replace hF := hF.1 hc25
            refine Ok.seq ?_
            refine Ok.region ?_
            refine Ok.batch 1 [(2, .int .i64 3)] (by kernel_rfl) ?_
            refine Ok.nil ?_
            refine Ok.thenN ?_
            refine Ok.ret ?_
            refine Ok.blockR ?_
            refine Ok.thenR ?_
            exact Ok.resH (vs := [.int .i64 3]) (.inl rfl) rfl (.cons (.tmp rfl) .nil) (Gext.refl w0 g) ⟨3, rfl, rfl, hF⟩
          · replace hF := hF.2 hc25
            refine Ok.skip ?_
            refine Ok.blockN ?_
            refine Ok.thenN ?_
            refine Ok.seq ?_
            refine Ok.region ?_
            refine Ok.batch 1 [(2, .int .i64 0)] (by kernel_rfl) ?_
            refine Ok.nil ?_
            refine Ok.thenN ?_
            refine Ok.ret ?_
            exact Ok.resH (vs := [.int .i64 0]) (.inl rfl) rfl (.cons (.tmp rfl) .nil) (Gext.refl w0 g) ⟨0, rfl, rfl, hF⟩
def risAt (l : List (List UInt8)) (i : Nat) : Bool := (i == 0) || Op.bytesLess (l.getD (i - 1) default) (l.getD i default)
theorem ris_range (l : List (List UInt8)) : ∀ (k i : Nat), i + k = l.length → (∀ j, j < i → risAt l j = true) → ((∀ j, j < l.length → risAt l j = true) ↔ hrisS l = true) := by
  have key : ∀ (l : List (List UInt8)), hrisS l = true ↔ ∀ j, j < l.length → risAt l j = true := by
    intro l
    have gen : ∀ (k i : Nat), i + 1 + k = l.length → (hrisS (l.drop i) = true ↔ ∀ j, i < j → j < l.length → risAt l j = true) := by
      intro k
      induction k with
      | zero =>
        intro i h
        constructor
        · intro _ j h1 h2; omega
        · intro _; exact ris_short (by rw [List.length_drop]; omega)
      | succ k ih =>
        intro i h
        rw [ris_drop (by omega), Bool.and_eq_true, ih (i + 1) (by omega)]
        constructor
        · rintro ⟨h1, h2⟩ j hj1 hj2
          by_cases he : j = i + 1
          · subst he
            unfold risAt
            rw [Nat.add_sub_cancel, h1, Bool.or_true]
          · exact h2 j (by omega) hj2
        · intro hx
          refine ⟨?_, fun j h1 h2 => hx j (by omega) h2⟩
          have := hx (i + 1) (by omega) (by omega)
          unfold risAt at this
          rw [Nat.add_sub_cancel, Bool.or_eq_true] at this
          rcases this with h | h
          · simp at h
          · exact h
    by_cases h0 : l.length = 0
    · obtain rfl : l = [] := List.eq_nil_of_length_eq_zero h0
      simp [hrisS]
    · have := gen (l.length - 1) 0 (by omega)
      rw [List.drop_zero] at this
      rw [this]
      constructor
      · intro h j hj
        by_cases hz : j = 0
        · subst hz; rfl
        · exact h j (by omega) hj
      · intro h j _ hj; exact h j hj
  intro k i _ _
  exact (key l).symm
theorem ris_iff (l : List (List UInt8)) : hrisS l = true ↔ ∀ j, j < l.length → risAt l j = true := (ris_range l l.length 0 (by omega) (fun j hj => by omega)).symm
/-- what the reference asks of a cell -/
def cellR (h : List JC) (c : JC) : Bool := (rbtM c.1 0 3 && ((c.1 != 0) || ((c.2.2.length : Int) == 0))) && ((if (c.1 == 2) = true then ((c.2.1.length : Int) == (c.2.2.length : Int)) else ((c.2.1.length : Int) == 0)) && (hrisS c.2.1 && c.2.2.all (hfitS h)))
theorem cell_eq (h : List JC) (c : JC) : cellR h c = hcelS h c := by
  have hany : (!(vcfS c.2.2 (fun y0 => hcl1M y0 h))) = c.2.2.all (hfitS h) := by
    unfold vcfS
    show (!(c.2.2.any fun v => !(hfitS h v))) = _
    rw [List.not_any_eq_all_not]
    congr 1
    funext v
    rw [Bool.not_not]
  unfold cellR hcelS hcelV1 hcelV0
  rw [hany]
  have hb : rbtM c.1 0 3 = (decide (0 ≤ c.1) && decide (c.1 ≤ 3)) := rfl
  rw [hb]
  generalize hn : (c.2.1.length : Int) = nn
  generalize hm : (c.2.2.length : Int) = mm
  have hm0 : 0 ≤ mm := by omega
  generalize (hrisS c.2.1 && c.2.2.all (hfitS h)) = r
  generalize c.1 = k
  by_cases h0 : k = 0
  · subst h0
    by_cases hmz : mm = 0
    · subst hmz; simp
    · have : mm > 0 := by omega
      simp [hmz, this]
  by_cases h1 : k = 1
  · subst h1; simp
  by_cases h2 : k = 2
  · subst h2; simp
  by_cases h3 : k = 3
  · subst h3; simp
  have e1 : (decide (0 ≤ k) && decide (k ≤ 3)) = false := by
    rw [Bool.and_eq_false_iff, decide_eq_false_iff_not, decide_eq_false_iff_not]; omega
  simp [h0, h1, h2, h3, e1]
theorem rcr_F (h : List JC) (hp : rcrP h) : rcrF h (fun r => r = hchkS h) := by
  obtain ⟨hl, hcs⟩ := hp
  rw [maxLen_eq] at hl
  let big0 := decide ((h.length : Int) > 300)
  have hR : hchkS h = if (big0 || h.any bigC) = true then 2 else if (!(h.all (hcelS h))) = true then 3 else 0 := by
    unfold hchkS
    show (if big0 = true then 2 else _) = _
    cases big0
    · rw [if_f rfl, Bool.false_or]
      cases h.any bigC
      · rw [if_f rfl, if_f rfl]
        cases h.all (hcelS h) <;> rfl
      · rw [if_t rfl, if_t rfl]
    · rfl
  have loop : ∀ (k i : Nat) (x3 x4 : Bool), i + k = h.length → (big0 || h.any bigC) = (x3 || (h.drop i).any bigC) → h.all (hcelS h) = (x4 && (h.drop i).all (hcelS h)) → rcrl11 h (fun r => r = hchkS h) (k + 1) x3 x4 (i : Int) := by
    intro k
    induction k with
    | zero =>
      intro i x3 x4 hi e3 e4
      rw [List.drop_of_length_le (by omega)] at e3 e4
      have e3 : (big0 || h.any bigC) = x3 := by rw [e3]; simp
      have e4 : h.all (hcelS h) = x4 := by rw [e4]; simp
      rw [e3, e4] at hR
      refine ⟨fun h2 => by have := of_decide_eq_true h2; omega, fun _ => ⟨fun h3 => by rw [hR, if_t h3], fun h3 => ⟨fun h4 => by rw [hR, if_f h3, if_t h4], fun h4 => by rw [hR, if_f h3, if_f h4]⟩⟩⟩
    | succ k ih =>
      intro i x3 x4 hi e3 e4
      rw [drop_get (l := h) default (by omega)] at e3 e4
      rw [List.any_cons] at e3
      rw [List.all_cons, ← cell_eq] at e4
      have hsz := hcs _ (mem_getD default (show i < h.length by omega))
      rw [maxLen_eq] at hsz
      refine ⟨fun _ => ⟨by omega, by omega, ?_⟩, fun h2 => by have := of_decide_eq_false h2; omega⟩
      rw [Int.toNat_natCast]
      generalize hc : h.getD i default = c at e3 e4 hsz
      -- the values
      have vals : ∀ (b : Bool), (∀ b', b' = (b && c.2.2.all (hfitS h)) → rcrl11 h (fun r => r = hchkS h) (k + 1) (x3 || bigC c) b' ((i + 1 : Nat) : Int)) → ∀ (q j : Nat) (b2 : Bool), j + q = c.2.2.length → (b && c.2.2.all (hfitS h)) = (b2 && (c.2.2.drop j).all (hfitS h)) →
          rcrl52 h c x3 (i : Int) (rcrl11 h (fun r => r = hchkS h) (k + 1)) (q + 1) b2 (j : Int) := by
        intro b hK q
        induction q with
        | zero =>
          intro j b2 hj he
          rw [List.drop_of_length_le (by omega)] at he
          refine ⟨fun h2 => by have := of_decide_eq_true h2; omega, fun _ => ?_⟩
          rw [w64 (by omega), Int.toNat_natCast, hc]
          exact hK b2 (by rw [he]; simp)
        | succ q ihq =>
          intro j b2 hj he
          rw [drop_get (l := c.2.2) default (by omega), List.all_cons, ← Bool.and_assoc] at he
          have j59 : rcrj59 h c b2 (j : Int) (rcrl52 h c x3 (i : Int) (rcrl11 h (fun r => r = hchkS h) (k + 1)) (q + 1)) := by
            unfold rcrj59 rcrV8
            rw [w64 (by omega), Int.toNat_natCast]
            exact ihq (j + 1) _ (by omega) he
          exact ⟨fun _ => ⟨by omega, by omega, fun _ => j59, fun _ => j59⟩, fun h2 => by have := of_decide_eq_false h2; omega⟩
      -- the names
      have names : ∀ (b : Bool), (∀ b', b' = ((b && hrisS c.2.1) && c.2.2.all (hfitS h)) → rcrl11 h (fun r => r = hchkS h) (k + 1) (x3 || bigC c) b' ((i + 1 : Nat) : Int)) → ∀ (q j : Nat) (b2 : Bool), j + q = c.2.1.length → (b2 = true ↔ b = true ∧ ∀ m, m < j → risAt c.2.1 m = true) →
          rcrl36 h c x3 (i : Int) (rcrl11 h (fun r => r = hchkS h) (k + 1)) (q + 1) b2 (j : Int) := by
        intro b hK q
        induction q with
        | zero =>
          intro j b2 hj he
          have e : b2 = (b && hrisS c.2.1) := by
            rw [Bool.eq_iff_iff, he, Bool.and_eq_true, ris_iff, show j = c.2.1.length by omega]
          refine ⟨fun h2 => by have := of_decide_eq_true h2; omega, fun _ => ⟨_, vals b2 (fun b' hb => hK b' (by rw [hb, e])) c.2.2.length 0 b2 (by omega) rfl⟩⟩
        | succ q ihq =>
          intro j b2 hj he
          have e1 : j ≠ 0 → IntKind.wrap .i64 ((j : Int) - 1) = ((j - 1 : Nat) : Int) := fun hz => by rw [w64 (by omega)]; omega
          have j43 : rcrj43 c (j : Int) b2 (rcrl36 h c x3 (i : Int) (rcrl11 h (fun r => r = hchkS h) (k + 1)) (q + 1)) := by
            unfold rcrj43
            rw [w64 (by omega)]
            refine ihq (j + 1) _ (by omega) ?_
            have hV : rcrV4 c (j : Int) b2 = (b2 && risAt c.2.1 j) := by
              unfold rcrV4 risAt
              by_cases hz : j = 0
              · subst hz; rfl
              · rw [e1 hz, Int.toNat_natCast, Int.toNat_natCast]
                have q1 : ((j : Int) == 0) = false := by rw [beq_eq_false_iff_ne]; omega
                have q2 : (j == 0) = false := by rw [beq_eq_false_iff_ne]; exact hz
                rw [q1, q2]
            rw [hV, Bool.and_eq_true, he]
            constructor
            · rintro ⟨⟨h1, h2⟩, h3⟩
              refine ⟨h1, fun m hm => ?_⟩
              by_cases hmj : m = j
              · subst hmj; exact h3
              · exact h2 m (by omega)
            · rintro ⟨h1, h2⟩
              exact ⟨⟨h1, fun m hm => h2 m (by omega)⟩, h2 j (by omega)⟩
          refine ⟨fun _ => ⟨fun _ => ⟨fun _ => j43, fun hz => ?_⟩, fun _ => j43⟩, fun h2 => by have := of_decide_eq_false h2; omega⟩
          have hz : j ≠ 0 := fun h => by subst h; cases hz
          rw [e1 hz]
          exact ⟨by omega, by omega, by omega, by omega, j43⟩
      have j26 : rcrj26 h c x3 x4 (i : Int) (rcrl11 h (fun r => r = hchkS h) (k + 1)) := by
        refine ⟨_, names (rcrV6 c x4) (fun b' hb => ih (i + 1) _ _ (by omega) ?_ ?_) c.2.1.length 0 _ (by omega) ?_⟩
        · rw [e3, Bool.or_assoc]
        · rw [e4, hb]
          unfold rcrV6 rcrV5 cellR
          cases h2 : (c.1 == 2)
          · rw [if_f rfl, if_f rfl]
            cases x4 <;> cases rbtM c.1 0 3 <;> cases ((c.1 != 0) || ((c.2.2.length : Int) == 0)) <;> cases ((c.2.1.length : Int) == 0) <;> cases hrisS c.2.1 <;> cases c.2.2.all (hfitS h) <;> rfl
          · rw [if_t rfl, if_t rfl]
            cases x4 <;> cases rbtM c.1 0 3 <;> cases ((c.1 != 0) || ((c.2.2.length : Int) == 0)) <;> cases ((c.2.1.length : Int) == (c.2.2.length : Int)) <;> cases hrisS c.2.1 <;> cases c.2.2.all (hfitS h) <;> rfl
        · exact ⟨fun h => ⟨h, fun m hm => by omega⟩, fun h => h.1⟩
      have j24 : rcrj24 h c x3 x4 (i : Int) (rcrl11 h (fun r => r = hchkS h) (k + 1)) := ⟨fun _ => ⟨fun _ => j26, fun _ => j26⟩, fun _ => ⟨fun _ => j26, fun _ => j26⟩⟩
      have j22 : rcrj22 h c x3 x4 (i : Int) (rcrl11 h (fun r => r = hchkS h) (k + 1)) := ⟨fun _ => ⟨fun _ => ⟨fun _ => j24, fun _ => j24⟩, fun _ => j24⟩, fun _ => j24⟩
      exact ⟨fun _ => j22, fun _ => j22⟩
  exact ⟨_, loop h.length 0 _ _ (by omega) rfl rfl⟩
set_option linter.unusedVariables false in
theorem rcr_c {g : Ghost} {axh_0 : Option Addr} {cxh_0 : Nat} (xh : List (Int × List (List UInt8) × List (Int × Int × List UInt8))) (hRxh_0 : Rep g (.slice (.pair (.int .i64) (.pair (.slice (.str)) (.slice (.pair (.int .i64) (.pair (.int .i64) (.str))))))) [.slice axh_0 xh.length cxh_0] xh)  (hp : rcrP xh) : CallsG Try.prog 28 #[.slice axh_0 xh.length cxh_0] g (.int .i64 (hchkS xh)) :=
  (rcr_ok xh hRxh_0 _ (rcr_F xh hp)).gives (by rintro g' H' v _ ⟨r0, rfl, rfl, hK⟩; subst hK; rfl)
def rhaV2 (xh : List (Int × List (List UInt8) × List (JV))) (xroots : List (JV)) (x5l9 : Int) (x12l9 : Int) : Int :=
  (if ((x5l9 == 0) && (!(hfitS xh (xroots.getD (Int.toNat x12l9) default)))) = true then 1 else x5l9)
def rhaj16 (xh : List (Int × List (List UInt8) × List (JV))) (xroots : List (JV)) (x5l9 : Int) (x12l9 : Int) (C9 : Int → Int → Prop) : Prop :=
  C9 (rhaV2 xh xroots x5l9 x12l9) (IntKind.wrap .i64 (x12l9 + 1))
def rhaj20 (xh : List (Int × List (List UInt8) × List (JV))) (xroots : List (JV)) (e4 : JV) (x5l9 : Int) (x12l9 : Int) (C9 : Int → Int → Prop) : Prop :=
  ((((x5l9 == 0) && (!(hfitS xh e4)))) = true → rhaj16 xh xroots x5l9 x12l9 C9) ∧ ((((x5l9 == 0) && (!(hfitS xh e4)))) = false → rhaj16 xh xroots x5l9 x12l9 C9)
def rhal9b (xh : List (Int × List (List UInt8) × List (JV))) (xroots : List (JV)) (K : Int → Prop) (x5l9 : Int) (x12l9 : Int) (C9 : Int → Int → Prop) : Prop :=
  ((decide (x12l9 < (xroots.length : Int))) = true → (0 : Int) ≤ x12l9 ∧ Int.toNat x12l9 < xroots.length ∧ (((x5l9 == 0)) = true → rhaj20 xh xroots (xroots.getD (Int.toNat x12l9) default) x5l9 x12l9 C9) ∧ (((x5l9 == 0)) = false → rhaj20 xh xroots (xroots.getD (Int.toNat x12l9) default) x5l9 x12l9 C9)) ∧ ((decide (x12l9 < (xroots.length : Int))) = false → K x5l9)
def rhal9 (xh : List (Int × List (List UInt8) × List (JV))) (xroots : List (JV)) (K : Int → Prop) : Nat → Int → Int → Prop
  | 0, _, _ => False
  | k + 1, x5l9, x12l9 => rhal9b xh xroots K x5l9 x12l9 (rhal9 xh xroots K k)
def rhaF (xh : List (Int × List (List UInt8) × List (JV))) (xroots : List (JV)) (K : Int → Prop) : Prop :=
  rcrP xh ∧ ∃ k, rhal9 xh xroots K k (hchkS xh) 0
set_option maxHeartbeats 4000000 in
set_option maxRecDepth 100000 in
set_option linter.unusedVariables false in
theorem rha_ok {g : Ghost} {axh_0 : Option Addr} {cxh_0 : Nat} (xh : List (Int × List (List UInt8) × List (JV))) {axroots_0 : Option Addr} {cxroots_0 : Nat} (xroots : List (JV)) (hRxh_0 : Rep g (.slice (.pair (.int .i64) (.pair (.slice (.str)) (.slice (.pair (.int .i64) (.pair (.int .i64) (.str))))))) [.slice axh_0 xh.length cxh_0] xh) (hRxroots_0 : Rep g (.slice (.pair (.int .i64) (.pair (.int .i64) (.str)))) [.slice axroots_0 xroots.length cxroots_0] xroots) (K : Int → Prop)
    (hF : rhaF xh xroots K) : CallsH Try.prog 8 #[.slice axh_0 xh.length cxh_0, .slice axroots_0 xroots.length cxroots_0] g [] (fun g' H' v => ∃ (r0 : Int), v = .int .i64 r0 ∧ H' = [] ∧ K r0) := by
  refine CallsH.enter 26 [(0, .slice axh_0 xh.length cxh_0), (1, .slice axroots_0 xroots.length cxroots_0)] Try.func8 rfl (by kernel_rfl) (by kernel_rfl) (by kernel_rfl) fun w0 => ?_
  refine Ok.seq ?_
  refine Ok.region ?_
  refine Ok.batch 1 [(0, .slice axh_0 xh.length cxh_0), (1, .slice axroots_0 xroots.length cxroots_0)] (by kernel_rfl) ?_
  refine Ok.nil ?_
  refine Ok.thenN ?_
  refine Ok.seq ?_
  refine Ok.region ?_
  refine Ok.batch 1 [(0, .slice axh_0 xh.length cxh_0), (1, .slice axroots_0 xroots.length cxroots_0), (8, .slice axh_0 xh.length cxh_0)] (by kernel_rfl) ?_
  obtain ⟨hp1, hF⟩ := hF
  refine Ok.op rfl (OpOk.callG (v := .int .i64 (hchkS xh)) (enters (by kernel_rfl) (fun _ => by kernel_rfl)) (fun W hW => rcr_c xh (hRxh_0.mono hW.sees) hp1) rfl ?_)
  refine Ok.batch 1 [(0, .slice axh_0 xh.length cxh_0), (1, .slice axroots_0 xroots.length cxroots_0), (5, .int .i64 (hchkS xh))] (by kernel_rfl) ?_
  refine Ok.nil ?_
  refine Ok.thenN ?_
  refine Ok.seq ?_
  refine Ok.seq ?_
  refine Ok.region ?_
  refine Ok.batch 3 [(0, .slice axh_0 xh.length cxh_0), (5, .int .i64 (hchkS xh)), (10, .slice axroots_0 xroots.length cxroots_0), (11, .int .i64 (xroots.length : Int)), (12, .int .i64 0)] (by kernel_rfl) ?_
  refine Ok.nil ?_
  refine Ok.thenN ?_
  refine Ok.block ?_
  obtain ⟨k, hF⟩ := hF
  refine Ok.loop (fun k a W => ∃ (x5l9 : Int) (x12l9 : Int), StA 26 [(0, .slice axh_0 xh.length cxh_0), (5, .int .i64 x5l9), (10, .slice axroots_0 xroots.length cxroots_0), (11, .int .i64 (xroots.length : Int)), (12, .int .i64 x12l9)] a ∧ StW w0 [] g W ∧ rhal9 xh xroots K k x5l9 x12l9) k ?_ ?_
  ·
    exact fun a W hA hW => ⟨(hchkS xh), 0, hA.sub (by kernel_rfl), hW, hF⟩
  ·
    clear hF
    rintro k9 a W ⟨x5l9, x12l9, hA, hW, hF⟩
    cases k9 with
    | zero => exact (hF : False).elim
    | succ k9 =>
      refine (?_ : Ok _ _ _ _ _ _) a W hA hW
      clear hA hW
      refine Ok.seq ?_
      refine Ok.region ?_
      refine Ok.batch 1 [(0, .slice axh_0 xh.length cxh_0), (5, .int .i64 x5l9), (10, .slice axroots_0 xroots.length cxroots_0), (11, .int .i64 (xroots.length : Int)), (12, .int .i64 x12l9), (13, .bool (decide (x12l9 < (xroots.length : Int))))] (by kernel_rfl) ?_
      refine Ok.nil ?_
      refine Ok.thenN ?_
      refine Ok.seq ?_
      refine Ok.cond (b := decide (x12l9 < (xroots.length : Int))) rfl (fun hc2 => ?_) (fun hc2 => ?_)
      · replace hF := hF.1 hc2
        refine Ok.skip ?_
        refine Ok.thenN ?_
        refine Ok.cut (fun a W => StA 26 [(0, .slice axh_0 xh.length cxh_0), (5, .int .i64 (rhaV2 xh xroots x5l9 x12l9)), (10, .slice axroots_0 xroots.length cxroots_0), (11, .int .i64 (xroots.length : Int)), (12, .int .i64 x12l9)] a ∧ StW w0 [] g W ∧ rhaj16 xh xroots x5l9 x12l9 (rhal9 xh xroots K k9)) ?_ ?_
        ·
          refine Ok.block ?_
          refine Ok.seq ?_
          refine Ok.region ?_
          obtain ⟨h04, h14, hF⟩ := hF
          have he4 := get_of (l := xroots) (default : JV) h14
          generalize hg4 : (xroots.getD (Int.toNat x12l9) default) = e4 at he4 hF ⊢
          refine Ok.op rfl (OpOk.indexRo (e := .pair (.int .i64) (.pair (.int .i64) (.str))) (i := x12l9) (el := e4) rfl rfl Try.underlying29 (by kernel_rfl) hRxroots_0 h04 he4 rfl fun q3 o3 cs3 _ hat3 hr3 => ?_)
          obtain ⟨_, _, rfl, rfl, ⟨_, _, rfl, rfl, rfl⟩⟩ := hr3
          replace hat3 : At g q3 o3 [.int .i64 e4.1, .int .i64 e4.2.1, .string ⟨⟨e4.2.2⟩⟩] := hat3
          refine Ok.op rfl (OpOk.step (v := .agg #[.int .i64 e4.1, .int .i64 e4.2.1, .string ⟨⟨e4.2.2⟩⟩]) (Yields.loadAggRo 0 3 #[.int .i64 e4.1, .int .i64 e4.2.1, .string ⟨⟨e4.2.2⟩⟩] hat3 (by kernel_rfl) Try.underlying24 rfl (by kernel_rfl) (by kernel_rfl) (by kernel_rfl)) rfl rfl ?_)
          refine Ok.op rfl (OpOk.alloc (z := .agg #[.int .i64 0, .int .i64 0, .string ⟨⟨([] : List UInt8)⟩⟩]) (cs := #[.int .i64 0, .int .i64 0, .string ⟨⟨([] : List UInt8)⟩⟩]) (by kernel_rfl) (by kernel_rfl) rfl fun b5 => ?_)
          refine Ok.op rfl (OpOk.store (k := 3) (v := .agg #[.int .i64 e4.1, .int .i64 e4.2.1, .string ⟨⟨e4.2.2⟩⟩]) (H' := [.blk b5 (.cells #[.int .i64 e4.1, .int .i64 e4.2.1, .string ⟨⟨e4.2.2⟩⟩] 24)]) 0 rfl rfl rfl (by kernel_rfl) (by kernel_rfl) (by kernel_rfl) (by kernel_rfl) (by kernel_rfl) ?_)
          refine Ok.nil ?_
          refine Ok.thenN ?_
          refine Ok.cut (fun a W => StA 26 [(0, .slice axh_0 xh.length cxh_0), (5, .int .i64 x5l9), (10, .slice axroots_0 xroots.length cxroots_0), (11, .int .i64 (xroots.length : Int)), (12, .int .i64 x12l9), (23, .bool ((x5l9 == 0) && (!(hfitS xh e4))))] a ∧ StW w0 [] g W ∧ rhaj20 xh xroots e4 x5l9 x12l9 (rhal9 xh xroots K k9)) ?_ ?_
          ·
            refine Ok.region ?_
            refine Ok.batch 3 [(0, .slice axh_0 xh.length cxh_0), (5, .int .i64 x5l9), (7, .pointer (some ⟨b5, 0, none⟩)), (10, .slice axroots_0 xroots.length cxroots_0), (11, .int .i64 (xroots.length : Int)), (12, .int .i64 x12l9), (18, .bool (x5l9 == 0))] (by kernel_rfl) ?_
            refine Ok.boolAt 18 ((x5l9 == 0)) rfl (fun hc7 => ?_) (fun hc7 => ?_)
            · replace hF := hF.1 hc7
              refine Ok.batch 1 [(0, .slice axh_0 xh.length cxh_0), (5, .int .i64 x5l9), (7, .pointer (some ⟨b5, 0, none⟩)), (10, .slice axroots_0 xroots.length cxroots_0), (11, .int .i64 (xroots.length : Int)), (12, .int .i64 x12l9), (18, .bool true), (19, .slice axh_0 xh.length cxh_0)] (by kernel_rfl) ?_
              refine Ok.opYes (j := 2) (d := 18) (want := true) (b := true) rfl (by kernel_rfl) (by kernel_rfl) rfl (OpOk.step (v := .agg #[.int .i64 e4.1, .int .i64 e4.2.1, .string ⟨⟨e4.2.2⟩⟩]) (Yields.loadAgg 0 3 #[.int .i64 e4.1, .int .i64 e4.2.1, .string ⟨⟨e4.2.2⟩⟩] rfl rfl Try.underlying24 rfl (by kernel_rfl) (by kernel_rfl) (by kernel_rfl)) rfl rfl ?_)
              refine Ok.opYes (j := 2) (d := 18) (want := true) (b := true) rfl (by kernel_rfl) (by kernel_rfl) rfl (OpOk.callG (v := .bool (hfitS xh e4)) (enters (by kernel_rfl) (fun _ => by kernel_rfl)) (fun W hW => rvi_c xh e4 (hRxh_0.mono hW.sees)) rfl ?_)
              refine Ok.batch 2 [(0, .slice axh_0 xh.length cxh_0), (5, .int .i64 x5l9), (10, .slice axroots_0 xroots.length cxroots_0), (11, .int .i64 (xroots.length : Int)), (12, .int .i64 x12l9), (23, .bool (!(hfitS xh e4)))] (by kernel_rfl) ?_
              refine Ok.nil ?_
              refine Ok.thenN ?_
              refine Ok.reval 23 rfl (show (.bool (!(hfitS xh e4)) : Value) = .bool ((x5l9 == 0) && (!(hfitS xh e4))) from congrArg (Value.bool) (mand_t hc7)) ?_
              exact fun a W hA hW => ⟨hA.sub (by kernel_rfl), hW.sub (.cons _ .slnil), hF⟩
            · replace hF := hF.2 hc7
              refine Ok.batch 5 [(0, .slice axh_0 xh.length cxh_0), (5, .int .i64 x5l9), (10, .slice axroots_0 xroots.length cxroots_0), (11, .int .i64 (xroots.length : Int)), (12, .int .i64 x12l9), (23, .bool false)] (by kernel_rfl) ?_
              refine Ok.nil ?_
              refine Ok.thenN ?_
              refine Ok.reval 23 rfl (show (.bool false : Value) = .bool ((x5l9 == 0) && (!(hfitS xh e4))) from congrArg (Value.bool) (mand_f hc7)) ?_
              exact fun a W hA hW => ⟨hA.sub (by kernel_rfl), hW.sub (.cons _ .slnil), hF⟩
          ·
            clear hF
            rintro a W ⟨hA, hW, hF⟩
            refine (?_ : Ok _ _ _ _ _ _) a W hA hW
            clear hA hW
            refine Ok.cond (b := ((x5l9 == 0) && (!(hfitS xh e4)))) rfl (fun hc6 => ?_) (fun hc6 => ?_)
            · replace hF := hF.1 hc6
              refine Ok.region ?_
              refine Ok.batch 1 [(0, .slice axh_0 xh.length cxh_0), (5, .int .i64 1), (10, .slice axroots_0 xroots.length cxroots_0), (11, .int .i64 (xroots.length : Int)), (12, .int .i64 x12l9)] (by kernel_rfl) ?_
              refine Ok.nil ?_
              refine Ok.blockN ?_
              refine Ok.thenN ?_
              subst hg4
              refine Ok.reval 5 rfl (show (.int .i64 1 : Value) = .int .i64 (rhaV2 xh xroots x5l9 x12l9) from congrArg (Value.int .i64) ((if_t hc6).symm)) ?_
              exact fun a W hA hW => ⟨hA.sub (by kernel_rfl), hW, hF⟩
            · replace hF := hF.2 hc6
              refine Ok.skip ?_
              refine Ok.blockN ?_
              refine Ok.thenN ?_
              subst hg4
              refine Ok.reval 5 rfl (show (.int .i64 x5l9 : Value) = .int .i64 (rhaV2 xh xroots x5l9 x12l9) from congrArg (Value.int .i64) ((if_f hc6).symm)) ?_
              exact fun a W hA hW => ⟨hA.sub (by kernel_rfl), hW, hF⟩
        ·
          clear hF
          rintro a W ⟨hA, hW, hF⟩
          refine (?_ : Ok _ _ _ _ _ _) a W hA hW
          clear hA hW
          refine Ok.region ?_
          refine Ok.batch 2 [(0, .slice axh_0 xh.length cxh_0), (5, .int .i64 (rhaV2 xh xroots x5l9 x12l9)), (10, .slice axroots_0 xroots.length cxroots_0), (11, .int .i64 (xroots.length : Int)), (12, .int .i64 (IntKind.wrap .i64 (x12l9 + 1)))] (by kernel_rfl) ?_
          refine Ok.nil ?_
          refine Ok.thenN ?_
          exact fun a W hA hW => ⟨k9, Nat.lt_succ_self _, (rhaV2 xh xroots x5l9 x12l9), IntKind.wrap .i64 (x12l9 + 1), hA.sub (by kernel_rfl), hW, hF⟩
      · replace hF := hF.2 hc2
        refine Ok.exit ?_
        refine Ok.thenE ?_
        refine Ok.thenE ?_
        refine Ok.blockHit ?_
        refine Ok.thenN ?_
        refine Ok.seq ?_
        refine Ok.region ?_
        refine Ok.batch 2 [(4, .int .i64 x5l9)] (by kernel_rfl) ?_
        refine Ok.nil ?_
        refine Ok.thenN ?_
        refine Ok.ret ?_
        exact Ok.resH (vs := [.int .i64 x5l9]) (.inl rfl) rfl (.cons (.tmp rfl) .nil) (Gext.refl w0 g) ⟨x5l9, rfl, rfl, hF⟩
theorem rha_F (h : List JC) (l : List JV) (hp : haskP h l) : rhaF h l (fun r => r = haskS h l) := by
  obtain ⟨hr, hl⟩ := hp
  rw [maxLen_eq] at hl
  refine ⟨hr, ?_⟩
  have loop : ∀ (k i : Nat) (x : Int), i + k = l.length → haskS h l = (if (x != 0) = true then x else if (l.drop i).all (hfitS h) = true then 0 else 1) → rhal9 h l (fun r => r = haskS h l) (k + 1) x (i : Int) := by
    intro k
    induction k with
    | zero =>
      intro i x hi he
      rw [List.drop_of_length_le (by omega)] at he
      refine ⟨fun h2 => by have := of_decide_eq_true h2; omega, fun _ => ?_⟩
      rw [he]
      by_cases hz : (x != 0) = true
      · rw [if_t hz]
      · rw [if_neg hz]
        have : x = 0 := by simpa using hz
        rw [this]; rfl
    | succ k ih =>
      intro i x hi he
      rw [drop_get (l := l) default (by omega), List.all_cons] at he
      have j16 : rhaj16 h l x (i : Int) (rhal9 h l (fun r => r = haskS h l) (k + 1)) := by
        unfold rhaj16 rhaV2
        rw [w64 (by omega), Int.toNat_natCast]
        refine ih (i + 1) _ (by omega) ?_
        rw [he]
        by_cases hz : x = 0
        · subst hz
          cases hfitS h (l.getD i default)
          · rfl
          · simp only [Bool.true_and]; rfl
        · have q1 : (x == 0) = false := by rw [beq_eq_false_iff_ne]; exact hz
          have q2 : (x != 0) = true := by rw [bne, q1]; rfl
          rw [q1, Bool.false_and, if_f rfl, if_t q2, if_t q2]
      have j20 : rhaj20 h l (l.getD i default) x (i : Int) (rhal9 h l (fun r => r = haskS h l) (k + 1)) := ⟨fun _ => j16, fun _ => j16⟩
      refine ⟨fun _ => ⟨by omega, by omega, ?_⟩, fun h2 => by have := of_decide_eq_false h2; omega⟩
      rw [Int.toNat_natCast]
      exact ⟨fun _ => j20, fun _ => j20⟩
  exact ⟨_, loop l.length 0 _ (by omega) rfl⟩
set_option linter.unusedVariables false in
theorem rha_c {g : Ghost} {axh_0 : Option Addr} {cxh_0 : Nat} (xh : List (Int × List (List UInt8) × List (Int × Int × List UInt8))) {axroots_0 : Option Addr} {cxroots_0 : Nat} (xroots : List (Int × Int × List UInt8)) (hRxh_0 : Rep g (.slice (.pair (.int .i64) (.pair (.slice (.str)) (.slice (.pair (.int .i64) (.pair (.int .i64) (.str))))))) [.slice axh_0 xh.length cxh_0] xh) (hRxroots_0 : Rep g (.slice (.pair (.int .i64) (.pair (.int .i64) (.str)))) [.slice axroots_0 xroots.length cxroots_0] xroots)  (hp : haskP xh xroots) : CallsG Try.prog 8 #[.slice axh_0 xh.length cxh_0, .slice axroots_0 xroots.length cxroots_0] g (.int .i64 (haskS xh xroots)) :=
  (rha_ok xh xroots hRxh_0 hRxroots_0 _ (rha_F xh xroots hp)).gives (by rintro g' H' v _ ⟨r0, rfl, rfl, hK⟩; subst hK; rfl)
end Go.Proofs.Ytbifbljdmndjbaa.Hp
