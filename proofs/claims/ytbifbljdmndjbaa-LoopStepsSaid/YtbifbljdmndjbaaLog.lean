/- Loops: the next job, by the reference. -/
import Derived.Test.YtbifbljdmndjbaaLof
import Derived.Test.YtbifbljdmndjbaaLift
namespace Go.Proofs.Ytbifbljdmndjbaa.Lo
open Go Go.Eng Go.RowKit
set_option maxHeartbeats 4000000
set_option maxRecDepth 100000
set_option linter.unusedSimpArgs false
set_option linter.unusedVariables false
def rlnV4 (xq : JL) (xuntil : Int) (e16 : JT) : Bool :=
 ((decide (e16.2.1 > xq.1)) && ((decide ((xq.2.2.1.length : Int) > 0)) || (decide (e16.2.1 > xuntil))))
def rlnV5 (xq : JL) (e16 : JT) : Int :=
 (if (decide (e16.2.1 > xq.1)) = true then e16.2.1 else xq.1)
def rlnV6 (e16 : JT) : Bool :=
 ((decide (e16.2.2.1 > 0)) && ((decide (e16.2.2.2.1 < 1000000000)) && (decide ((w6 (e16.2.1 + e16.2.2.1)) ≤ 1000000000))))
def rlnV7 (xq : JL) (e16 : JT) : List (JT) :=
 (if (rlnV6 e16) = true then (llaS (xq.2.2.2.2.drop (Int.toNat 1)) (e16.1, w6 (e16.2.1 + e16.2.2.1), e16.2.2.1, w6 (e16.2.2.2.1 + 1), e16.2.2.2.2)) else (xq.2.2.2.2.drop (Int.toNat 1)))
def rlnj15 (xq : JL) (xuntil : Int) (K : (JL) → (JJ) → Bool → Prop) : Prop :=
 ((decide ((xq.2.2.1.length : Int) > 0)) = true → (0 : Int) ≤ 0 ∧ Int.toNat 0 < xq.2.2.1.length ∧ (0 : Int) ≤ 1 ∧ (1 : Int) ≤ (xq.2.2.1.length : Int) ∧ (xq.2.2.1.length : Int) ≤ (xq.2.2.1.length : Int) ∧ K (xq.1, xq.2.1, (xq.2.2.1.drop (Int.toNat 1)), xq.2.2.2.1, xq.2.2.2.2) (xq.2.2.1.getD (Int.toNat 0) default) true) ∧ ((decide ((xq.2.2.1.length : Int) > 0)) = false → K (xuntil, xq.2.1, xq.2.2.1, xq.2.2.2.1, xq.2.2.2.2) (0, 0, false, ([] : Bs), (0, 0, ([] : Bs))) false)
def rlnj46 (xq : JL) (K : (JL) → (JJ) → Bool → Prop) (e16 : JT) : Prop :=
 K ((rlnV5 xq e16), xq.2.1, xq.2.2.1, xq.2.2.2.1, (rlnV7 xq e16)) (e16.1, 3, false, e16.2.2.2.2, (2, e16.2.2.2.1, ([] : Bs))) true
def rlnj47 (xq : JL) (K : (JL) → (JJ) → Bool → Prop) (e16 : JT) : Prop :=
 (((rlnV6 e16)) = true → rplP (xq.2.2.2.2.drop (Int.toNat 1)) (e16.1, w6 (e16.2.1 + e16.2.2.1), e16.2.2.1, w6 (e16.2.2.2.1 + 1), e16.2.2.2.2) ∧ rlnj46 xq K e16) ∧ (((rlnV6 e16)) = false → rlnj46 xq K e16)
def rlnj38 (xq : JL) (K : (JL) → (JJ) → Bool → Prop) (e16 : JT) : Prop :=
 ((decide (e16.2.2.1 > 0)) = true → ((decide (e16.2.2.2.1 < 1000000000)) = true → rlnj47 xq K e16) ∧ ((decide (e16.2.2.2.1 < 1000000000)) = false → rlnj47 xq K e16)) ∧ ((decide (e16.2.2.1 > 0)) = false → rlnj47 xq K e16)
def rlnj31 (xq : JL) (xuntil : Int) (K : (JL) → (JJ) → Bool → Prop) (e16 : JT) : Prop :=
 (((rlnV4 xq xuntil e16)) = true → rlnj15 xq xuntil K) ∧ (((rlnV4 xq xuntil e16)) = false → (0 : Int) ≤ 1 ∧ (1 : Int) ≤ (xq.2.2.2.2.length : Int) ∧ (xq.2.2.2.2.length : Int) ≤ (xq.2.2.2.2.length : Int) ∧ ((decide (e16.2.1 > xq.1)) = true → rlnj38 xq K e16) ∧ ((decide (e16.2.1 > xq.1)) = false → rlnj38 xq K e16))
def rlnl19b (xq : JL) (xuntil : Int) (K : (JL) → (JJ) → Bool → Prop) (C19 : Prop) : Prop :=
 ((decide (0 < (xq.2.2.2.2.length : Int))) = true → (0 : Int) ≤ 0 ∧ Int.toNat 0 < xq.2.2.2.2.length ∧ ((decide ((xq.2.2.2.2.getD (Int.toNat 0) default).2.1 > xq.1)) = true → ((decide ((xq.2.2.1.length : Int) > 0)) = true → rlnj31 xq xuntil K (xq.2.2.2.2.getD (Int.toNat 0) default)) ∧ ((decide ((xq.2.2.1.length : Int) > 0)) = false → rlnj31 xq xuntil K (xq.2.2.2.2.getD (Int.toNat 0) default))) ∧ ((decide ((xq.2.2.2.2.getD (Int.toNat 0) default).2.1 > xq.1)) = false → rlnj31 xq xuntil K (xq.2.2.2.2.getD (Int.toNat 0) default))) ∧ ((decide (0 < (xq.2.2.2.2.length : Int))) = false → rlnj15 xq xuntil K)
def rlnl19 (xq : JL) (xuntil : Int) (K : (JL) → (JJ) → Bool → Prop) : Nat → Prop
 | 0 => False
 | k + 1 => rlnl19b xq xuntil K (rlnl19 xq xuntil K k)
def rlnF (xq : JL) (xuntil : Int) (K : (JL) → (JJ) → Bool → Prop) : Prop :=
 ((decide ((xq.2.2.2.1.length : Int) > 0)) = true → (0 : Int) ≤ 0 ∧ Int.toNat 0 < xq.2.2.2.1.length ∧ (0 : Int) ≤ 1 ∧ (1 : Int) ≤ (xq.2.2.2.1.length : Int) ∧ (xq.2.2.2.1.length : Int) ≤ (xq.2.2.2.1.length : Int) ∧ K (xq.1, xq.2.1, xq.2.2.1, (xq.2.2.2.1.drop (Int.toNat 1)), xq.2.2.2.2) (xq.2.2.2.1.getD (Int.toNat 0) default) true) ∧ ((decide ((xq.2.2.2.1.length : Int) > 0)) = false → ∃ k, rlnl19 xq xuntil K k)
theorem rln_ok {g : Ghost} {axq_0 : Option Addr} {cxq_0 : Nat} {axq_1 : Option Addr} {cxq_1 : Nat} {axq_2 : Option Addr} {cxq_2 : Nat} (xq : JL) (xuntil : Int) (hRxq_0 : Rep g (.slice (.pair (.int .i64) (.pair (.int .i64) (.pair (.bool) (.pair (.str) (.pair (.int .i64) (.pair (.int .i64) (.str)))))))) [.slice axq_0 xq.2.2.1.length cxq_0] xq.2.2.1) (hRxq_1 : Rep g (.slice (.pair (.int .i64) (.pair (.int .i64) (.pair (.bool) (.pair (.str) (.pair (.int .i64) (.pair (.int .i64) (.str)))))))) [.slice axq_1 xq.2.2.2.1.length cxq_1] xq.2.2.2.1) (hRxq_2 : Rep g (.slice (.pair (.int .i64) (.pair (.int .i64) (.pair (.int .i64) (.pair (.int .i64) (.str)))))) [.slice axq_2 xq.2.2.2.2.length cxq_2] xq.2.2.2.2) (K : (JL) → (JJ) → Bool → Prop)
  (hF : rlnF xq xuntil K) : CallsH Try.prog 18 #[.agg #[.int .i64 xq.1, .int .i64 xq.2.1, .slice axq_0 xq.2.2.1.length cxq_0, .slice axq_1 xq.2.2.2.1.length cxq_1, .slice axq_2 xq.2.2.2.2.length cxq_2], .int .i64 xuntil] g [] (fun g' H' v => ∃ (r0 : JL), ∃ (r1 : JJ), ∃ (r2 : Bool), ∃ (ar0_0 : Option Addr) (cr0_0 : Nat), ∃ (ar0_1 : Option Addr) (cr0_1 : Nat), ∃ (ar0_2 : Option Addr) (cr0_2 : Nat), v = .tuple #[.agg #[.int .i64 r0.1, .int .i64 r0.2.1, .slice ar0_0 r0.2.2.1.length cr0_0, .slice ar0_1 r0.2.2.2.1.length cr0_1, .slice ar0_2 r0.2.2.2.2.length cr0_2], .agg #[.int .i64 r1.1, .int .i64 r1.2.1, .bool r1.2.2.1, sv r1.2.2.2.1, .int .i64 r1.2.2.2.2.1, .int .i64 r1.2.2.2.2.2.1, sv r1.2.2.2.2.2.2], .bool r2] ∧ Rep g' (.slice (.pair (.int .i64) (.pair (.int .i64) (.pair (.bool) (.pair (.str) (.pair (.int .i64) (.pair (.int .i64) (.str)))))))) [.slice ar0_0 r0.2.2.1.length cr0_0] r0.2.2.1 ∧ Rep g' (.slice (.pair (.int .i64) (.pair (.int .i64) (.pair (.bool) (.pair (.str) (.pair (.int .i64) (.pair (.int .i64) (.str)))))))) [.slice ar0_1 r0.2.2.2.1.length cr0_1] r0.2.2.2.1 ∧ Rep g' (.slice (.pair (.int .i64) (.pair (.int .i64) (.pair (.int .i64) (.pair (.int .i64) (.str)))))) [.slice ar0_2 r0.2.2.2.2.length cr0_2] r0.2.2.2.2 ∧ H' = [] ∧ K r0 r1 r2) := by
 refine CallsH.enter 122 [(0, .agg #[.int .i64 xq.1, .int .i64 xq.2.1, .slice axq_0 xq.2.2.1.length cxq_0, .slice axq_1 xq.2.2.2.1.length cxq_1, .slice axq_2 xq.2.2.2.2.length cxq_2]), (1, .int .i64 xuntil)] Try.func18 rfl (by kernel_rfl) (by kernel_rfl) (by kernel_rfl) fun w0 => ?_
 refine Ok.seq (Ok.region (Ok.op rfl (OpOk.box (v := .agg #[.int .i64 xq.1, .int .i64 xq.2.1, .slice axq_0 xq.2.2.1.length cxq_0, .slice axq_1 xq.2.2.2.1.length cxq_1, .slice axq_2 xq.2.2.2.2.length cxq_2]) (cs := #[.int .i64 xq.1, .int .i64 xq.2.1, .slice axq_0 xq.2.2.1.length cxq_0, .slice axq_1 xq.2.2.2.1.length cxq_1, .slice axq_2 xq.2.2.2.2.length cxq_2]) rfl (by kernel_rfl) rfl fun bs2 => ?_)))
 refine Ok.op rfl (OpOk.alloc (z := .agg #[.int .i64 0, .int .i64 0, .slice none 0 0, .slice none 0 0, .slice none 0 0]) (cs := #[.int .i64 0, .int .i64 0, .slice none 0 0, .slice none 0 0, .slice none 0 0]) (by kernel_rfl) (by kernel_rfl) rfl fun bs4 => ?_)
 refine Ok.op rfl (OpOk.alloc (z := .agg #[.int .i64 0, .int .i64 0, .bool false, sv ([] : Bs), .int .i64 0, .int .i64 0, sv ([] : Bs)]) (cs := #[.int .i64 0, .int .i64 0, .bool false, sv ([] : Bs), .int .i64 0, .int .i64 0, sv ([] : Bs)]) (by kernel_rfl) (by kernel_rfl) rfl fun bs5 => ?_)
 refine Ok.batch 1 [(1, .int .i64 xuntil), (2, pv bs2 0), (4, pv bs4 0), (5, pv bs5 0)] (by kernel_rfl) (Ok.nil (Ok.thenN (Ok.seq (Ok.seq (Ok.region (Ok.bat 1 [1, 2, 4, 5] [(12, pv bs2 3)] ?_))))))
 refine Ok.op rfl (OpOk.step (v := .slice axq_1 xq.2.2.2.1.length cxq_1) (Yields.load 2 rfl rfl Try.underlying34 rfl (by kernel_rfl)) rfl rfl (Ok.bat 2 [1, 2, 4, 5] [(15, .bool (decide ((xq.2.2.2.1.length : Int) > 0)))] ?_))
 refine Ok.nil (Ok.thenN (Ok.cond (b := decide ((xq.2.2.2.1.length : Int) > 0)) rfl (fun hc4 => ?_) (fun hc4 => ?_)))
 ·replace hF := hF.1 hc4
  refine Ok.seq (Ok.region (Ok.bat 1 [2, 4, 5] [(16, pv bs2 3)] ?_))
  refine Ok.op rfl (OpOk.step (v := .slice axq_1 xq.2.2.2.1.length cxq_1) (Yields.load 2 rfl rfl Try.underlying34 rfl (by kernel_rfl)) rfl rfl ?_)
  obtain ⟨h06, h16, hF⟩ := hF
  have he6 := get_of (l := xq.2.2.2.1) (default : JJ) h16
  generalize hg6 : (xq.2.2.2.1.getD (Int.toNat 0) default) = e6 at he6 hF ⊢
  refine Ok.op rfl (OpOk.indexRo (e := .pair (.int .i64) (.pair (.int .i64) (.pair (.bool) (.pair (.str) (.pair (.int .i64) (.pair (.int .i64) (.str))))))) (i := 0) (el := e6) rfl rfl Try.underlying34 (by kernel_rfl) hRxq_1 h06 he6 rfl fun q5 o5 cs5 _ hat5 hr5 => ?_)
  obtain ⟨_, _, rfl, rfl, ⟨_, _, rfl, rfl, ⟨_, _, rfl, rfl, ⟨_, _, rfl, rfl, ⟨_, _, rfl, rfl, ⟨_, _, rfl, rfl, rfl⟩⟩⟩⟩⟩⟩ := hr5
  replace hat5 : At g q5 o5 [.int .i64 e6.1, .int .i64 e6.2.1, .bool e6.2.2.1, sv e6.2.2.2.1, .int .i64 e6.2.2.2.2.1, .int .i64 e6.2.2.2.2.2.1, sv e6.2.2.2.2.2.2] := hat5
  refine Ok.op rfl (OpOk.step (v := .agg #[.int .i64 e6.1, .int .i64 e6.2.1, .bool e6.2.2.1, sv e6.2.2.2.1, .int .i64 e6.2.2.2.2.1, .int .i64 e6.2.2.2.2.2.1, sv e6.2.2.2.2.2.2]) (Yields.loadAggRo 0 7 #[.int .i64 e6.1, .int .i64 e6.2.1, .bool e6.2.2.1, sv e6.2.2.2.1, .int .i64 e6.2.2.2.2.1, .int .i64 e6.2.2.2.2.2.1, sv e6.2.2.2.2.2.2] hat5 (by kernel_rfl) Try.underlying43 rfl (by kernel_rfl) (by kernel_rfl) (by kernel_rfl)) rfl rfl (Ok.op rfl (OpOk.alloc (z := .agg #[.int .i64 0, .int .i64 0, .bool false, sv ([] : Bs), .int .i64 0, .int .i64 0, sv ([] : Bs)]) (cs := #[.int .i64 0, .int .i64 0, .bool false, sv ([] : Bs), .int .i64 0, .int .i64 0, sv ([] : Bs)]) (by kernel_rfl) (by kernel_rfl) rfl fun bs7 => ?_)))
  refine Ok.op rfl (OpOk.sto (k := 7) (v := .agg #[.int .i64 e6.1, .int .i64 e6.2.1, .bool e6.2.2.1, sv e6.2.2.2.1, .int .i64 e6.2.2.2.2.1, .int .i64 e6.2.2.2.2.2.1, sv e6.2.2.2.2.2.2]) 0 #[.int .i64 e6.1, .int .i64 e6.2.1, .bool e6.2.2.1, sv e6.2.2.2.1, .int .i64 e6.2.2.2.2.1, .int .i64 e6.2.2.2.2.2.1, sv e6.2.2.2.2.2.2] rfl rfl rfl ?_)
  refine Ok.nil (Ok.thenN (Ok.seq (Ok.region (Ok.bat 1 [2, 4, 5] [(7, pv bs7 0), (20, pv bs2 3)] ?_))))
  refine Ok.op rfl (OpOk.step (v := .slice axq_1 xq.2.2.2.1.length cxq_1) (Yields.load 3 rfl rfl Try.underlying34 rfl (by kernel_rfl)) rfl rfl ?_)
  obtain ⟨h08, h18, h28, hF⟩ := hF
  refine Ok.op rfl (OpOk.sliceRo (e := .pair (.int .i64) (.pair (.int .i64) (.pair (.bool) (.pair (.str) (.pair (.int .i64) (.pair (.int .i64) (.str))))))) (l := 1) (h := (xq.2.2.2.1.length : Int)) rfl Try.underlying34 (by kernel_rfl) (.inl ⟨_, _, rfl, rfl⟩) (.inr ⟨rfl, rfl⟩) hRxq_1 h08 h18 h28 rfl (xq.2.2.2.1.drop (Int.toNat 1)) (by rw [show ((xq.2.2.2.1.length : Int)).toNat = xq.2.2.2.1.length from Int.toNat_natCast _, List.take_length]) fun a8 c8 hR8 => ?_)
  refine Ok.bat 1 [2, 4, 5, 7] [(22, .slice a8 (xq.2.2.2.1.drop (Int.toNat 1)).length c8), (23, pv bs2 3)] ?_
  refine Ok.op rfl (OpOk.sto (k := 1) (v := .slice a8 (xq.2.2.2.1.drop (Int.toNat 1)).length c8) 3 #[.int .i64 xq.1, .int .i64 xq.2.1, .slice axq_0 xq.2.2.1.length cxq_0, .slice a8 (xq.2.2.2.1.drop (Int.toNat 1)).length c8, .slice axq_2 xq.2.2.2.2.length cxq_2] rfl rfl rfl ?_)
  refine Ok.nil (Ok.thenN (Ok.seq (Ok.mix [] [] _ [(0, true), (1, true), (2, false), (3, false), (4, true)] (by kernel_rfl) (by kernel_rfl) (.cons_cons _ (.cons _ (.cons _ (.cons_cons _ .slnil)))) (OkM.head rfl rfl rfl (OpQ.step (v := .agg #[.int .i64 xq.1, .int .i64 xq.2.1, .slice axq_0 xq.2.2.1.length cxq_0, .slice a8 (xq.2.2.2.1.drop (Int.toNat 1)).length c8, .slice axq_2 xq.2.2.2.2.length cxq_2]) (Yields.loadAgg 1 5 #[.int .i64 xq.1, .int .i64 xq.2.1, .slice axq_0 xq.2.2.1.length cxq_0, .slice a8 (xq.2.2.2.1.drop (Int.toNat 1)).length c8, .slice axq_2 xq.2.2.2.2.length cxq_2] rfl rfl Try.underlying37 rfl (by kernel_rfl) (by kernel_rfl) (by kernel_rfl)) rfl rfl (OkM.head rfl rfl rfl (OpQ.step (v := .agg #[.int .i64 e6.1, .int .i64 e6.2.1, .bool e6.2.2.1, sv e6.2.2.2.1, .int .i64 e6.2.2.2.2.1, .int .i64 e6.2.2.2.2.2.1, sv e6.2.2.2.2.2.2]) (Yields.loadAgg 0 7 #[.int .i64 e6.1, .int .i64 e6.2.1, .bool e6.2.2.1, sv e6.2.2.2.1, .int .i64 e6.2.2.2.2.1, .int .i64 e6.2.2.2.2.2.1, sv e6.2.2.2.2.2.2] rfl rfl Try.underlying43 rfl (by kernel_rfl) (by kernel_rfl) (by kernel_rfl)) rfl rfl (OkM.tail rfl rfl (OpOk.sto (k := 5) (v := .agg #[.int .i64 xq.1, .int .i64 xq.2.1, .slice axq_0 xq.2.2.1.length cxq_0, .slice a8 (xq.2.2.2.1.drop (Int.toNat 1)).length c8, .slice axq_2 xq.2.2.2.2.length cxq_2]) 2 #[.int .i64 xq.1, .int .i64 xq.2.1, .slice axq_0 xq.2.2.1.length cxq_0, .slice a8 (xq.2.2.2.1.drop (Int.toNat 1)).length c8, .slice axq_2 xq.2.2.2.2.length cxq_2] rfl rfl rfl ?_)))))))))
  refine OkM.leaf (i := 2) rfl (Gle.refl _) (.cons_cons _ (.cons _ (.cons _ (.cons_cons _ .slnil)))) (OkM.tail rfl rfl (OpOk.sto (k := 7) (v := .agg #[.int .i64 e6.1, .int .i64 e6.2.1, .bool e6.2.2.1, sv e6.2.2.2.1, .int .i64 e6.2.2.2.2.1, .int .i64 e6.2.2.2.2.2.1, sv e6.2.2.2.2.2.2]) 1 #[.int .i64 e6.1, .int .i64 e6.2.1, .bool e6.2.2.1, sv e6.2.2.2.1, .int .i64 e6.2.2.2.2.1, .int .i64 e6.2.2.2.2.2.1, sv e6.2.2.2.2.2.2] rfl rfl rfl ?_))
  refine OkM.leaf (i := 3) rfl (Gle.refl _) (.cons_cons _ (.cons _ (.cons _ (.cons_cons _ .slnil)))) (OkM.bat 1 [4, 5] [(6, .bool true)] ?_)
  refine OkM.nil (Ok.thenN (Ok.ret (Ok.thenR ?_)))
  exact Ok.resP (vs := [.agg #[.int .i64 xq.1, .int .i64 xq.2.1, .slice axq_0 xq.2.2.1.length cxq_0, .slice a8 (xq.2.2.2.1.drop (Int.toNat 1)).length c8, .slice axq_2 xq.2.2.2.2.length cxq_2], .agg #[.int .i64 e6.1, .int .i64 e6.2.1, .bool e6.2.2.1, sv e6.2.2.2.1, .int .i64 e6.2.2.2.2.1, .int .i64 e6.2.2.2.2.2.1, sv e6.2.2.2.2.2.2], .bool true]) [] [] (by decide) rfl (.inl rfl) rfl (.cons (.cellAgg 2 5 #[.int .i64 xq.1, .int .i64 xq.2.1, .slice axq_0 xq.2.2.1.length cxq_0, .slice a8 (xq.2.2.2.1.drop (Int.toNat 1)).length c8, .slice axq_2 xq.2.2.2.2.length cxq_2] rfl rfl Try.underlying37 rfl (by kernel_rfl) (by kernel_rfl) (by kernel_rfl)) (.cons (.cellAgg 1 7 #[.int .i64 e6.1, .int .i64 e6.2.1, .bool e6.2.2.1, sv e6.2.2.2.1, .int .i64 e6.2.2.2.2.1, .int .i64 e6.2.2.2.2.2.1, sv e6.2.2.2.2.2.2] rfl rfl Try.underlying43 rfl (by kernel_rfl) (by kernel_rfl) (by kernel_rfl)) (.cons (.tmp rfl) .nil))) (Gext.refl w0 g) ⟨(xq.1, xq.2.1, xq.2.2.1, (xq.2.2.2.1.drop (Int.toNat 1)), xq.2.2.2.2), e6, true, axq_0, cxq_0, a8, c8, axq_2, cxq_2, rfl, hRxq_0, hR8, hRxq_2, rfl, hF⟩
 ·replace hF := hF.2 hc4
  refine Ok.skip (Ok.thenN (Ok.cut (fun a W => ∃ gj15 : Ghost, Gext w0 g gj15 ∧ StA 122 [(1, .int .i64 xuntil), (2, pv bs2 0), (4, pv bs4 0), (5, pv bs5 0)] a ∧ StW w0 [.blk bs5 (.cells #[.int .i64 0, .int .i64 0, .bool false, sv ([] : Bs), .int .i64 0, .int .i64 0, sv ([] : Bs)] 43), .blk bs4 (.cells #[.int .i64 0, .int .i64 0, .slice none 0 0, .slice none 0 0, .slice none 0 0] 37), .blk bs2 (.cells #[.int .i64 xq.1, .int .i64 xq.2.1, .slice axq_0 xq.2.2.1.length cxq_0, .slice axq_1 xq.2.2.2.1.length cxq_1, .slice axq_2 xq.2.2.2.2.length cxq_2] 37)] gj15 W ∧ rlnj15 xq xuntil K) ?_ ?_))
  ·
   refine Ok.seq (Ok.region (Ok.bat 1 [1, 2, 4, 5] [(26, pv bs2 4)] ?_))
   refine Ok.op rfl (OpOk.step (v := .slice axq_2 xq.2.2.2.2.length cxq_2) (Yields.load 2 rfl rfl Try.underlying35 rfl (by kernel_rfl)) rfl rfl (Ok.bat 2 [1, 2, 4, 5] [(27, .slice axq_2 xq.2.2.2.2.length cxq_2), (28, .int .i64 (xq.2.2.2.2.length : Int)), (29, .int .i64 0)] ?_))
   refine Ok.nil (Ok.thenN (Ok.block ?_))
   obtain ⟨k, hF⟩ := hF
   refine Ok.loop (fun k a W => ∃ gl19 : Ghost, Gext w0 g gl19 ∧ StA 122 [(1, .int .i64 xuntil), (2, pv bs2 0), (4, pv bs4 0), (5, pv bs5 0), (27, .slice axq_2 xq.2.2.2.2.length cxq_2), (28, .int .i64 (xq.2.2.2.2.length : Int)), (29, .int .i64 0)] a ∧ StW w0 [.blk bs5 (.cells #[.int .i64 0, .int .i64 0, .bool false, sv ([] : Bs), .int .i64 0, .int .i64 0, sv ([] : Bs)] 43), .blk bs4 (.cells #[.int .i64 0, .int .i64 0, .slice none 0 0, .slice none 0 0, .slice none 0 0] 37), .blk bs2 (.cells #[.int .i64 xq.1, .int .i64 xq.2.1, .slice axq_0 xq.2.2.1.length cxq_0, .slice axq_1 xq.2.2.2.1.length cxq_1, .slice axq_2 xq.2.2.2.2.length cxq_2] 37)] gl19 W ∧ rlnl19 xq xuntil K k) k ?_ ?_
   ·
    exact fun a W hA hW => ⟨g, (Gext.refl w0 g), hA.sub (by kernel_rfl), hW, hF⟩
   ·
    clear hF
    rintro k19 a W ⟨gl19, hxl19, hA, hW, hF⟩
    cases k19 with
    | zero => exact (hF : False).elim
    | succ k19 =>
     refine (?_ : Ok _ _ _ _ _ _) a W hA hW
     clear hA hW
     replace hRxq_2 := hRxq_2.mono hxl19.1
     replace hRxq_0 := hRxq_0.mono hxl19.1
     replace hRxq_1 := hRxq_1.mono hxl19.1
     refine Ok.seq (Ok.region (Ok.bat 1 [1, 2, 4, 5, 27, 29] [(30, .bool (decide (0 < (xq.2.2.2.2.length : Int))))] ?_))
     refine Ok.nil (Ok.thenN (Ok.seq (Ok.cond (b := decide (0 < (xq.2.2.2.2.length : Int))) rfl (fun hc14 => ?_) (fun hc14 => ?_))))
     ·replace hF := hF.1 hc14
      refine Ok.skip (Ok.thenN (Ok.seq (Ok.block (Ok.seq (Ok.region ?_)))))
      obtain ⟨h016, h116, hF⟩ := hF
      have he16 := get_of (l := xq.2.2.2.2) (default : JT) h116
      generalize hg16 : (xq.2.2.2.2.getD (Int.toNat 0) default) = e16 at he16 hF ⊢
      refine Ok.op rfl (OpOk.indexRo (e := .pair (.int .i64) (.pair (.int .i64) (.pair (.int .i64) (.pair (.int .i64) (.str))))) (i := 0) (el := e16) rfl rfl Try.underlying35 (by kernel_rfl) hRxq_2 h016 he16 rfl fun q15 o15 cs15 _ hat15 hr15 => ?_)
      obtain ⟨_, _, rfl, rfl, ⟨_, _, rfl, rfl, ⟨_, _, rfl, rfl, ⟨_, _, rfl, rfl, rfl⟩⟩⟩⟩ := hr15
      replace hat15 : At gl19 q15 o15 [.int .i64 e16.1, .int .i64 e16.2.1, .int .i64 e16.2.2.1, .int .i64 e16.2.2.2.1, sv e16.2.2.2.2] := hat15
      refine Ok.op rfl (OpOk.step (v := .agg #[.int .i64 e16.1, .int .i64 e16.2.1, .int .i64 e16.2.2.1, .int .i64 e16.2.2.2.1, sv e16.2.2.2.2]) (Yields.loadAggRo 0 5 #[.int .i64 e16.1, .int .i64 e16.2.1, .int .i64 e16.2.2.1, .int .i64 e16.2.2.2.1, sv e16.2.2.2.2] hat15 (by kernel_rfl) Try.underlying93 rfl (by kernel_rfl) (by kernel_rfl) (by kernel_rfl)) rfl rfl (Ok.op rfl (OpOk.alloc (z := .agg #[.int .i64 0, .int .i64 0, .int .i64 0, .int .i64 0, sv ([] : Bs)]) (cs := #[.int .i64 0, .int .i64 0, .int .i64 0, .int .i64 0, sv ([] : Bs)]) (by kernel_rfl) (by kernel_rfl) rfl fun bs9 => ?_)))
      refine Ok.op rfl (OpOk.sto (k := 5) (v := .agg #[.int .i64 e16.1, .int .i64 e16.2.1, .int .i64 e16.2.2.1, .int .i64 e16.2.2.2.1, sv e16.2.2.2.2]) 0 #[.int .i64 e16.1, .int .i64 e16.2.1, .int .i64 e16.2.2.1, .int .i64 e16.2.2.2.1, sv e16.2.2.2.2] rfl rfl rfl ?_)
      refine Ok.nil (Ok.thenN (Ok.seq (Ok.cut (fun a W => ∃ gj31 : Ghost, Gext w0 gl19 gj31 ∧ StA 122 [(1, .int .i64 xuntil), (2, pv bs2 0), (4, pv bs4 0), (5, pv bs5 0), (9, pv bs9 0), (49, .bool (rlnV4 xq xuntil e16))] a ∧ StW w0 [.blk bs9 (.cells #[.int .i64 e16.1, .int .i64 e16.2.1, .int .i64 e16.2.2.1, .int .i64 e16.2.2.2.1, sv e16.2.2.2.2] 93), .blk bs5 (.cells #[.int .i64 0, .int .i64 0, .bool false, sv ([] : Bs), .int .i64 0, .int .i64 0, sv ([] : Bs)] 43), .blk bs4 (.cells #[.int .i64 0, .int .i64 0, .slice none 0 0, .slice none 0 0, .slice none 0 0] 37), .blk bs2 (.cells #[.int .i64 xq.1, .int .i64 xq.2.1, .slice axq_0 xq.2.2.1.length cxq_0, .slice axq_1 xq.2.2.2.1.length cxq_1, .slice axq_2 xq.2.2.2.2.length cxq_2] 37)] gj31 W ∧ rlnj31 xq xuntil K e16) ?_ ?_)))
      ·
       refine Ok.region (Ok.bat 1 [1, 2, 4, 5] [(9, pv bs9 0), (33, pv bs9 1)] ?_)
       refine Ok.op rfl (OpOk.step (v := .int .i64 e16.2.1) (Yields.load 0 rfl rfl Try.underlying3 rfl (by kernel_rfl)) rfl rfl (Ok.bat 1 [1, 2, 4, 5, 9] [(34, .int .i64 e16.2.1), (35, pv bs2 0)] ?_))
       refine Ok.op rfl (OpOk.step (v := .int .i64 xq.1) (Yields.load 3 rfl rfl Try.underlying3 rfl (by kernel_rfl)) rfl rfl (Ok.bat 2 [1, 2, 4, 5, 9] [(38, .bool (decide (e16.2.1 > xq.1)))] ?_))
       refine Ok.boolAt 38 (decide (e16.2.1 > xq.1)) rfl (fun hc27 => ?_) (fun hc27 => ?_)
       ·replace hF := hF.1 hc27
        refine Ok.bat 1 [1, 2, 4, 5, 9] [(38, .bool true), (39, pv bs2 2)] ?_
        refine Ok.opYes (j := 5) (d := 38) (want := true) (b := true) rfl (by kernel_rfl) (by kernel_rfl) rfl (OpOk.step (v := .slice axq_0 xq.2.2.1.length cxq_0) (Yields.load 3 rfl rfl Try.underlying34 rfl (by kernel_rfl)) rfl rfl (Ok.bat 3 [1, 2, 4, 5, 9, 38] [(43, .bool (decide ((xq.2.2.1.length : Int) > 0)))] ?_))
        refine Ok.boolAt 43 (decide ((xq.2.2.1.length : Int) > 0)) rfl (fun hc28 => ?_) (fun hc28 => ?_)
        ·replace hF := hF.1 hc28
         refine Ok.bat 6 [1, 2, 4, 5, 9] [(49, .bool true)] ?_
         refine Ok.nil (Ok.thenN (Ok.reval 49 rfl (show (.bool true : Value) = .bool (rlnV4 xq xuntil e16) from congrArg (Value.bool) ((Eq.trans (mor_t hc28) (mand_t hc27)))) ?_))
         exact fun a W hA hW => ⟨gl19, (Gext.refl w0 gl19), hA.sub (by kernel_rfl), hW, hF⟩
        ·replace hF := hF.2 hc28
         refine Ok.bat 1 [1, 2, 4, 5, 9, 38] [(43, .bool false), (44, pv bs9 1)] ?_
         refine Ok.opYes (j := 10) (d := 43) (want := false) (b := false) rfl (by kernel_rfl) (by kernel_rfl) rfl (OpOk.step (v := .int .i64 e16.2.1) (Yields.load 0 rfl rfl Try.underlying3 rfl (by kernel_rfl)) rfl rfl (Ok.bat 4 [1, 2, 4, 5, 9] [(49, .bool (decide (e16.2.1 > xuntil)))] ?_))
         refine Ok.nil (Ok.thenN (Ok.reval 49 rfl (show (.bool (decide (e16.2.1 > xuntil)) : Value) = .bool (rlnV4 xq xuntil e16) from congrArg (Value.bool) ((Eq.trans (mor_f hc28) (mand_t hc27)))) ?_))
         exact fun a W hA hW => ⟨gl19, (Gext.refl w0 gl19), hA.sub (by kernel_rfl), hW, hF⟩
       ·replace hF := hF.2 hc27
        refine Ok.bat 11 [1, 2, 4, 5, 9] [(49, .bool false)] ?_
        refine Ok.nil (Ok.thenN (Ok.reval 49 rfl (show (.bool false : Value) = .bool (rlnV4 xq xuntil e16) from congrArg (Value.bool) (mand_f hc27)) ?_))
        exact fun a W hA hW => ⟨gl19, (Gext.refl w0 gl19), hA.sub (by kernel_rfl), hW, hF⟩
      ·
       clear hF
       rintro a W ⟨gj31, hxj31, hA, hW, hF⟩
       refine (?_ : Ok _ _ _ _ _ _) a W hA hW
       clear hA hW
       replace hRxq_0 := hRxq_0.mono hxj31.1
       replace hRxq_1 := hRxq_1.mono hxj31.1
       replace hRxq_2 := hRxq_2.mono hxj31.1
       refine Ok.cond (b := (rlnV4 xq xuntil e16)) rfl (fun hc18 => ?_) (fun hc18 => ?_)
       ·replace hF := hF.1 hc18
        refine Ok.exit (Ok.thenE (Ok.blockMiss rfl (Ok.thenE (Ok.thenE (Ok.blockHit (Ok.thenN ?_))))))
        subst hg16
        exact fun a W hA hW => ⟨gj31, (hxl19.trans hxj31), hA.sub (by kernel_rfl), hW.sub (.cons _ (.cons_cons _ (.cons_cons _ (.cons_cons _ .slnil)))), hF⟩
       ·replace hF := hF.2 hc18
        refine Ok.skip (Ok.thenN (Ok.seq (Ok.region (Ok.bat 1 [2, 4, 5, 9] [(50, pv bs2 4)] ?_))))
        refine Ok.op rfl (OpOk.step (v := .slice axq_2 xq.2.2.2.2.length cxq_2) (Yields.load 3 rfl rfl Try.underlying35 rfl (by kernel_rfl)) rfl rfl ?_)
        obtain ⟨h019, h119, h219, hF⟩ := hF
        refine Ok.op rfl (OpOk.sliceRo (e := .pair (.int .i64) (.pair (.int .i64) (.pair (.int .i64) (.pair (.int .i64) (.str))))) (l := 1) (h := (xq.2.2.2.2.length : Int)) rfl Try.underlying35 (by kernel_rfl) (.inl ⟨_, _, rfl, rfl⟩) (.inr ⟨rfl, rfl⟩) hRxq_2 h019 h119 h219 rfl (xq.2.2.2.2.drop (Int.toNat 1)) (by rw [show ((xq.2.2.2.2.length : Int)).toNat = xq.2.2.2.2.length from Int.toNat_natCast _, List.take_length]) fun a19 c19 hR19 => ?_)
        refine Ok.bat 1 [2, 4, 5, 9] [(52, .slice a19 (xq.2.2.2.2.drop (Int.toNat 1)).length c19), (53, pv bs2 4)] ?_
        refine Ok.op rfl (OpOk.sto (k := 1) (v := .slice a19 (xq.2.2.2.2.drop (Int.toNat 1)).length c19) 3 #[.int .i64 xq.1, .int .i64 xq.2.1, .slice axq_0 xq.2.2.1.length cxq_0, .slice axq_1 xq.2.2.2.1.length cxq_1, .slice a19 (xq.2.2.2.2.drop (Int.toNat 1)).length c19] rfl rfl rfl ?_)
        refine Ok.nil (Ok.thenN (Ok.cut (fun a W => ∃ gj38 : Ghost, Gext w0 gj31 gj38 ∧ StA 122 [(2, pv bs2 0), (4, pv bs4 0), (5, pv bs5 0), (9, pv bs9 0)] a ∧ StW w0 [.blk bs9 (.cells #[.int .i64 e16.1, .int .i64 e16.2.1, .int .i64 e16.2.2.1, .int .i64 e16.2.2.2.1, sv e16.2.2.2.2] 93), .blk bs5 (.cells #[.int .i64 0, .int .i64 0, .bool false, sv ([] : Bs), .int .i64 0, .int .i64 0, sv ([] : Bs)] 43), .blk bs4 (.cells #[.int .i64 0, .int .i64 0, .slice none 0 0, .slice none 0 0, .slice none 0 0] 37), .blk bs2 (.cells #[.int .i64 (rlnV5 xq e16), .int .i64 xq.2.1, .slice axq_0 xq.2.2.1.length cxq_0, .slice axq_1 xq.2.2.2.1.length cxq_1, .slice a19 (xq.2.2.2.2.drop (Int.toNat 1)).length c19] 37)] gj38 W ∧ rlnj38 xq K e16) ?_ ?_))
        ·
         refine Ok.seq (Ok.region (Ok.bat 1 [2, 4, 5, 9] [(54, pv bs9 1)] ?_))
         refine Ok.op rfl (OpOk.step (v := .int .i64 e16.2.1) (Yields.load 0 rfl rfl Try.underlying3 rfl (by kernel_rfl)) rfl rfl (Ok.bat 1 [2, 4, 5, 9] [(55, .int .i64 e16.2.1), (56, pv bs2 0)] ?_))
         refine Ok.op rfl (OpOk.step (v := .int .i64 xq.1) (Yields.load 3 rfl rfl Try.underlying3 rfl (by kernel_rfl)) rfl rfl (Ok.bat 1 [2, 4, 5, 9] [(58, .bool (decide (e16.2.1 > xq.1)))] ?_))
         refine Ok.nil (Ok.thenN (Ok.cond (b := decide (e16.2.1 > xq.1)) rfl (fun hc26 => ?_) (fun hc26 => ?_)))
         ·replace hF := hF.1 hc26
          refine Ok.region (Ok.bat 1 [2, 4, 5, 9] [(59, pv bs9 1)] ?_)
          refine Ok.op rfl (OpOk.step (v := .int .i64 e16.2.1) (Yields.load 0 rfl rfl Try.underlying3 rfl (by kernel_rfl)) rfl rfl (Ok.bat 1 [2, 4, 5, 9] [(60, .int .i64 e16.2.1), (61, pv bs2 0)] ?_))
          refine Ok.op rfl (OpOk.sto (k := 1) (v := .int .i64 e16.2.1) 3 #[.int .i64 e16.2.1, .int .i64 xq.2.1, .slice axq_0 xq.2.2.1.length cxq_0, .slice axq_1 xq.2.2.2.1.length cxq_1, .slice a19 (xq.2.2.2.2.drop (Int.toNat 1)).length c19] rfl rfl rfl ?_)
          refine Ok.nil (Ok.thenN (Ok.entEq 3 (e' := .blk bs2 (.cells #[.int .i64 (rlnV5 xq e16), .int .i64 xq.2.1, .slice axq_0 xq.2.2.1.length cxq_0, .slice axq_1 xq.2.2.2.1.length cxq_1, .slice a19 (xq.2.2.2.2.drop (Int.toNat 1)).length c19] 37)) rfl (congrArg (fun l : List Value => Ent.blk bs2 (.cells ⟨l⟩ 37)) (lcons (congrArg (Value.int .i64) ((if_t hc26).symm)) (lcons (rfl) (lcons (rfl) (lcons (rfl) (lcons (rfl) rfl)))))) ?_))
          exact fun a W hA hW => ⟨gj31, (Gext.refl w0 gj31), hA.sub (by kernel_rfl), hW, hF⟩
         ·replace hF := hF.2 hc26
          refine Ok.skip (Ok.thenN (Ok.entEq 3 (e' := .blk bs2 (.cells #[.int .i64 (rlnV5 xq e16), .int .i64 xq.2.1, .slice axq_0 xq.2.2.1.length cxq_0, .slice axq_1 xq.2.2.2.1.length cxq_1, .slice a19 (xq.2.2.2.2.drop (Int.toNat 1)).length c19] 37)) rfl (congrArg (fun l : List Value => Ent.blk bs2 (.cells ⟨l⟩ 37)) (lcons (congrArg (Value.int .i64) ((if_f hc26).symm)) (lcons (rfl) (lcons (rfl) (lcons (rfl) (lcons (rfl) rfl)))))) ?_))
          exact fun a W hA hW => ⟨gj31, (Gext.refl w0 gj31), hA.sub (by kernel_rfl), hW, hF⟩
        ·
         clear hF
         rintro a W ⟨gj38, hxj38, hA, hW, hF⟩
         refine (?_ : Ok _ _ _ _ _ _) a W hA hW
         clear hA hW
         replace hRxq_0 := hRxq_0.mono hxj38.1
         replace hRxq_1 := hRxq_1.mono hxj38.1
         replace hR19 := hR19.mono hxj38.1
         refine Ok.seq (Ok.region (Ok.bat 1 [2, 4, 5, 9] [(62, pv bs9 0)] ?_))
         refine Ok.op rfl (OpOk.step (v := .int .i64 e16.1) (Yields.load 0 rfl rfl Try.underlying3 rfl (by kernel_rfl)) rfl rfl (Ok.bat 1 [2, 4, 5, 9] [(63, .int .i64 e16.1), (64, pv bs9 4)] ?_))
         refine Ok.op rfl (OpOk.step (v := sv e16.2.2.2.2) (Yields.load 0 rfl rfl Try.underlying9 rfl (by kernel_rfl)) rfl rfl (Ok.bat 1 [2, 4, 5, 9, 63] [(65, sv e16.2.2.2.2), (66, pv bs9 3)] ?_))
         refine Ok.op rfl (OpOk.step (v := .int .i64 e16.2.2.2.1) (Yields.load 0 rfl rfl Try.underlying3 rfl (by kernel_rfl)) rfl rfl (Ok.bat 2 [2, 4, 5, 9] [(69, .agg #[.int .i64 e16.1, .int .i64 3, .bool false, sv e16.2.2.2.2, .int .i64 2, .int .i64 e16.2.2.2.1, sv ([] : Bs)])] ?_))
         refine Ok.op rfl (OpOk.alloc (z := .agg #[.int .i64 0, .int .i64 0, .bool false, sv ([] : Bs), .int .i64 0, .int .i64 0, sv ([] : Bs)]) (cs := #[.int .i64 0, .int .i64 0, .bool false, sv ([] : Bs), .int .i64 0, .int .i64 0, sv ([] : Bs)]) (by kernel_rfl) (by kernel_rfl) rfl fun bs10 => ?_)
         refine Ok.op rfl (OpOk.sto (k := 7) (v := .agg #[.int .i64 e16.1, .int .i64 3, .bool false, sv e16.2.2.2.2, .int .i64 2, .int .i64 e16.2.2.2.1, sv ([] : Bs)]) 0 #[.int .i64 e16.1, .int .i64 3, .bool false, sv e16.2.2.2.2, .int .i64 2, .int .i64 e16.2.2.2.1, sv ([] : Bs)] rfl rfl rfl ?_)
         refine Ok.nil (Ok.thenN (Ok.cut (fun a W => ∃ gj46 : Ghost, Gext w0 gj38 gj46 ∧ ∃ (aybs2_4j46 : Option Addr) (cybs2_4j46 : Nat), Rep gj46 (.slice (.pair (.int .i64) (.pair (.int .i64) (.pair (.int .i64) (.pair (.int .i64) (.str)))))) [.slice aybs2_4j46 (rlnV7 xq e16).length cybs2_4j46] (rlnV7 xq e16) ∧ StA 122 [(2, pv bs2 0), (4, pv bs4 0), (5, pv bs5 0), (10, pv bs10 0)] a ∧ StW w0 [.blk bs10 (.cells #[.int .i64 e16.1, .int .i64 3, .bool false, sv e16.2.2.2.2, .int .i64 2, .int .i64 e16.2.2.2.1, sv ([] : Bs)] 43), .blk bs5 (.cells #[.int .i64 0, .int .i64 0, .bool false, sv ([] : Bs), .int .i64 0, .int .i64 0, sv ([] : Bs)] 43), .blk bs4 (.cells #[.int .i64 0, .int .i64 0, .slice none 0 0, .slice none 0 0, .slice none 0 0] 37), .blk bs2 (.cells #[.int .i64 (rlnV5 xq e16), .int .i64 xq.2.1, .slice axq_0 xq.2.2.1.length cxq_0, .slice axq_1 xq.2.2.2.1.length cxq_1, .slice aybs2_4j46 (rlnV7 xq e16).length cybs2_4j46] 37)] gj46 W ∧ rlnj46 xq K e16) ?_ ?_))
         ·
          refine Ok.cut (fun a W => ∃ gj47 : Ghost, Gext w0 gj38 gj47 ∧ StA 122 [(2, pv bs2 0), (4, pv bs4 0), (5, pv bs5 0), (9, pv bs9 0), (10, pv bs10 0), (85, .bool (rlnV6 e16))] a ∧ StW w0 [.blk bs10 (.cells #[.int .i64 e16.1, .int .i64 3, .bool false, sv e16.2.2.2.2, .int .i64 2, .int .i64 e16.2.2.2.1, sv ([] : Bs)] 43), .blk bs9 (.cells #[.int .i64 e16.1, .int .i64 e16.2.1, .int .i64 e16.2.2.1, .int .i64 e16.2.2.2.1, sv e16.2.2.2.2] 93), .blk bs5 (.cells #[.int .i64 0, .int .i64 0, .bool false, sv ([] : Bs), .int .i64 0, .int .i64 0, sv ([] : Bs)] 43), .blk bs4 (.cells #[.int .i64 0, .int .i64 0, .slice none 0 0, .slice none 0 0, .slice none 0 0] 37), .blk bs2 (.cells #[.int .i64 (rlnV5 xq e16), .int .i64 xq.2.1, .slice axq_0 xq.2.2.1.length cxq_0, .slice axq_1 xq.2.2.2.1.length cxq_1, .slice a19 (xq.2.2.2.2.drop (Int.toNat 1)).length c19] 37)] gj47 W ∧ rlnj47 xq K e16) ?_ ?_
          ·
           refine Ok.region (Ok.bat 1 [2, 4, 5, 9] [(10, pv bs10 0), (70, pv bs9 2)] ?_)
           refine Ok.op rfl (OpOk.step (v := .int .i64 e16.2.2.1) (Yields.load 1 rfl rfl Try.underlying3 rfl (by kernel_rfl)) rfl rfl (Ok.bat 2 [2, 4, 5, 9, 10] [(73, .bool (decide (e16.2.2.1 > 0)))] ?_))
           refine Ok.boolAt 73 (decide (e16.2.2.1 > 0)) rfl (fun hc24 => ?_) (fun hc24 => ?_)
           ·replace hF := hF.1 hc24
            refine Ok.bat 1 [2, 4, 5, 9, 10] [(73, .bool true), (74, pv bs9 3)] ?_
            refine Ok.opYes (j := 3) (d := 73) (want := true) (b := true) rfl (by kernel_rfl) (by kernel_rfl) rfl (OpOk.step (v := .int .i64 e16.2.2.2.1) (Yields.load 1 rfl rfl Try.underlying3 rfl (by kernel_rfl)) rfl rfl (Ok.bat 3 [2, 4, 5, 9, 10] [(78, .bool (decide (e16.2.2.2.1 < 1000000000)))] ?_))
            refine Ok.boolAt 78 (decide (e16.2.2.2.1 < 1000000000)) rfl (fun hc25 => ?_) (fun hc25 => ?_)
            ·replace hF := hF.1 hc25
             refine Ok.bat 1 [2, 4, 5, 9, 10] [(78, .bool true), (79, pv bs9 1)] ?_
             refine Ok.opYes (j := 8) (d := 78) (want := true) (b := true) rfl (by kernel_rfl) (by kernel_rfl) rfl (OpOk.step (v := .int .i64 e16.2.1) (Yields.load 1 rfl rfl Try.underlying3 rfl (by kernel_rfl)) rfl rfl (Ok.bat 1 [2, 4, 5, 9, 10, 78] [(80, .int .i64 e16.2.1), (81, pv bs9 2)] ?_))
             refine Ok.opYes (j := 8) (d := 78) (want := true) (b := true) rfl (by kernel_rfl) (by kernel_rfl) rfl (OpOk.step (v := .int .i64 e16.2.2.1) (Yields.load 1 rfl rfl Try.underlying3 rfl (by kernel_rfl)) rfl rfl (Ok.bat 3 [2, 4, 5, 9, 10] [(85, .bool (decide ((w6 (e16.2.1 + e16.2.2.1)) ≤ 1000000000)))] ?_))
             refine Ok.nil (Ok.thenN (Ok.reval 85 rfl (show (.bool (decide ((w6 (e16.2.1 + e16.2.2.1)) ≤ 1000000000)) : Value) = .bool (rlnV6 e16) from congrArg (Value.bool) ((Eq.trans (mand_t hc25) (mand_t hc24)))) ?_))
             exact fun a W hA hW => ⟨gj38, (Gext.refl w0 gj38), hA.sub (by kernel_rfl), hW, hF⟩
            ·replace hF := hF.2 hc25
             refine Ok.bat 7 [2, 4, 5, 9, 10] [(85, .bool false)] ?_
             refine Ok.nil (Ok.thenN (Ok.reval 85 rfl (show (.bool false : Value) = .bool (rlnV6 e16) from congrArg (Value.bool) ((Eq.trans (mand_f hc25) (mand_t hc24)))) ?_))
             exact fun a W hA hW => ⟨gj38, (Gext.refl w0 gj38), hA.sub (by kernel_rfl), hW, hF⟩
           ·replace hF := hF.2 hc24
            refine Ok.bat 12 [2, 4, 5, 9, 10] [(85, .bool false)] ?_
            refine Ok.nil (Ok.thenN (Ok.reval 85 rfl (show (.bool false : Value) = .bool (rlnV6 e16) from congrArg (Value.bool) (mand_f hc24)) ?_))
            exact fun a W hA hW => ⟨gj38, (Gext.refl w0 gj38), hA.sub (by kernel_rfl), hW, hF⟩
          ·
           clear hF
           rintro a W ⟨gj47, hxj47, hA, hW, hF⟩
           refine (?_ : Ok _ _ _ _ _ _) a W hA hW
           clear hA hW
           replace hRxq_0 := hRxq_0.mono hxj47.1
           replace hRxq_1 := hRxq_1.mono hxj47.1
           replace hR19 := hR19.mono hxj47.1
           refine Ok.cond (b := (rlnV6 e16)) rfl (fun hc21 => ?_) (fun hc21 => ?_)
           ·replace hF := hF.1 hc21
            refine Ok.seq (Ok.region (Ok.bat 1 [2, 4, 5, 9, 10] [(86, pv bs9 1)] ?_))
            refine Ok.op rfl (OpOk.step (v := .int .i64 e16.2.1) (Yields.load 1 rfl rfl Try.underlying3 rfl (by kernel_rfl)) rfl rfl (Ok.bat 1 [2, 4, 5, 9, 10] [(87, .int .i64 e16.2.1), (88, pv bs9 2)] ?_))
            refine Ok.op rfl (OpOk.step (v := .int .i64 e16.2.2.1) (Yields.load 1 rfl rfl Try.underlying3 rfl (by kernel_rfl)) rfl rfl (Ok.bat 2 [2, 4, 5, 9, 10] [(90, .int .i64 (w6 (e16.2.1 + e16.2.2.1))), (91, pv bs9 1)] ?_))
            refine Ok.op rfl (OpOk.sto (k := 1) (v := .int .i64 (w6 (e16.2.1 + e16.2.2.1))) 1 #[.int .i64 e16.1, .int .i64 (w6 (e16.2.1 + e16.2.2.1)), .int .i64 e16.2.2.1, .int .i64 e16.2.2.2.1, sv e16.2.2.2.2] rfl rfl rfl ?_)
            refine Ok.nil (Ok.thenN (Ok.seq (Ok.region (Ok.bat 1 [2, 4, 5, 9, 10] [(92, pv bs9 3)] ?_))))
            refine Ok.op rfl (OpOk.step (v := .int .i64 e16.2.2.2.1) (Yields.load 1 rfl rfl Try.underlying3 rfl (by kernel_rfl)) rfl rfl (Ok.bat 2 [2, 4, 5, 9, 10] [(94, .int .i64 (w6 (e16.2.2.2.1 + 1))), (95, pv bs9 3)] ?_))
            refine Ok.op rfl (OpOk.sto (k := 1) (v := .int .i64 (w6 (e16.2.2.2.1 + 1))) 1 #[.int .i64 e16.1, .int .i64 (w6 (e16.2.1 + e16.2.2.1)), .int .i64 e16.2.2.1, .int .i64 (w6 (e16.2.2.2.1 + 1)), sv e16.2.2.2.2] rfl rfl rfl ?_)
            refine Ok.nil (Ok.thenN (Ok.region (Ok.bat 1 [2, 4, 5, 9, 10] [(96, pv bs2 4)] ?_)))
            refine Ok.op rfl (OpOk.step (v := .slice a19 (xq.2.2.2.2.drop (Int.toNat 1)).length c19) (Yields.load 4 rfl rfl Try.underlying35 rfl (by kernel_rfl)) rfl rfl (Ok.op rfl (OpOk.step (v := .agg #[.int .i64 e16.1, .int .i64 (w6 (e16.2.1 + e16.2.2.1)), .int .i64 e16.2.2.1, .int .i64 (w6 (e16.2.2.2.1 + 1)), sv e16.2.2.2.2]) (Yields.loadAgg 1 5 #[.int .i64 e16.1, .int .i64 (w6 (e16.2.1 + e16.2.2.1)), .int .i64 e16.2.2.1, .int .i64 (w6 (e16.2.2.2.1 + 1)), sv e16.2.2.2.2] rfl rfl Try.underlying93 rfl (by kernel_rfl) (by kernel_rfl) (by kernel_rfl)) rfl rfl ?_)))
            obtain ⟨hp22, hF⟩ := hF
            refine Ok.op rfl (OpOk.callH [] _ enr rfl (rpl_c (xq.2.2.2.2.drop (Int.toNat 1)) (e16.1, w6 (e16.2.1 + e16.2.2.1), e16.2.2.1, w6 (e16.2.2.2.1 + 1), e16.2.2.2.2) hR19 hp22) rfl fun g23 _ _ hx23 hV23 => ?_)
            obtain ⟨a23_0, c23_0, rfl, hR23_0, rfl⟩ := hV23
            replace hR19 := hR19.mono hx23.1
            replace hRxq_0 := hRxq_0.mono hx23.1
            replace hRxq_1 := hRxq_1.mono hx23.1
            refine Ok.bat 1 [2, 4, 5, 10] [(99, .slice a23_0 (llaS (xq.2.2.2.2.drop (Int.toNat 1)) (e16.1, w6 (e16.2.1 + e16.2.2.1), e16.2.2.1, w6 (e16.2.2.2.1 + 1), e16.2.2.2.2)).length c23_0), (100, pv bs2 4)] ?_
            refine Ok.op rfl (OpOk.sto (k := 1) (v := .slice a23_0 (llaS (xq.2.2.2.2.drop (Int.toNat 1)) (e16.1, w6 (e16.2.1 + e16.2.2.1), e16.2.2.1, w6 (e16.2.2.2.1 + 1), e16.2.2.2.2)).length c23_0) 4 #[.int .i64 (rlnV5 xq e16), .int .i64 xq.2.1, .slice axq_0 xq.2.2.1.length cxq_0, .slice axq_1 xq.2.2.2.1.length cxq_1, .slice a23_0 (llaS (xq.2.2.2.2.drop (Int.toNat 1)) (e16.1, w6 (e16.2.1 + e16.2.2.1), e16.2.2.1, w6 (e16.2.2.2.1 + 1), e16.2.2.2.2)).length c23_0] rfl rfl rfl ?_)
            refine Ok.nil (Ok.thenN (Ok.entEq 4 (e' := .blk bs2 (.cells #[.int .i64 (rlnV5 xq e16), .int .i64 xq.2.1, .slice axq_0 xq.2.2.1.length cxq_0, .slice axq_1 xq.2.2.2.1.length cxq_1, .slice a23_0 (rlnV7 xq e16).length c23_0] 37)) rfl (congrArg (fun l : List Value => Ent.blk bs2 (.cells ⟨l⟩ 37)) (lcons (rfl) (lcons (rfl) (lcons (rfl) (lcons (rfl) (lcons (congrArg (fun l : List (JT) => Value.slice a23_0 l.length c23_0) ((if_t hc21).symm)) rfl)))))) ?_))
            exact fun a W hA hW => ⟨g23, (hxj47.trans hx23), a23_0, c23_0, (Eq.mp (congrArg (fun l : List (JT) => Rep g23 (.slice (.pair (.int .i64) (.pair (.int .i64) (.pair (.int .i64) (.pair (.int .i64) (.str)))))) [.slice a23_0 l.length c23_0] l) ((if_t hc21).symm)) hR23_0), hA.sub (by kernel_rfl), hW.sub (.cons_cons _ (.cons _ (.cons_cons _ (.cons_cons _ (.cons_cons _ .slnil))))), hF⟩
           ·replace hF := hF.2 hc21
            refine Ok.skip (Ok.thenN (Ok.entEq 4 (e' := .blk bs2 (.cells #[.int .i64 (rlnV5 xq e16), .int .i64 xq.2.1, .slice axq_0 xq.2.2.1.length cxq_0, .slice axq_1 xq.2.2.2.1.length cxq_1, .slice a19 (rlnV7 xq e16).length c19] 37)) rfl (congrArg (fun l : List Value => Ent.blk bs2 (.cells ⟨l⟩ 37)) (lcons (rfl) (lcons (rfl) (lcons (rfl) (lcons (rfl) (lcons (congrArg (fun l : List (JT) => Value.slice a19 l.length c19) ((if_f hc21).symm)) rfl)))))) ?_))
            exact fun a W hA hW => ⟨gj47, hxj47, a19, c19, (Eq.mp (congrArg (fun l : List (JT) => Rep gj47 (.slice (.pair (.int .i64) (.pair (.int .i64) (.pair (.int .i64) (.pair (.int .i64) (.str)))))) [.slice a19 l.length c19] l) ((if_f hc21).symm)) hR19), hA.sub (by kernel_rfl), hW.sub (.cons_cons _ (.cons _ (.cons_cons _ (.cons_cons _ (.cons_cons _ .slnil))))), hF⟩
         ·
          clear hF
          rintro a W ⟨gj46, hxj46, aybs2_4j46, cybs2_4j46, hRybs2_4j46, hA, hW, hF⟩
          refine (?_ : Ok _ _ _ _ _ _) a W hA hW
          clear hA hW
          replace hRxq_0 := hRxq_0.mono hxj46.1
          replace hRxq_1 := hRxq_1.mono hxj46.1
          refine Ok.seq (Ok.mix [] [] _ [(0, true), (1, true), (2, false), (3, false), (4, true)] (by kernel_rfl) (by kernel_rfl) (.cons_cons _ (.cons _ (.cons _ (.cons_cons _ .slnil)))) (OkM.head rfl rfl rfl (OpQ.step (v := .agg #[.int .i64 (rlnV5 xq e16), .int .i64 xq.2.1, .slice axq_0 xq.2.2.1.length cxq_0, .slice axq_1 xq.2.2.2.1.length cxq_1, .slice aybs2_4j46 (rlnV7 xq e16).length cybs2_4j46]) (Yields.loadAgg 1 5 #[.int .i64 (rlnV5 xq e16), .int .i64 xq.2.1, .slice axq_0 xq.2.2.1.length cxq_0, .slice axq_1 xq.2.2.2.1.length cxq_1, .slice aybs2_4j46 (rlnV7 xq e16).length cybs2_4j46] rfl rfl Try.underlying37 rfl (by kernel_rfl) (by kernel_rfl) (by kernel_rfl)) rfl rfl (OkM.head rfl rfl rfl (OpQ.step (v := .agg #[.int .i64 e16.1, .int .i64 3, .bool false, sv e16.2.2.2.2, .int .i64 2, .int .i64 e16.2.2.2.1, sv ([] : Bs)]) (Yields.loadAgg 0 7 #[.int .i64 e16.1, .int .i64 3, .bool false, sv e16.2.2.2.2, .int .i64 2, .int .i64 e16.2.2.2.1, sv ([] : Bs)] rfl rfl Try.underlying43 rfl (by kernel_rfl) (by kernel_rfl) (by kernel_rfl)) rfl rfl (OkM.tail rfl rfl (OpOk.sto (k := 5) (v := .agg #[.int .i64 (rlnV5 xq e16), .int .i64 xq.2.1, .slice axq_0 xq.2.2.1.length cxq_0, .slice axq_1 xq.2.2.2.1.length cxq_1, .slice aybs2_4j46 (rlnV7 xq e16).length cybs2_4j46]) 2 #[.int .i64 (rlnV5 xq e16), .int .i64 xq.2.1, .slice axq_0 xq.2.2.1.length cxq_0, .slice axq_1 xq.2.2.2.1.length cxq_1, .slice aybs2_4j46 (rlnV7 xq e16).length cybs2_4j46] rfl rfl rfl ?_)))))))
          refine OkM.leaf (i := 2) rfl (Gle.refl _) (.cons_cons _ (.cons _ (.cons _ (.cons_cons _ .slnil)))) (OkM.tail rfl rfl (OpOk.sto (k := 7) (v := .agg #[.int .i64 e16.1, .int .i64 3, .bool false, sv e16.2.2.2.2, .int .i64 2, .int .i64 e16.2.2.2.1, sv ([] : Bs)]) 1 #[.int .i64 e16.1, .int .i64 3, .bool false, sv e16.2.2.2.2, .int .i64 2, .int .i64 e16.2.2.2.1, sv ([] : Bs)] rfl rfl rfl ?_))
          refine OkM.leaf (i := 3) rfl (Gle.refl _) (.cons_cons _ (.cons _ (.cons _ (.cons_cons _ .slnil)))) (OkM.bat 1 [4, 5] [(6, .bool true)] ?_)
          refine OkM.nil (Ok.thenN (Ok.ret (Ok.blockR (Ok.thenR (Ok.thenR (Ok.blockR (Ok.thenR ?_)))))))
          exact Ok.resP (vs := [.agg #[.int .i64 (rlnV5 xq e16), .int .i64 xq.2.1, .slice axq_0 xq.2.2.1.length cxq_0, .slice axq_1 xq.2.2.2.1.length cxq_1, .slice aybs2_4j46 (rlnV7 xq e16).length cybs2_4j46], .agg #[.int .i64 e16.1, .int .i64 3, .bool false, sv e16.2.2.2.2, .int .i64 2, .int .i64 e16.2.2.2.1, sv ([] : Bs)], .bool true]) [] [] (by decide) rfl (.inl rfl) rfl (.cons (.cellAgg 2 5 #[.int .i64 (rlnV5 xq e16), .int .i64 xq.2.1, .slice axq_0 xq.2.2.1.length cxq_0, .slice axq_1 xq.2.2.2.1.length cxq_1, .slice aybs2_4j46 (rlnV7 xq e16).length cybs2_4j46] rfl rfl Try.underlying37 rfl (by kernel_rfl) (by kernel_rfl) (by kernel_rfl)) (.cons (.cellAgg 1 7 #[.int .i64 e16.1, .int .i64 3, .bool false, sv e16.2.2.2.2, .int .i64 2, .int .i64 e16.2.2.2.1, sv ([] : Bs)] rfl rfl Try.underlying43 rfl (by kernel_rfl) (by kernel_rfl) (by kernel_rfl)) (.cons (.tmp rfl) .nil))) (((hxl19.trans hxj31).trans hxj38).trans hxj46) ⟨((rlnV5 xq e16), xq.2.1, xq.2.2.1, xq.2.2.2.1, (rlnV7 xq e16)), (e16.1, 3, false, e16.2.2.2.2, (2, e16.2.2.2.1, ([] : Bs))), true, axq_0, cxq_0, axq_1, cxq_1, aybs2_4j46, cybs2_4j46, rfl, hRxq_0, hRxq_1, hRybs2_4j46, rfl, hF⟩
     ·replace hF := hF.2 hc14
      refine Ok.exit (Ok.thenE (Ok.thenE (Ok.blockHit (Ok.thenN ?_))))
      exact fun a W hA hW => ⟨gl19, hxl19, hA.sub (by kernel_rfl), hW, hF⟩
  ·
   clear hF
   rintro a W ⟨gj15, hxj15, hA, hW, hF⟩
   refine (?_ : Ok _ _ _ _ _ _) a W hA hW
   clear hA hW
   replace hRxq_0 := hRxq_0.mono hxj15.1
   replace hRxq_1 := hRxq_1.mono hxj15.1
   replace hRxq_2 := hRxq_2.mono hxj15.1
   refine Ok.seq (Ok.seq (Ok.region (Ok.bat 1 [1, 2, 4, 5] [(104, pv bs2 2)] ?_)))
   refine Ok.op rfl (OpOk.step (v := .slice axq_0 xq.2.2.1.length cxq_0) (Yields.load 2 rfl rfl Try.underlying34 rfl (by kernel_rfl)) rfl rfl (Ok.bat 2 [1, 2, 4, 5] [(107, .bool (decide ((xq.2.2.1.length : Int) > 0)))] ?_))
   refine Ok.nil (Ok.thenN (Ok.cond (b := decide ((xq.2.2.1.length : Int) > 0)) rfl (fun hc9 => ?_) (fun hc9 => ?_)))
   ·replace hF := hF.1 hc9
    refine Ok.seq (Ok.region (Ok.bat 1 [2, 4, 5] [(108, pv bs2 2)] ?_))
    refine Ok.op rfl (OpOk.step (v := .slice axq_0 xq.2.2.1.length cxq_0) (Yields.load 2 rfl rfl Try.underlying34 rfl (by kernel_rfl)) rfl rfl ?_)
    obtain ⟨h011, h111, hF⟩ := hF
    have he11 := get_of (l := xq.2.2.1) (default : JJ) h111
    generalize hg11 : (xq.2.2.1.getD (Int.toNat 0) default) = e11 at he11 hF ⊢
    refine Ok.op rfl (OpOk.indexRo (e := .pair (.int .i64) (.pair (.int .i64) (.pair (.bool) (.pair (.str) (.pair (.int .i64) (.pair (.int .i64) (.str))))))) (i := 0) (el := e11) rfl rfl Try.underlying34 (by kernel_rfl) hRxq_0 h011 he11 rfl fun q10 o10 cs10 _ hat10 hr10 => ?_)
    obtain ⟨_, _, rfl, rfl, ⟨_, _, rfl, rfl, ⟨_, _, rfl, rfl, ⟨_, _, rfl, rfl, ⟨_, _, rfl, rfl, ⟨_, _, rfl, rfl, rfl⟩⟩⟩⟩⟩⟩ := hr10
    replace hat10 : At gj15 q10 o10 [.int .i64 e11.1, .int .i64 e11.2.1, .bool e11.2.2.1, sv e11.2.2.2.1, .int .i64 e11.2.2.2.2.1, .int .i64 e11.2.2.2.2.2.1, sv e11.2.2.2.2.2.2] := hat10
    refine Ok.op rfl (OpOk.step (v := .agg #[.int .i64 e11.1, .int .i64 e11.2.1, .bool e11.2.2.1, sv e11.2.2.2.1, .int .i64 e11.2.2.2.2.1, .int .i64 e11.2.2.2.2.2.1, sv e11.2.2.2.2.2.2]) (Yields.loadAggRo 0 7 #[.int .i64 e11.1, .int .i64 e11.2.1, .bool e11.2.2.1, sv e11.2.2.2.1, .int .i64 e11.2.2.2.2.1, .int .i64 e11.2.2.2.2.2.1, sv e11.2.2.2.2.2.2] hat10 (by kernel_rfl) Try.underlying43 rfl (by kernel_rfl) (by kernel_rfl) (by kernel_rfl)) rfl rfl (Ok.op rfl (OpOk.alloc (z := .agg #[.int .i64 0, .int .i64 0, .bool false, sv ([] : Bs), .int .i64 0, .int .i64 0, sv ([] : Bs)]) (cs := #[.int .i64 0, .int .i64 0, .bool false, sv ([] : Bs), .int .i64 0, .int .i64 0, sv ([] : Bs)]) (by kernel_rfl) (by kernel_rfl) rfl fun bs11 => ?_)))
    refine Ok.op rfl (OpOk.sto (k := 7) (v := .agg #[.int .i64 e11.1, .int .i64 e11.2.1, .bool e11.2.2.1, sv e11.2.2.2.1, .int .i64 e11.2.2.2.2.1, .int .i64 e11.2.2.2.2.2.1, sv e11.2.2.2.2.2.2]) 0 #[.int .i64 e11.1, .int .i64 e11.2.1, .bool e11.2.2.1, sv e11.2.2.2.1, .int .i64 e11.2.2.2.2.1, .int .i64 e11.2.2.2.2.2.1, sv e11.2.2.2.2.2.2] rfl rfl rfl ?_)
    refine Ok.nil (Ok.thenN (Ok.seq (Ok.region (Ok.bat 1 [2, 4, 5] [(11, pv bs11 0), (112, pv bs2 2)] ?_))))
    refine Ok.op rfl (OpOk.step (v := .slice axq_0 xq.2.2.1.length cxq_0) (Yields.load 3 rfl rfl Try.underlying34 rfl (by kernel_rfl)) rfl rfl ?_)
    obtain ⟨h013, h113, h213, hF⟩ := hF
    refine Ok.op rfl (OpOk.sliceRo (e := .pair (.int .i64) (.pair (.int .i64) (.pair (.bool) (.pair (.str) (.pair (.int .i64) (.pair (.int .i64) (.str))))))) (l := 1) (h := (xq.2.2.1.length : Int)) rfl Try.underlying34 (by kernel_rfl) (.inl ⟨_, _, rfl, rfl⟩) (.inr ⟨rfl, rfl⟩) hRxq_0 h013 h113 h213 rfl (xq.2.2.1.drop (Int.toNat 1)) (by rw [show ((xq.2.2.1.length : Int)).toNat = xq.2.2.1.length from Int.toNat_natCast _, List.take_length]) fun a13 c13 hR13 => ?_)
    refine Ok.bat 1 [2, 4, 5, 11] [(114, .slice a13 (xq.2.2.1.drop (Int.toNat 1)).length c13), (115, pv bs2 2)] ?_
    refine Ok.op rfl (OpOk.sto (k := 1) (v := .slice a13 (xq.2.2.1.drop (Int.toNat 1)).length c13) 3 #[.int .i64 xq.1, .int .i64 xq.2.1, .slice a13 (xq.2.2.1.drop (Int.toNat 1)).length c13, .slice axq_1 xq.2.2.2.1.length cxq_1, .slice axq_2 xq.2.2.2.2.length cxq_2] rfl rfl rfl ?_)
    refine Ok.nil (Ok.thenN (Ok.seq (Ok.mix [] [] _ [(0, true), (1, true), (2, false), (3, false), (4, true)] (by kernel_rfl) (by kernel_rfl) (.cons_cons _ (.cons _ (.cons _ (.cons_cons _ .slnil)))) (OkM.head rfl rfl rfl (OpQ.step (v := .agg #[.int .i64 xq.1, .int .i64 xq.2.1, .slice a13 (xq.2.2.1.drop (Int.toNat 1)).length c13, .slice axq_1 xq.2.2.2.1.length cxq_1, .slice axq_2 xq.2.2.2.2.length cxq_2]) (Yields.loadAgg 1 5 #[.int .i64 xq.1, .int .i64 xq.2.1, .slice a13 (xq.2.2.1.drop (Int.toNat 1)).length c13, .slice axq_1 xq.2.2.2.1.length cxq_1, .slice axq_2 xq.2.2.2.2.length cxq_2] rfl rfl Try.underlying37 rfl (by kernel_rfl) (by kernel_rfl) (by kernel_rfl)) rfl rfl (OkM.head rfl rfl rfl (OpQ.step (v := .agg #[.int .i64 e11.1, .int .i64 e11.2.1, .bool e11.2.2.1, sv e11.2.2.2.1, .int .i64 e11.2.2.2.2.1, .int .i64 e11.2.2.2.2.2.1, sv e11.2.2.2.2.2.2]) (Yields.loadAgg 0 7 #[.int .i64 e11.1, .int .i64 e11.2.1, .bool e11.2.2.1, sv e11.2.2.2.1, .int .i64 e11.2.2.2.2.1, .int .i64 e11.2.2.2.2.2.1, sv e11.2.2.2.2.2.2] rfl rfl Try.underlying43 rfl (by kernel_rfl) (by kernel_rfl) (by kernel_rfl)) rfl rfl (OkM.tail rfl rfl (OpOk.sto (k := 5) (v := .agg #[.int .i64 xq.1, .int .i64 xq.2.1, .slice a13 (xq.2.2.1.drop (Int.toNat 1)).length c13, .slice axq_1 xq.2.2.2.1.length cxq_1, .slice axq_2 xq.2.2.2.2.length cxq_2]) 2 #[.int .i64 xq.1, .int .i64 xq.2.1, .slice a13 (xq.2.2.1.drop (Int.toNat 1)).length c13, .slice axq_1 xq.2.2.2.1.length cxq_1, .slice axq_2 xq.2.2.2.2.length cxq_2] rfl rfl rfl ?_)))))))))
    refine OkM.leaf (i := 2) rfl (Gle.refl _) (.cons_cons _ (.cons _ (.cons _ (.cons_cons _ .slnil)))) (OkM.tail rfl rfl (OpOk.sto (k := 7) (v := .agg #[.int .i64 e11.1, .int .i64 e11.2.1, .bool e11.2.2.1, sv e11.2.2.2.1, .int .i64 e11.2.2.2.2.1, .int .i64 e11.2.2.2.2.2.1, sv e11.2.2.2.2.2.2]) 1 #[.int .i64 e11.1, .int .i64 e11.2.1, .bool e11.2.2.1, sv e11.2.2.2.1, .int .i64 e11.2.2.2.2.1, .int .i64 e11.2.2.2.2.2.1, sv e11.2.2.2.2.2.2] rfl rfl rfl ?_))
    refine OkM.leaf (i := 3) rfl (Gle.refl _) (.cons_cons _ (.cons _ (.cons _ (.cons_cons _ .slnil)))) (OkM.bat 1 [4, 5] [(6, .bool true)] ?_)
    refine OkM.nil (Ok.thenN (Ok.ret (Ok.thenR ?_)))
    exact Ok.resP (vs := [.agg #[.int .i64 xq.1, .int .i64 xq.2.1, .slice a13 (xq.2.2.1.drop (Int.toNat 1)).length c13, .slice axq_1 xq.2.2.2.1.length cxq_1, .slice axq_2 xq.2.2.2.2.length cxq_2], .agg #[.int .i64 e11.1, .int .i64 e11.2.1, .bool e11.2.2.1, sv e11.2.2.2.1, .int .i64 e11.2.2.2.2.1, .int .i64 e11.2.2.2.2.2.1, sv e11.2.2.2.2.2.2], .bool true]) [] [] (by decide) rfl (.inl rfl) rfl (.cons (.cellAgg 2 5 #[.int .i64 xq.1, .int .i64 xq.2.1, .slice a13 (xq.2.2.1.drop (Int.toNat 1)).length c13, .slice axq_1 xq.2.2.2.1.length cxq_1, .slice axq_2 xq.2.2.2.2.length cxq_2] rfl rfl Try.underlying37 rfl (by kernel_rfl) (by kernel_rfl) (by kernel_rfl)) (.cons (.cellAgg 1 7 #[.int .i64 e11.1, .int .i64 e11.2.1, .bool e11.2.2.1, sv e11.2.2.2.1, .int .i64 e11.2.2.2.2.1, .int .i64 e11.2.2.2.2.2.1, sv e11.2.2.2.2.2.2] rfl rfl Try.underlying43 rfl (by kernel_rfl) (by kernel_rfl) (by kernel_rfl)) (.cons (.tmp rfl) .nil))) hxj15 ⟨(xq.1, xq.2.1, (xq.2.2.1.drop (Int.toNat 1)), xq.2.2.2.1, xq.2.2.2.2), e11, true, a13, c13, axq_1, cxq_1, axq_2, cxq_2, rfl, hR13, hRxq_1, hRxq_2, rfl, hF⟩
   ·replace hF := hF.2 hc9
    refine Ok.skip (Ok.thenN (Ok.seq (Ok.region (Ok.bat 2 [2, 4, 5] [(118, .int .i64 xuntil), (119, pv bs2 0)] ?_))))
    refine Ok.op rfl (OpOk.sto (k := 1) (v := .int .i64 xuntil) 2 #[.int .i64 xuntil, .int .i64 xq.2.1, .slice axq_0 xq.2.2.1.length cxq_0, .slice axq_1 xq.2.2.2.1.length cxq_1, .slice axq_2 xq.2.2.2.2.length cxq_2] rfl rfl rfl ?_)
    refine Ok.nil (Ok.thenN (Ok.seq (Ok.region (Ok.op rfl (OpOk.step (v := .agg #[.int .i64 xuntil, .int .i64 xq.2.1, .slice axq_0 xq.2.2.1.length cxq_0, .slice axq_1 xq.2.2.2.1.length cxq_1, .slice axq_2 xq.2.2.2.2.length cxq_2]) (Yields.loadAgg 2 5 #[.int .i64 xuntil, .int .i64 xq.2.1, .slice axq_0 xq.2.2.1.length cxq_0, .slice axq_1 xq.2.2.2.1.length cxq_1, .slice axq_2 xq.2.2.2.2.length cxq_2] rfl rfl Try.underlying37 rfl (by kernel_rfl) (by kernel_rfl) (by kernel_rfl)) rfl rfl (Ok.bat 1 [4, 5] [(120, .agg #[.int .i64 xuntil, .int .i64 xq.2.1, .slice axq_0 xq.2.2.1.length cxq_0, .slice axq_1 xq.2.2.2.1.length cxq_1, .slice axq_2 xq.2.2.2.2.length cxq_2]), (121, .agg #[.int .i64 0, .int .i64 0, .bool false, sv ([] : Bs), .int .i64 0, .int .i64 0, sv ([] : Bs)])] ?_))))))
    refine Ok.op rfl (OpOk.sto (k := 5) (v := .agg #[.int .i64 xuntil, .int .i64 xq.2.1, .slice axq_0 xq.2.2.1.length cxq_0, .slice axq_1 xq.2.2.2.1.length cxq_1, .slice axq_2 xq.2.2.2.2.length cxq_2]) 1 #[.int .i64 xuntil, .int .i64 xq.2.1, .slice axq_0 xq.2.2.1.length cxq_0, .slice axq_1 xq.2.2.2.1.length cxq_1, .slice axq_2 xq.2.2.2.2.length cxq_2] rfl rfl rfl ?_)
    refine Ok.op rfl (OpOk.sto (k := 7) (v := .agg #[.int .i64 0, .int .i64 0, .bool false, sv ([] : Bs), .int .i64 0, .int .i64 0, sv ([] : Bs)]) 0 #[.int .i64 0, .int .i64 0, .bool false, sv ([] : Bs), .int .i64 0, .int .i64 0, sv ([] : Bs)] rfl rfl rfl ?_)
    refine Ok.bat 1 [4, 5] [(6, .bool false)] ?_
    refine Ok.nil (Ok.thenN (Ok.ret ?_))
    exact Ok.resP (vs := [.agg #[.int .i64 xuntil, .int .i64 xq.2.1, .slice axq_0 xq.2.2.1.length cxq_0, .slice axq_1 xq.2.2.2.1.length cxq_1, .slice axq_2 xq.2.2.2.2.length cxq_2], .agg #[.int .i64 0, .int .i64 0, .bool false, sv ([] : Bs), .int .i64 0, .int .i64 0, sv ([] : Bs)], .bool false]) [] [] (by decide) rfl (.inl rfl) rfl (.cons (.cellAgg 1 5 #[.int .i64 xuntil, .int .i64 xq.2.1, .slice axq_0 xq.2.2.1.length cxq_0, .slice axq_1 xq.2.2.2.1.length cxq_1, .slice axq_2 xq.2.2.2.2.length cxq_2] rfl rfl Try.underlying37 rfl (by kernel_rfl) (by kernel_rfl) (by kernel_rfl)) (.cons (.cellAgg 0 7 #[.int .i64 0, .int .i64 0, .bool false, sv ([] : Bs), .int .i64 0, .int .i64 0, sv ([] : Bs)] rfl rfl Try.underlying43 rfl (by kernel_rfl) (by kernel_rfl) (by kernel_rfl)) (.cons (.tmp rfl) .nil))) hxj15 ⟨(xuntil, xq.2.1, xq.2.2.1, xq.2.2.2.1, xq.2.2.2.2), (0, 0, false, ([] : Bs), (0, 0, ([] : Bs))), false, axq_0, cxq_0, axq_1, cxq_1, axq_2, cxq_2, rfl, hRxq_0, hRxq_1, hRxq_2, rfl, hF⟩
theorem rln_F (q : JL) (u : Int) (hz : lchS q = 0) : rlnF q u (fun r j b => (r, j, b) = rnS q u) := by
 obtain ⟨hb, g⟩ := lch_zero hz
 have hnow := g.now
 have hs : q.2.2.1.length ≤ 100 ∧ q.2.2.2.1.length ≤ 100 ∧ q.2.2.2.2.length ≤ 100 := by unfold big at hb; omega
 refine ⟨fun c1 => ?_, fun c1 => ⟨1, ?_⟩⟩
 ·have c := of_decide_eq_true c1
  refine ⟨by omega, by omega, by omega, by omega, by omega, ?_⟩
  unfold rnS; rw [if_t c1]; rfl
 have j15 : dueB q u = false → rlnj15 q u (fun r j b => (r, j, b) = rnS q u) := fun hd => by
  refine ⟨fun c3 => ?_, fun c3 => ?_⟩
  ·have c := of_decide_eq_true c3
   refine ⟨by omega, by omega, by omega, by omega, by omega, ?_⟩
   unfold rnS; rw [if_f c1, if_f hd, if_t c3]; rfl
  ·unfold rnS; rw [if_f c1, if_f hd, if_f c3]
 refine ⟨fun hl0 => ?_, fun hl0 => j15 (by unfold dueB; rw [show decide ((q.2.2.2.2.length : Int) > 0) = false from hl0]; rfl)⟩
 have hl : 0 < q.2.2.2.2.length := by have := of_decide_eq_true hl0; omega
 have hw1 : w6 ((q.2.2.2.2.getD 0 default).2.1 + (q.2.2.2.2.getD 0 default).2.2.1) = (q.2.2.2.2.getD 0 default).2.1 + (q.2.2.2.2.getD 0 default).2.2.1 := by
  have := g.timers _ (mem_getD default hl)
  exact w64 (by omega)
 have hw2 : w6 ((q.2.2.2.2.getD 0 default).2.2.2.1 + 1) = (q.2.2.2.2.getD 0 default).2.2.2.1 + 1 := by
  have := g.timers _ (mem_getD default hl)
  exact w64 (by omega)
 have hV : rlnV4 q u (q.2.2.2.2.getD 0 default) = !(dueB q u) := by
  unfold rlnV4 dueB
  rw [Bool.eq_iff_iff]
  simp only [Bool.and_eq_true, Bool.or_eq_true, decide_eq_true_eq, Bool.not_eq_true', Bool.and_eq_false_iff, Bool.or_eq_false_iff, decide_eq_false_iff_not, beq_eq_false_iff_ne]
  omega
 have e5 : rlnV5 q (q.2.2.2.2.getD 0 default) = if q.1 < (q.2.2.2.2.getD 0 default).2.1 then (q.2.2.2.2.getD 0 default).2.1 else q.1 := by
  unfold rlnV5
  by_cases h : q.1 < (q.2.2.2.2.getD 0 default).2.1
  ·rw [if_pos h, if_t (decide_eq_true h)]
  ·rw [if_neg h, if_f (decide_eq_false h)]
 have e6 : rlnV6 (q.2.2.2.2.getD 0 default) = agB (q.2.2.2.2.getD 0 default) := by
  unfold rlnV6 agB
  rw [hw1, Bool.and_comm (decide ((q.2.2.2.2.getD 0 default).2.2.2.1 < 1000000000))]
 have e7 : rlnV7 q (q.2.2.2.2.getD 0 default) = if agB (q.2.2.2.2.getD 0 default) = true then llaS (q.2.2.2.2.drop 1) (agT (q.2.2.2.2.getD 0 default)) else q.2.2.2.2.drop 1 := by
  unfold rlnV7 agT
  rw [e6, hw1, hw2]; rfl
 have j31 : rlnj31 q u (fun r j b => (r, j, b) = rnS q u) (q.2.2.2.2.getD 0 default) := by
  refine ⟨fun hv => j15 (by rw [hV] at hv; simpa using hv), fun hv => ?_⟩
  have hd : dueB q u = true := by rw [hV] at hv; simpa using hv
  have j46 : rlnj46 q (fun r j b => (r, j, b) = rnS q u) (q.2.2.2.2.getD 0 default) := by
   unfold rlnj46 rnS
   rw [if_f c1, if_t hd, e5, e7]; rfl
  have j47 : rlnj47 q (fun r j b => (r, j, b) = rnS q u) (q.2.2.2.2.getD 0 default) := ⟨fun _ => ⟨by unfold rplP; rw [List.length_drop]; omega, j46⟩, fun _ => j46⟩
  have j38 : rlnj38 q (fun r j b => (r, j, b) = rnS q u) (q.2.2.2.2.getD 0 default) := ⟨fun _ => two j47, fun _ => j47⟩
  exact ⟨by omega, by omega, by omega, two j38⟩
 exact ⟨by omega, hl, fun _ => two j31, fun _ => j31⟩
def rlnP (q : JL) (_ : Int) : Prop := lchS q = 0
theorem rln_c {g : Ghost} {axq_0 : Option Addr} {cxq_0 : Nat} {axq_1 : Option Addr} {cxq_1 : Nat} {axq_2 : Option Addr} {cxq_2 : Nat} (xq : Int × Int × (List (Int × Int × Bool × Bs × Int × Int × Bs)) × (List (Int × Int × Bool × Bs × Int × Int × Bs)) × List (Int × Int × Int × Int × Bs)) (xuntil : Int) (hRxq_0 : Rep g (.slice (.pair (.int .i64) (.pair (.int .i64) (.pair (.bool) (.pair (.str) (.pair (.int .i64) (.pair (.int .i64) (.str)))))))) [.slice axq_0 xq.2.2.1.length cxq_0] xq.2.2.1) (hRxq_1 : Rep g (.slice (.pair (.int .i64) (.pair (.int .i64) (.pair (.bool) (.pair (.str) (.pair (.int .i64) (.pair (.int .i64) (.str)))))))) [.slice axq_1 xq.2.2.2.1.length cxq_1] xq.2.2.2.1) (hRxq_2 : Rep g (.slice (.pair (.int .i64) (.pair (.int .i64) (.pair (.int .i64) (.pair (.int .i64) (.str)))))) [.slice axq_2 xq.2.2.2.2.length cxq_2] xq.2.2.2.2)  (hp : rlnP xq xuntil) : CallsH Try.prog 18 #[.agg #[.int .i64 xq.1, .int .i64 xq.2.1, .slice axq_0 xq.2.2.1.length cxq_0, .slice axq_1 xq.2.2.2.1.length cxq_1, .slice axq_2 xq.2.2.2.2.length cxq_2], .int .i64 xuntil] g [] (fun g' H' v => ∃ (ar0_0 : Option Addr) (cr0_0 : Nat), ∃ (ar0_1 : Option Addr) (cr0_1 : Nat), ∃ (ar0_2 : Option Addr) (cr0_2 : Nat), v = .tuple #[.agg #[.int .i64 (rnS xq xuntil).1.1, .int .i64 (rnS xq xuntil).1.2.1, .slice ar0_0 (rnS xq xuntil).1.2.2.1.length cr0_0, .slice ar0_1 (rnS xq xuntil).1.2.2.2.1.length cr0_1, .slice ar0_2 (rnS xq xuntil).1.2.2.2.2.length cr0_2], .agg #[.int .i64 (rnS xq xuntil).2.1.1, .int .i64 (rnS xq xuntil).2.1.2.1, .bool (rnS xq xuntil).2.1.2.2.1, sv ((rnS xq xuntil).2.1.2.2.2.1), .int .i64 (rnS xq xuntil).2.1.2.2.2.2.1, .int .i64 (rnS xq xuntil).2.1.2.2.2.2.2.1, sv ((rnS xq xuntil).2.1.2.2.2.2.2.2)], .bool (rnS xq xuntil).2.2] ∧ Rep g' (.slice (.pair (.int .i64) (.pair (.int .i64) (.pair (.bool) (.pair (.str) (.pair (.int .i64) (.pair (.int .i64) (.str)))))))) [.slice ar0_0 (rnS xq xuntil).1.2.2.1.length cr0_0] (rnS xq xuntil).1.2.2.1 ∧ Rep g' (.slice (.pair (.int .i64) (.pair (.int .i64) (.pair (.bool) (.pair (.str) (.pair (.int .i64) (.pair (.int .i64) (.str)))))))) [.slice ar0_1 (rnS xq xuntil).1.2.2.2.1.length cr0_1] (rnS xq xuntil).1.2.2.2.1 ∧ Rep g' (.slice (.pair (.int .i64) (.pair (.int .i64) (.pair (.int .i64) (.pair (.int .i64) (.str)))))) [.slice ar0_2 (rnS xq xuntil).1.2.2.2.2.length cr0_2] (rnS xq xuntil).1.2.2.2.2 ∧ H' = []) :=
 (rln_ok xq xuntil hRxq_0 hRxq_1 hRxq_2 _ (rln_F xq xuntil hp)).mono (by rintro g' H' v _ ⟨r0, r1, r2, ar0_0, cr0_0, ar0_1, cr0_1, ar0_2, cr0_2, rfl, hRr0_0, hRr0_1, hRr0_2, rfl, hK⟩; obtain ⟨rfl, rfl, rfl⟩ : r0 = (rnS xq xuntil).1 ∧ r1 = (rnS xq xuntil).2.1 ∧ r2 = (rnS xq xuntil).2.2 := ⟨congrArg (fun z => z.1) hK, congrArg (fun z => z.2.1) hK, congrArg (fun z => z.2.2) hK⟩; exact ⟨ar0_0, cr0_0, ar0_1, cr0_1, ar0_2, cr0_2, rfl, hRr0_0, hRr0_1, hRr0_2, rfl⟩)
def rslV0 (xa : JL) (xb : JL) : Bool :=
 ((xa.1 == xb.1) && ((xa.2.1 == xb.2.1) && ((jeqS xa.2.2.1 xb.2.2.1) && ((jeqS xa.2.2.2.1 xb.2.2.2.1) && (teqS xa.2.2.2.2 xb.2.2.2.2)))))
def rslj3 (xa : JL) (xb : JL) (K : Bool → Prop) : Prop :=
 K (rslV0 xa xb)
def rslF (xa : JL) (xb : JL) (K : Bool → Prop) : Prop :=
 (((xa.1 == xb.1)) = true → (((xa.2.1 == xb.2.1)) = true → jeqP xa.2.2.1 xb.2.2.1 ∧ (((jeqS xa.2.2.1 xb.2.2.1)) = true → jeqP xa.2.2.2.1 xb.2.2.2.1 ∧ (((jeqS xa.2.2.2.1 xb.2.2.2.1)) = true → teqP xa.2.2.2.2 xb.2.2.2.2 ∧ rslj3 xa xb K) ∧ (((jeqS xa.2.2.2.1 xb.2.2.2.1)) = false → rslj3 xa xb K)) ∧ (((jeqS xa.2.2.1 xb.2.2.1)) = false → rslj3 xa xb K)) ∧ (((xa.2.1 == xb.2.1)) = false → rslj3 xa xb K)) ∧ (((xa.1 == xb.1)) = false → rslj3 xa xb K)
theorem rsl_ok {g : Ghost} {axa_0 : Option Addr} {cxa_0 : Nat} {axa_1 : Option Addr} {cxa_1 : Nat} {axa_2 : Option Addr} {cxa_2 : Nat} (xa : JL) {axb_0 : Option Addr} {cxb_0 : Nat} {axb_1 : Option Addr} {cxb_1 : Nat} {axb_2 : Option Addr} {cxb_2 : Nat} (xb : JL) (hRxa_0 : Rep g (.slice (.pair (.int .i64) (.pair (.int .i64) (.pair (.bool) (.pair (.str) (.pair (.int .i64) (.pair (.int .i64) (.str)))))))) [.slice axa_0 xa.2.2.1.length cxa_0] xa.2.2.1) (hRxa_1 : Rep g (.slice (.pair (.int .i64) (.pair (.int .i64) (.pair (.bool) (.pair (.str) (.pair (.int .i64) (.pair (.int .i64) (.str)))))))) [.slice axa_1 xa.2.2.2.1.length cxa_1] xa.2.2.2.1) (hRxa_2 : Rep g (.slice (.pair (.int .i64) (.pair (.int .i64) (.pair (.int .i64) (.pair (.int .i64) (.str)))))) [.slice axa_2 xa.2.2.2.2.length cxa_2] xa.2.2.2.2) (hRxb_0 : Rep g (.slice (.pair (.int .i64) (.pair (.int .i64) (.pair (.bool) (.pair (.str) (.pair (.int .i64) (.pair (.int .i64) (.str)))))))) [.slice axb_0 xb.2.2.1.length cxb_0] xb.2.2.1) (hRxb_1 : Rep g (.slice (.pair (.int .i64) (.pair (.int .i64) (.pair (.bool) (.pair (.str) (.pair (.int .i64) (.pair (.int .i64) (.str)))))))) [.slice axb_1 xb.2.2.2.1.length cxb_1] xb.2.2.2.1) (hRxb_2 : Rep g (.slice (.pair (.int .i64) (.pair (.int .i64) (.pair (.int .i64) (.pair (.int .i64) (.str)))))) [.slice axb_2 xb.2.2.2.2.length cxb_2] xb.2.2.2.2) (K : Bool → Prop)
  (hF : rslF xa xb K) : CallsH Try.prog 15 #[.agg #[.int .i64 xa.1, .int .i64 xa.2.1, .slice axa_0 xa.2.2.1.length cxa_0, .slice axa_1 xa.2.2.2.1.length cxa_1, .slice axa_2 xa.2.2.2.2.length cxa_2], .agg #[.int .i64 xb.1, .int .i64 xb.2.1, .slice axb_0 xb.2.2.1.length cxb_0, .slice axb_1 xb.2.2.2.1.length cxb_1, .slice axb_2 xb.2.2.2.2.length cxb_2]] g [] (fun g' H' v => ∃ (r0 : Bool), v = .bool r0 ∧ H' = [] ∧ K r0) := by
 refine CallsH.enter 38 [(0, .agg #[.int .i64 xa.1, .int .i64 xa.2.1, .slice axa_0 xa.2.2.1.length cxa_0, .slice axa_1 xa.2.2.2.1.length cxa_1, .slice axa_2 xa.2.2.2.2.length cxa_2]), (1, .agg #[.int .i64 xb.1, .int .i64 xb.2.1, .slice axb_0 xb.2.2.1.length cxb_0, .slice axb_1 xb.2.2.2.1.length cxb_1, .slice axb_2 xb.2.2.2.2.length cxb_2])] Try.func15 rfl (by kernel_rfl) (by kernel_rfl) (by kernel_rfl) fun w0 => ?_
 refine Ok.seq (Ok.region (Ok.op rfl (OpOk.box (v := .agg #[.int .i64 xa.1, .int .i64 xa.2.1, .slice axa_0 xa.2.2.1.length cxa_0, .slice axa_1 xa.2.2.2.1.length cxa_1, .slice axa_2 xa.2.2.2.2.length cxa_2]) (cs := #[.int .i64 xa.1, .int .i64 xa.2.1, .slice axa_0 xa.2.2.1.length cxa_0, .slice axa_1 xa.2.2.2.1.length cxa_1, .slice axa_2 xa.2.2.2.2.length cxa_2]) rfl (by kernel_rfl) rfl fun bs2 => ?_)))
 refine Ok.op rfl (OpOk.box (v := .agg #[.int .i64 xb.1, .int .i64 xb.2.1, .slice axb_0 xb.2.2.1.length cxb_0, .slice axb_1 xb.2.2.2.1.length cxb_1, .slice axb_2 xb.2.2.2.2.length cxb_2]) (cs := #[.int .i64 xb.1, .int .i64 xb.2.1, .slice axb_0 xb.2.2.1.length cxb_0, .slice axb_1 xb.2.2.2.1.length cxb_1, .slice axb_2 xb.2.2.2.2.length cxb_2]) rfl (by kernel_rfl) rfl fun bs3 => ?_)
 refine Ok.batch 1 [(2, pv bs2 0), (3, pv bs3 0)] (by kernel_rfl) (Ok.nil (Ok.thenN (Ok.cut (fun a W => StA 38 [(4, .bool (rslV0 xa xb))] a ∧ StW w0 [] g W ∧ rslj3 xa xb K) ?_ ?_)))
 ·
  refine Ok.region (Ok.bat 1 [2, 3] [(5, pv bs2 0)] ?_)
  refine Ok.op rfl (OpOk.step (v := .int .i64 xa.1) (Yields.load 1 rfl rfl Try.underlying3 rfl (by kernel_rfl)) rfl rfl (Ok.bat 1 [2, 3] [(6, .int .i64 xa.1), (7, pv bs3 0)] ?_))
  refine Ok.op rfl (OpOk.step (v := .int .i64 xb.1) (Yields.load 0 rfl rfl Try.underlying3 rfl (by kernel_rfl)) rfl rfl (Ok.bat 2 [2, 3] [(10, .bool (xa.1 == xb.1))] ?_))
  refine Ok.boolAt 10 ((xa.1 == xb.1)) rfl (fun hc3 => ?_) (fun hc3 => ?_)
  ·replace hF := hF.1 hc3
   refine Ok.bat 1 [2, 3] [(10, .bool true), (11, pv bs2 1)] ?_
   refine Ok.opYes (j := 5) (d := 10) (want := true) (b := true) rfl (by kernel_rfl) (by kernel_rfl) rfl (OpOk.step (v := .int .i64 xa.2.1) (Yields.load 1 rfl rfl Try.underlying3 rfl (by kernel_rfl)) rfl rfl (Ok.bat 1 [2, 3, 10] [(12, .int .i64 xa.2.1), (13, pv bs3 1)] ?_))
   refine Ok.opYes (j := 5) (d := 10) (want := true) (b := true) rfl (by kernel_rfl) (by kernel_rfl) rfl (OpOk.step (v := .int .i64 xb.2.1) (Yields.load 0 rfl rfl Try.underlying3 rfl (by kernel_rfl)) rfl rfl (Ok.bat 3 [2, 3] [(17, .bool (xa.2.1 == xb.2.1))] ?_))
   refine Ok.boolAt 17 ((xa.2.1 == xb.2.1)) rfl (fun hc4 => ?_) (fun hc4 => ?_)
   ·replace hF := hF.1 hc4
    refine Ok.bat 1 [2, 3] [(17, .bool true), (18, pv bs2 2)] ?_
    refine Ok.opYes (j := 12) (d := 17) (want := true) (b := true) rfl (by kernel_rfl) (by kernel_rfl) rfl (OpOk.step (v := .slice axa_0 xa.2.2.1.length cxa_0) (Yields.load 1 rfl rfl Try.underlying34 rfl (by kernel_rfl)) rfl rfl (Ok.bat 1 [2, 3, 17] [(19, .slice axa_0 xa.2.2.1.length cxa_0), (20, pv bs3 2)] ?_))
    refine Ok.opYes (j := 12) (d := 17) (want := true) (b := true) rfl (by kernel_rfl) (by kernel_rfl) rfl (OpOk.step (v := .slice axb_0 xb.2.2.1.length cxb_0) (Yields.load 0 rfl rfl Try.underlying34 rfl (by kernel_rfl)) rfl rfl ?_)
    obtain ⟨hp5, hF⟩ := hF
    refine Ok.opYes (j := 12) (d := 17) (want := true) (b := true) rfl (by kernel_rfl) (by kernel_rfl) rfl (OpOk.callG (v := .bool (jeqS xa.2.2.1 xb.2.2.1)) enr (fun W hW => jeq_c xa.2.2.1 xb.2.2.1 (hRxa_0.mono hW.sees) (hRxb_0.mono hW.sees) hp5) rfl ?_)
    refine Ok.bat 2 [2, 3] [(24, .bool (jeqS xa.2.2.1 xb.2.2.1))] ?_
    refine Ok.boolAt 24 ((jeqS xa.2.2.1 xb.2.2.1)) rfl (fun hc6 => ?_) (fun hc6 => ?_)
    ·replace hF := hF.1 hc6
     refine Ok.bat 1 [2, 3] [(24, .bool true), (25, pv bs2 3)] ?_
     refine Ok.opYes (j := 19) (d := 24) (want := true) (b := true) rfl (by kernel_rfl) (by kernel_rfl) rfl (OpOk.step (v := .slice axa_1 xa.2.2.2.1.length cxa_1) (Yields.load 1 rfl rfl Try.underlying34 rfl (by kernel_rfl)) rfl rfl (Ok.bat 1 [2, 3, 24] [(26, .slice axa_1 xa.2.2.2.1.length cxa_1), (27, pv bs3 3)] ?_))
     refine Ok.opYes (j := 19) (d := 24) (want := true) (b := true) rfl (by kernel_rfl) (by kernel_rfl) rfl (OpOk.step (v := .slice axb_1 xb.2.2.2.1.length cxb_1) (Yields.load 0 rfl rfl Try.underlying34 rfl (by kernel_rfl)) rfl rfl ?_)
     obtain ⟨hp7, hF⟩ := hF
     refine Ok.opYes (j := 19) (d := 24) (want := true) (b := true) rfl (by kernel_rfl) (by kernel_rfl) rfl (OpOk.callG (v := .bool (jeqS xa.2.2.2.1 xb.2.2.2.1)) enr (fun W hW => jeq_c xa.2.2.2.1 xb.2.2.2.1 (hRxa_1.mono hW.sees) (hRxb_1.mono hW.sees) hp7) rfl ?_)
     refine Ok.bat 2 [2, 3] [(31, .bool (jeqS xa.2.2.2.1 xb.2.2.2.1))] ?_
     refine Ok.boolAt 31 ((jeqS xa.2.2.2.1 xb.2.2.2.1)) rfl (fun hc8 => ?_) (fun hc8 => ?_)
     ·replace hF := hF.1 hc8
      refine Ok.bat 1 [3] [(31, .bool true), (32, pv bs2 4)] ?_
      refine Ok.opYes (j := 26) (d := 31) (want := true) (b := true) rfl (by kernel_rfl) (by kernel_rfl) rfl (OpOk.step (v := .slice axa_2 xa.2.2.2.2.length cxa_2) (Yields.load 1 rfl rfl Try.underlying35 rfl (by kernel_rfl)) rfl rfl (Ok.bat 1 [31] [(33, .slice axa_2 xa.2.2.2.2.length cxa_2), (34, pv bs3 4)] ?_))
      refine Ok.opYes (j := 26) (d := 31) (want := true) (b := true) rfl (by kernel_rfl) (by kernel_rfl) rfl (OpOk.step (v := .slice axb_2 xb.2.2.2.2.length cxb_2) (Yields.load 0 rfl rfl Try.underlying35 rfl (by kernel_rfl)) rfl rfl ?_)
      obtain ⟨hp9, hF⟩ := hF
      refine Ok.opYes (j := 26) (d := 31) (want := true) (b := true) rfl (by kernel_rfl) (by kernel_rfl) rfl (OpOk.callG (v := .bool (teqS xa.2.2.2.2 xb.2.2.2.2)) enr (fun W hW => teq_c xa.2.2.2.2 xb.2.2.2.2 (hRxa_2.mono hW.sees) (hRxb_2.mono hW.sees) hp9) rfl ?_)
      refine Ok.batch 2 [(4, .bool (teqS xa.2.2.2.2 xb.2.2.2.2))] (by kernel_rfl) (Ok.nil (Ok.thenN (Ok.reval 4 rfl (show (.bool (teqS xa.2.2.2.2 xb.2.2.2.2) : Value) = .bool (rslV0 xa xb) from congrArg (Value.bool) ((Eq.trans ((Eq.trans ((Eq.trans (mand_t hc8) (mand_t hc6))) (mand_t hc4))) (mand_t hc3)))) ?_)))
      exact fun a W hA hW => ⟨hA.sub (by kernel_rfl), hW.sub (.cons _ (.cons _ .slnil)), hF⟩
     ·replace hF := hF.2 hc8
      refine Ok.batch 7 [(4, .bool false)] (by kernel_rfl) (Ok.nil (Ok.thenN (Ok.reval 4 rfl (show (.bool false : Value) = .bool (rslV0 xa xb) from congrArg (Value.bool) ((Eq.trans ((Eq.trans ((Eq.trans (mand_f hc8) (mand_t hc6))) (mand_t hc4))) (mand_t hc3)))) ?_)))
      exact fun a W hA hW => ⟨hA.sub (by kernel_rfl), hW.sub (.cons _ (.cons _ .slnil)), hF⟩
    ·replace hF := hF.2 hc6
     refine Ok.batch 14 [(4, .bool false)] (by kernel_rfl) (Ok.nil (Ok.thenN (Ok.reval 4 rfl (show (.bool false : Value) = .bool (rslV0 xa xb) from congrArg (Value.bool) ((Eq.trans ((Eq.trans (mand_f hc6) (mand_t hc4))) (mand_t hc3)))) ?_)))
     exact fun a W hA hW => ⟨hA.sub (by kernel_rfl), hW.sub (.cons _ (.cons _ .slnil)), hF⟩
   ·replace hF := hF.2 hc4
    refine Ok.batch 21 [(4, .bool false)] (by kernel_rfl) (Ok.nil (Ok.thenN (Ok.reval 4 rfl (show (.bool false : Value) = .bool (rslV0 xa xb) from congrArg (Value.bool) ((Eq.trans (mand_f hc4) (mand_t hc3)))) ?_)))
    exact fun a W hA hW => ⟨hA.sub (by kernel_rfl), hW.sub (.cons _ (.cons _ .slnil)), hF⟩
  ·replace hF := hF.2 hc3
   refine Ok.batch 28 [(4, .bool false)] (by kernel_rfl) (Ok.nil (Ok.thenN (Ok.reval 4 rfl (show (.bool false : Value) = .bool (rslV0 xa xb) from congrArg (Value.bool) (mand_f hc3)) ?_)))
   exact fun a W hA hW => ⟨hA.sub (by kernel_rfl), hW.sub (.cons _ (.cons _ .slnil)), hF⟩
 ·
  clear hF
  rintro a W ⟨hA, hW, hF⟩
  refine (?_ : Ok _ _ _ _ _ _) a W hA hW
  clear hA hW
  refine Ok.ret ?_
  exact Ok.resH (vs := [.bool (rslV0 xa xb)]) (.inl rfl) rfl (.cons (.tmp rfl) .nil) (Gext.refl w0 g) ⟨(rslV0 xa xb), rfl, rfl, hF⟩
def lenOk (a : JL) : Prop := a.2.2.1.length ≤ 1000000 ∧ a.2.2.2.1.length ≤ 1000000 ∧ a.2.2.2.2.length ≤ 1000000
def rslP (a b : JL) : Prop := lenOk a ∧ lenOk b
theorem rsl_F (a b : JL) (hp : rslP a b) : rslF a b (fun r => r = rslV0 a b) := by
 obtain ⟨⟨h1, h2, h3⟩, h4, h5, h6⟩ := hp
 have j : rslj3 a b (fun r => r = rslV0 a b) := rfl
 exact ⟨fun _ => ⟨fun _ => ⟨⟨h1, h4⟩, fun _ => ⟨⟨h2, h5⟩, fun _ => ⟨⟨h3, h6⟩, j⟩, fun _ => j⟩, fun _ => j⟩, fun _ => j⟩, fun _ => j⟩
theorem rsl_c {g : Ghost} {axa_0 : Option Addr} {cxa_0 : Nat} {axa_1 : Option Addr} {cxa_1 : Nat} {axa_2 : Option Addr} {cxa_2 : Nat} (xa : Int × Int × (List (Int × Int × Bool × Bs × Int × Int × Bs)) × (List (Int × Int × Bool × Bs × Int × Int × Bs)) × List (Int × Int × Int × Int × Bs)) {axb_0 : Option Addr} {cxb_0 : Nat} {axb_1 : Option Addr} {cxb_1 : Nat} {axb_2 : Option Addr} {cxb_2 : Nat} (xb : Int × Int × (List (Int × Int × Bool × Bs × Int × Int × Bs)) × (List (Int × Int × Bool × Bs × Int × Int × Bs)) × List (Int × Int × Int × Int × Bs)) (hRxa_0 : Rep g (.slice (.pair (.int .i64) (.pair (.int .i64) (.pair (.bool) (.pair (.str) (.pair (.int .i64) (.pair (.int .i64) (.str)))))))) [.slice axa_0 xa.2.2.1.length cxa_0] xa.2.2.1) (hRxa_1 : Rep g (.slice (.pair (.int .i64) (.pair (.int .i64) (.pair (.bool) (.pair (.str) (.pair (.int .i64) (.pair (.int .i64) (.str)))))))) [.slice axa_1 xa.2.2.2.1.length cxa_1] xa.2.2.2.1) (hRxa_2 : Rep g (.slice (.pair (.int .i64) (.pair (.int .i64) (.pair (.int .i64) (.pair (.int .i64) (.str)))))) [.slice axa_2 xa.2.2.2.2.length cxa_2] xa.2.2.2.2) (hRxb_0 : Rep g (.slice (.pair (.int .i64) (.pair (.int .i64) (.pair (.bool) (.pair (.str) (.pair (.int .i64) (.pair (.int .i64) (.str)))))))) [.slice axb_0 xb.2.2.1.length cxb_0] xb.2.2.1) (hRxb_1 : Rep g (.slice (.pair (.int .i64) (.pair (.int .i64) (.pair (.bool) (.pair (.str) (.pair (.int .i64) (.pair (.int .i64) (.str)))))))) [.slice axb_1 xb.2.2.2.1.length cxb_1] xb.2.2.2.1) (hRxb_2 : Rep g (.slice (.pair (.int .i64) (.pair (.int .i64) (.pair (.int .i64) (.pair (.int .i64) (.str)))))) [.slice axb_2 xb.2.2.2.2.length cxb_2] xb.2.2.2.2)  (hp : rslP xa xb) : CallsG Try.prog 15 #[.agg #[.int .i64 xa.1, .int .i64 xa.2.1, .slice axa_0 xa.2.2.1.length cxa_0, .slice axa_1 xa.2.2.2.1.length cxa_1, .slice axa_2 xa.2.2.2.2.length cxa_2], .agg #[.int .i64 xb.1, .int .i64 xb.2.1, .slice axb_0 xb.2.2.1.length cxb_0, .slice axb_1 xb.2.2.2.1.length cxb_1, .slice axb_2 xb.2.2.2.2.length cxb_2]] g (.bool (rslV0 xa xb)) :=
 (rsl_ok xa xb hRxa_0 hRxa_1 hRxa_2 hRxb_0 hRxb_1 hRxb_2 _ (rsl_F xa xb hp)).gives (by rintro g' H' v _ ⟨r0, rfl, rfl, hK⟩; subst hK; rfl)
noncomputable section
def llsV0 (xq : JL) (xa : Int × Int × Int × Bs × Int × Int × Bs) (xuntil : Int) : Bool :=
 ((((rslV0 ((lasS xq xa).1.1, (lasS xq xa).1.2.1, (lasS xq xa).1.2.2.1, (lasS xq xa).1.2.2.2.1, (lasS xq xa).1.2.2.2.2) (0, 0, [], [], [])) && ((lasS xq xa).2.1 == 0)) && ((lasS xq xa).2.2 == (lchS xq))) && ((rslV0 ((lneS xq xuntil).1.1, (lneS xq xuntil).1.2.1, (lneS xq xuntil).1.2.2.1, (lneS xq xuntil).1.2.2.2.1, (lneS xq xuntil).1.2.2.2.2) (0, 0, [], [], [])) && ((([((lneS xq xuntil).2.1.1 == 0), ((lneS xq xuntil).2.1.2.1 == 0), ((lneS xq xuntil).2.1.2.2.1 == false), ((lneS xq xuntil).2.1.2.2.2.1 == ([] : Bs)), ([((lneS xq xuntil).2.1.2.2.2.2.1 == 0), ((lneS xq xuntil).2.1.2.2.2.2.2.1 == 0), ((lneS xq xuntil).2.1.2.2.2.2.2.2 == ([] : Bs))].all id)].all id) && (!((lneS xq xuntil).2.2.1))) && ((lneS xq xuntil).2.2.2 == (lchS xq)))))
def llsV1 (xq : JL) (xuntil : Int) : Bool :=
 ((rslV0 ((lneS xq xuntil).1.1, (lneS xq xuntil).1.2.1, (lneS xq xuntil).1.2.2.1, (lneS xq xuntil).1.2.2.2.1, (lneS xq xuntil).1.2.2.2.2) (0, 0, [], [], [])) && ((([((lneS xq xuntil).2.1.1 == 0), ((lneS xq xuntil).2.1.2.1 == 0), ((lneS xq xuntil).2.1.2.2.1 == false), ((lneS xq xuntil).2.1.2.2.2.1 == ([] : Bs)), ([((lneS xq xuntil).2.1.2.2.2.2.1 == 0), ((lneS xq xuntil).2.1.2.2.2.2.2.1 == 0), ((lneS xq xuntil).2.1.2.2.2.2.2.2 == ([] : Bs))].all id)].all id) && (!((lneS xq xuntil).2.2.1))) && ((lneS xq xuntil).2.2.2 == 1)))
def llsV2 (xq : JL) (xuntil : Int) : Bool :=
 ((rslV0 ((lneS xq xuntil).1.1, (lneS xq xuntil).1.2.1, (lneS xq xuntil).1.2.2.1, (lneS xq xuntil).1.2.2.2.1, (lneS xq xuntil).1.2.2.2.2) ((rnS xq xuntil).1.1, (rnS xq xuntil).1.2.1, (rnS xq xuntil).1.2.2.1, (rnS xq xuntil).1.2.2.2.1, (rnS xq xuntil).1.2.2.2.2)) && ((([((lneS xq xuntil).2.1.1 == (rnS xq xuntil).2.1.1), ((lneS xq xuntil).2.1.2.1 == (rnS xq xuntil).2.1.2.1), ((lneS xq xuntil).2.1.2.2.1 == (rnS xq xuntil).2.1.2.2.1), ((lneS xq xuntil).2.1.2.2.2.1 == (rnS xq xuntil).2.1.2.2.2.1), ([((lneS xq xuntil).2.1.2.2.2.2.1 == (rnS xq xuntil).2.1.2.2.2.2.1), ((lneS xq xuntil).2.1.2.2.2.2.2.1 == (rnS xq xuntil).2.1.2.2.2.2.2.1), ((lneS xq xuntil).2.1.2.2.2.2.2.2 == (rnS xq xuntil).2.1.2.2.2.2.2.2)].all id)].all id) && ((lneS xq xuntil).2.2.1 == (rnS xq xuntil).2.2)) && ((lneS xq xuntil).2.2.2 == 0)))
def llsj21 (xq : JL) (xa : Int × Int × Int × Bs × Int × Int × Bs) (xuntil : Int) (K : Bool → Prop) : Prop :=
 K (llsV0 xq xa xuntil)
def llsj39 (xq : JL) (xuntil : Int) (K : Bool → Prop) : Prop :=
 K (llsV1 xq xuntil)
def llsj45 (xq : JL) (xuntil : Int) (K : Bool → Prop) : Prop :=
 K (llsV2 xq xuntil)
def llsF (xq : JL) (xa : Int × Int × Int × Bs × Int × Int × Bs) (xuntil : Int) (K : Bool → Prop) : Prop :=
 lasP xq xa ∧ lneP xq xuntil ∧ lchP xq ∧ lchP xq ∧ ((((lchS xq) != (lchS xq))) = true → K false) ∧ ((((lchS xq) != (lchS xq))) = false → ((((lchS xq) != 0)) = true → rslP ((lasS xq xa).1.1, (lasS xq xa).1.2.1, (lasS xq xa).1.2.2.1, (lasS xq xa).1.2.2.2.1, (lasS xq xa).1.2.2.2.2) (0, 0, [], [], []) ∧ (((((rslV0 ((lasS xq xa).1.1, (lasS xq xa).1.2.1, (lasS xq xa).1.2.2.1, (lasS xq xa).1.2.2.2.1, (lasS xq xa).1.2.2.2.2) (0, 0, [], [], [])) && ((lasS xq xa).2.1 == 0)) && ((lasS xq xa).2.2 == (lchS xq)))) = true → rslP ((lneS xq xuntil).1.1, (lneS xq xuntil).1.2.1, (lneS xq xuntil).1.2.2.1, (lneS xq xuntil).1.2.2.2.1, (lneS xq xuntil).1.2.2.2.2) (0, 0, [], [], []) ∧ (((rslV0 ((lneS xq xuntil).1.1, (lneS xq xuntil).1.2.1, (lneS xq xuntil).1.2.2.1, (lneS xq xuntil).1.2.2.2.1, (lneS xq xuntil).1.2.2.2.2) (0, 0, [], [], []))) = true → llsj21 xq xa xuntil K) ∧ (((rslV0 ((lneS xq xuntil).1.1, (lneS xq xuntil).1.2.1, (lneS xq xuntil).1.2.2.1, (lneS xq xuntil).1.2.2.2.1, (lneS xq xuntil).1.2.2.2.2) (0, 0, [], [], []))) = false → llsj21 xq xa xuntil K)) ∧ (((((rslV0 ((lasS xq xa).1.1, (lasS xq xa).1.2.1, (lasS xq xa).1.2.2.1, (lasS xq xa).1.2.2.2.1, (lasS xq xa).1.2.2.2.2) (0, 0, [], [], [])) && ((lasS xq xa).2.1 == 0)) && ((lasS xq xa).2.2 == (lchS xq)))) = false → llsj21 xq xa xuntil K)) ∧ ((((lchS xq) != 0)) = false → rlaP xq xa ∧ rslP ((lasS xq xa).1.1, (lasS xq xa).1.2.1, (lasS xq xa).1.2.2.1, (lasS xq xa).1.2.2.2.1, (lasS xq xa).1.2.2.2.2) ((raS xq xa).1.1, (raS xq xa).1.2.1, (raS xq xa).1.2.2.1, (raS xq xa).1.2.2.2.1, (raS xq xa).1.2.2.2.2) ∧ (((((!(rslV0 ((lasS xq xa).1.1, (lasS xq xa).1.2.1, (lasS xq xa).1.2.2.1, (lasS xq xa).1.2.2.2.1, (lasS xq xa).1.2.2.2.2) ((raS xq xa).1.1, (raS xq xa).1.2.1, (raS xq xa).1.2.2.1, (raS xq xa).1.2.2.2.1, (raS xq xa).1.2.2.2.2))) || ((lasS xq xa).2.1 != (raS xq xa).2.1)) || ((lasS xq xa).2.2 != (raS xq xa).2.2))) = true → K false) ∧ (((((!(rslV0 ((lasS xq xa).1.1, (lasS xq xa).1.2.1, (lasS xq xa).1.2.2.1, (lasS xq xa).1.2.2.2.1, (lasS xq xa).1.2.2.2.2) ((raS xq xa).1.1, (raS xq xa).1.2.1, (raS xq xa).1.2.2.1, (raS xq xa).1.2.2.2.1, (raS xq xa).1.2.2.2.2))) || ((lasS xq xa).2.1 != (raS xq xa).2.1)) || ((lasS xq xa).2.2 != (raS xq xa).2.2))) = false → ((!(rbtM xuntil xq.1 1000000000)) = true → rslP ((lneS xq xuntil).1.1, (lneS xq xuntil).1.2.1, (lneS xq xuntil).1.2.2.1, (lneS xq xuntil).1.2.2.2.1, (lneS xq xuntil).1.2.2.2.2) (0, 0, [], [], []) ∧ (((rslV0 ((lneS xq xuntil).1.1, (lneS xq xuntil).1.2.1, (lneS xq xuntil).1.2.2.1, (lneS xq xuntil).1.2.2.2.1, (lneS xq xuntil).1.2.2.2.2) (0, 0, [], [], []))) = true → llsj39 xq xuntil K) ∧ (((rslV0 ((lneS xq xuntil).1.1, (lneS xq xuntil).1.2.1, (lneS xq xuntil).1.2.2.1, (lneS xq xuntil).1.2.2.2.1, (lneS xq xuntil).1.2.2.2.2) (0, 0, [], [], []))) = false → llsj39 xq xuntil K)) ∧ ((!(rbtM xuntil xq.1 1000000000)) = false → rlnP xq xuntil ∧ rslP ((lneS xq xuntil).1.1, (lneS xq xuntil).1.2.1, (lneS xq xuntil).1.2.2.1, (lneS xq xuntil).1.2.2.2.1, (lneS xq xuntil).1.2.2.2.2) ((rnS xq xuntil).1.1, (rnS xq xuntil).1.2.1, (rnS xq xuntil).1.2.2.1, (rnS xq xuntil).1.2.2.2.1, (rnS xq xuntil).1.2.2.2.2) ∧ (((rslV0 ((lneS xq xuntil).1.1, (lneS xq xuntil).1.2.1, (lneS xq xuntil).1.2.2.1, (lneS xq xuntil).1.2.2.2.1, (lneS xq xuntil).1.2.2.2.2) ((rnS xq xuntil).1.1, (rnS xq xuntil).1.2.1, (rnS xq xuntil).1.2.2.1, (rnS xq xuntil).1.2.2.2.1, (rnS xq xuntil).1.2.2.2.2))) = true → llsj45 xq xuntil K) ∧ (((rslV0 ((lneS xq xuntil).1.1, (lneS xq xuntil).1.2.1, (lneS xq xuntil).1.2.2.1, (lneS xq xuntil).1.2.2.2.1, (lneS xq xuntil).1.2.2.2.2) ((rnS xq xuntil).1.1, (rnS xq xuntil).1.2.1, (rnS xq xuntil).1.2.2.1, (rnS xq xuntil).1.2.2.2.1, (rnS xq xuntil).1.2.2.2.2))) = false → llsj45 xq xuntil K)))))
theorem lls_ok {g : Ghost} {axq_0 : Option Addr} {cxq_0 : Nat} {axq_1 : Option Addr} {cxq_1 : Nat} {axq_2 : Option Addr} {cxq_2 : Nat} (xq : JL) (xa : Int × Int × Int × Bs × Int × Int × Bs) (xuntil : Int) (hRxq_0 : Rep g (.slice (.pair (.int .i64) (.pair (.int .i64) (.pair (.bool) (.pair (.str) (.pair (.int .i64) (.pair (.int .i64) (.str)))))))) [.slice axq_0 xq.2.2.1.length cxq_0] xq.2.2.1) (hRxq_1 : Rep g (.slice (.pair (.int .i64) (.pair (.int .i64) (.pair (.bool) (.pair (.str) (.pair (.int .i64) (.pair (.int .i64) (.str)))))))) [.slice axq_1 xq.2.2.2.1.length cxq_1] xq.2.2.2.1) (hRxq_2 : Rep g (.slice (.pair (.int .i64) (.pair (.int .i64) (.pair (.int .i64) (.pair (.int .i64) (.str)))))) [.slice axq_2 xq.2.2.2.2.length cxq_2] xq.2.2.2.2) (K : Bool → Prop)
  (hF : llsF xq xa xuntil K) : CallsH Try.prog 4 #[.agg #[.int .i64 xq.1, .int .i64 xq.2.1, .slice axq_0 xq.2.2.1.length cxq_0, .slice axq_1 xq.2.2.2.1.length cxq_1, .slice axq_2 xq.2.2.2.2.length cxq_2], .agg #[.int .i64 xa.1, .int .i64 xa.2.1, .int .i64 xa.2.2.1, sv xa.2.2.2.1, .int .i64 xa.2.2.2.2.1, .int .i64 xa.2.2.2.2.2.1, sv xa.2.2.2.2.2.2], .int .i64 xuntil] g [] (fun g' H' v => ∃ (r0 : Bool), v = .bool r0 ∧ H' = [] ∧ K r0) := by
 refine CallsH.enter 141 [(0, .agg #[.int .i64 xq.1, .int .i64 xq.2.1, .slice axq_0 xq.2.2.1.length cxq_0, .slice axq_1 xq.2.2.2.1.length cxq_1, .slice axq_2 xq.2.2.2.2.length cxq_2]), (1, .agg #[.int .i64 xa.1, .int .i64 xa.2.1, .int .i64 xa.2.2.1, sv xa.2.2.2.1, .int .i64 xa.2.2.2.2.1, .int .i64 xa.2.2.2.2.2.1, sv xa.2.2.2.2.2.2]), (2, .int .i64 xuntil)] Try.func4 rfl (by kernel_rfl) (by kernel_rfl) (by kernel_rfl) fun w0 => ?_
 refine Ok.seq (Ok.region (Ok.op rfl (OpOk.box (v := .agg #[.int .i64 xq.1, .int .i64 xq.2.1, .slice axq_0 xq.2.2.1.length cxq_0, .slice axq_1 xq.2.2.2.1.length cxq_1, .slice axq_2 xq.2.2.2.2.length cxq_2]) (cs := #[.int .i64 xq.1, .int .i64 xq.2.1, .slice axq_0 xq.2.2.1.length cxq_0, .slice axq_1 xq.2.2.2.1.length cxq_1, .slice axq_2 xq.2.2.2.2.length cxq_2]) rfl (by kernel_rfl) rfl fun bs3 => ?_)))
 refine Ok.op rfl (OpOk.box (v := .agg #[.int .i64 xa.1, .int .i64 xa.2.1, .int .i64 xa.2.2.1, sv xa.2.2.2.1, .int .i64 xa.2.2.2.2.1, .int .i64 xa.2.2.2.2.2.1, sv xa.2.2.2.2.2.2]) (cs := #[.int .i64 xa.1, .int .i64 xa.2.1, .int .i64 xa.2.2.1, sv xa.2.2.2.1, .int .i64 xa.2.2.2.2.1, .int .i64 xa.2.2.2.2.2.1, sv xa.2.2.2.2.2.2]) rfl (by kernel_rfl) rfl fun bs4 => ?_)
 refine Ok.batch 1 [(2, .int .i64 xuntil), (3, pv bs3 0), (4, pv bs4 0)] (by kernel_rfl) (Ok.nil (Ok.thenN (Ok.seq (Ok.region (Ok.op rfl (OpOk.step (v := .agg #[.int .i64 xq.1, .int .i64 xq.2.1, .slice axq_0 xq.2.2.1.length cxq_0, .slice axq_1 xq.2.2.2.1.length cxq_1, .slice axq_2 xq.2.2.2.2.length cxq_2]) (Yields.loadAgg 1 5 #[.int .i64 xq.1, .int .i64 xq.2.1, .slice axq_0 xq.2.2.1.length cxq_0, .slice axq_1 xq.2.2.2.1.length cxq_1, .slice axq_2 xq.2.2.2.2.length cxq_2] rfl rfl Try.underlying37 rfl (by kernel_rfl) (by kernel_rfl) (by kernel_rfl)) rfl rfl (Ok.op rfl (OpOk.step (v := .agg #[.int .i64 xa.1, .int .i64 xa.2.1, .int .i64 xa.2.2.1, sv xa.2.2.2.1, .int .i64 xa.2.2.2.2.1, .int .i64 xa.2.2.2.2.2.1, sv xa.2.2.2.2.2.2]) (Yields.loadAgg 0 7 #[.int .i64 xa.1, .int .i64 xa.2.1, .int .i64 xa.2.2.1, sv xa.2.2.2.1, .int .i64 xa.2.2.2.2.1, .int .i64 xa.2.2.2.2.2.1, sv xa.2.2.2.2.2.2] rfl rfl Try.underlying39 rfl (by kernel_rfl) (by kernel_rfl) (by kernel_rfl)) rfl rfl ?_))))))))
 obtain ⟨hp3, hF⟩ := hF
 refine Ok.op rfl (OpOk.callH [] _ enr rfl (las_c xq xa hRxq_0 hRxq_1 hRxq_2 hp3) rfl fun g4 _ _ hx4 hV4 => ?_)
 obtain ⟨a4_0, c4_0, a4_2, c4_2, a4_4, c4_4, rfl, hR4_0, hR4_2, hR4_4, rfl⟩ := hV4
 replace hRxq_0 := hRxq_0.mono hx4.1
 replace hRxq_1 := hRxq_1.mono hx4.1
 replace hRxq_2 := hRxq_2.mono hx4.1
 refine Ok.bat 4 [2, 3, 4] [(25, .agg #[.int .i64 (lasS xq xa).1.1, .int .i64 (lasS xq xa).1.2.1, .slice a4_0 ((lasS xq xa).1.2.2.1).length c4_0, .slice a4_2 ((lasS xq xa).1.2.2.2.1).length c4_2, .slice a4_4 ((lasS xq xa).1.2.2.2.2).length c4_4]), (26, .int .i64 (lasS xq xa).2.1), (27, .int .i64 (lasS xq xa).2.2)] ?_
 refine Ok.op rfl (OpOk.alloc (z := .agg #[.int .i64 0, .int .i64 0, .slice none 0 0, .slice none 0 0, .slice none 0 0]) (cs := #[.int .i64 0, .int .i64 0, .slice none 0 0, .slice none 0 0, .slice none 0 0]) (by kernel_rfl) (by kernel_rfl) rfl fun bs7 => ?_)
 refine Ok.op rfl (OpOk.sto (k := 5) (v := .agg #[.int .i64 (lasS xq xa).1.1, .int .i64 (lasS xq xa).1.2.1, .slice a4_0 ((lasS xq xa).1.2.2.1).length c4_0, .slice a4_2 ((lasS xq xa).1.2.2.2.1).length c4_2, .slice a4_4 ((lasS xq xa).1.2.2.2.2).length c4_4]) 0 #[.int .i64 (lasS xq xa).1.1, .int .i64 (lasS xq xa).1.2.1, .slice a4_0 ((lasS xq xa).1.2.2.1).length c4_0, .slice a4_2 ((lasS xq xa).1.2.2.2.1).length c4_2, .slice a4_4 ((lasS xq xa).1.2.2.2.2).length c4_4] rfl rfl rfl ?_)
 refine Ok.bat 2 [2, 3, 4] [(7, pv bs7 0), (8, .int .i64 (lasS xq xa).2.1), (9, .int .i64 (lasS xq xa).2.2)] ?_
 refine Ok.nil (Ok.thenN (Ok.seq (Ok.region (Ok.op rfl (OpOk.step (v := .agg #[.int .i64 xq.1, .int .i64 xq.2.1, .slice axq_0 xq.2.2.1.length cxq_0, .slice axq_1 xq.2.2.2.1.length cxq_1, .slice axq_2 xq.2.2.2.2.length cxq_2]) (Yields.loadAgg 2 5 #[.int .i64 xq.1, .int .i64 xq.2.1, .slice axq_0 xq.2.2.1.length cxq_0, .slice axq_1 xq.2.2.2.1.length cxq_1, .slice axq_2 xq.2.2.2.2.length cxq_2] rfl rfl Try.underlying37 rfl (by kernel_rfl) (by kernel_rfl) (by kernel_rfl)) rfl rfl (Ok.bat 1 [2, 3, 4, 7, 8, 9] [(29, .agg #[.int .i64 xq.1, .int .i64 xq.2.1, .slice axq_0 xq.2.2.1.length cxq_0, .slice axq_1 xq.2.2.2.1.length cxq_1, .slice axq_2 xq.2.2.2.2.length cxq_2]), (30, .int .i64 xuntil)] ?_))))))
 obtain ⟨hp6, hF⟩ := hF
 refine Ok.op rfl (OpOk.callH [] _ enr rfl (lne_c xq xuntil hRxq_0 hRxq_1 hRxq_2 hp6) rfl fun g7 _ _ hx7 hV7 => ?_)
 obtain ⟨a7_0, c7_0, a7_2, c7_2, a7_4, c7_4, rfl, hR7_0, hR7_2, hR7_4, rfl⟩ := hV7
 replace hRxq_0 := hRxq_0.mono hx7.1
 replace hRxq_1 := hRxq_1.mono hx7.1
 replace hRxq_2 := hRxq_2.mono hx7.1
 replace hR4_0 := hR4_0.mono hx7.1
 replace hR4_2 := hR4_2.mono hx7.1
 replace hR4_4 := hR4_4.mono hx7.1
 refine Ok.bat 5 [2, 3, 4, 7, 8, 9] [(32, .agg #[.int .i64 (lneS xq xuntil).1.1, .int .i64 (lneS xq xuntil).1.2.1, .slice a7_0 ((lneS xq xuntil).1.2.2.1).length c7_0, .slice a7_2 ((lneS xq xuntil).1.2.2.2.1).length c7_2, .slice a7_4 ((lneS xq xuntil).1.2.2.2.2).length c7_4]), (33, .agg #[.int .i64 (lneS xq xuntil).2.1.1, .int .i64 (lneS xq xuntil).2.1.2.1, .bool (lneS xq xuntil).2.1.2.2.1, sv ((lneS xq xuntil).2.1.2.2.2.1), .int .i64 (lneS xq xuntil).2.1.2.2.2.2.1, .int .i64 (lneS xq xuntil).2.1.2.2.2.2.2.1, sv ((lneS xq xuntil).2.1.2.2.2.2.2.2)]), (34, .bool (lneS xq xuntil).2.2.1), (35, .int .i64 (lneS xq xuntil).2.2.2)] ?_
 refine Ok.op rfl (OpOk.alloc (z := .agg #[.int .i64 0, .int .i64 0, .slice none 0 0, .slice none 0 0, .slice none 0 0]) (cs := #[.int .i64 0, .int .i64 0, .slice none 0 0, .slice none 0 0, .slice none 0 0]) (by kernel_rfl) (by kernel_rfl) rfl fun bs10 => ?_)
 refine Ok.op rfl (OpOk.alloc (z := .agg #[.int .i64 0, .int .i64 0, .bool false, sv ([] : Bs), .int .i64 0, .int .i64 0, sv ([] : Bs)]) (cs := #[.int .i64 0, .int .i64 0, .bool false, sv ([] : Bs), .int .i64 0, .int .i64 0, sv ([] : Bs)]) (by kernel_rfl) (by kernel_rfl) rfl fun bs11 => ?_)
 refine Ok.op rfl (OpOk.sto (k := 5) (v := .agg #[.int .i64 (lneS xq xuntil).1.1, .int .i64 (lneS xq xuntil).1.2.1, .slice a7_0 ((lneS xq xuntil).1.2.2.1).length c7_0, .slice a7_2 ((lneS xq xuntil).1.2.2.2.1).length c7_2, .slice a7_4 ((lneS xq xuntil).1.2.2.2.2).length c7_4]) 1 #[.int .i64 (lneS xq xuntil).1.1, .int .i64 (lneS xq xuntil).1.2.1, .slice a7_0 ((lneS xq xuntil).1.2.2.1).length c7_0, .slice a7_2 ((lneS xq xuntil).1.2.2.2.1).length c7_2, .slice a7_4 ((lneS xq xuntil).1.2.2.2.2).length c7_4] rfl rfl rfl ?_)
 refine Ok.op rfl (OpOk.sto (k := 7) (v := .agg #[.int .i64 (lneS xq xuntil).2.1.1, .int .i64 (lneS xq xuntil).2.1.2.1, .bool (lneS xq xuntil).2.1.2.2.1, sv ((lneS xq xuntil).2.1.2.2.2.1), .int .i64 (lneS xq xuntil).2.1.2.2.2.2.1, .int .i64 (lneS xq xuntil).2.1.2.2.2.2.2.1, sv ((lneS xq xuntil).2.1.2.2.2.2.2.2)]) 0 #[.int .i64 (lneS xq xuntil).2.1.1, .int .i64 (lneS xq xuntil).2.1.2.1, .bool (lneS xq xuntil).2.1.2.2.1, sv ((lneS xq xuntil).2.1.2.2.2.1), .int .i64 (lneS xq xuntil).2.1.2.2.2.2.1, .int .i64 (lneS xq xuntil).2.1.2.2.2.2.2.1, sv ((lneS xq xuntil).2.1.2.2.2.2.2.2)] rfl rfl rfl ?_)
 refine Ok.bat 2 [2, 3, 4, 7, 8, 9] [(10, pv bs10 0), (11, pv bs11 0), (12, .bool (lneS xq xuntil).2.2.1), (13, .int .i64 (lneS xq xuntil).2.2.2)] ?_
 refine Ok.nil (Ok.thenN (Ok.seq (Ok.region (Ok.op rfl (OpOk.step (v := .agg #[.int .i64 xq.1, .int .i64 xq.2.1, .slice axq_0 xq.2.2.1.length cxq_0, .slice axq_1 xq.2.2.2.1.length cxq_1, .slice axq_2 xq.2.2.2.2.length cxq_2]) (Yields.loadAgg 4 5 #[.int .i64 xq.1, .int .i64 xq.2.1, .slice axq_0 xq.2.2.1.length cxq_0, .slice axq_1 xq.2.2.2.1.length cxq_1, .slice axq_2 xq.2.2.2.2.length cxq_2] rfl rfl Try.underlying37 rfl (by kernel_rfl) (by kernel_rfl) (by kernel_rfl)) rfl rfl ?_)))))
 obtain ⟨hp10, hF⟩ := hF
 refine Ok.op rfl (OpOk.callG (v := .int .i64 (lchS xq)) enr (fun W hW => rlr_c xq (hRxq_0.mono hW.sees) (hRxq_1.mono hW.sees) (hRxq_2.mono hW.sees) hp10) rfl ?_)
 refine Ok.bat 1 [2, 3, 4, 7, 8, 9, 10, 11, 12, 13] [(14, .int .i64 (lchS xq))] ?_
 refine Ok.nil (Ok.thenN (Ok.seq (Ok.seq (Ok.region (Ok.op rfl (OpOk.step (v := .agg #[.int .i64 xq.1, .int .i64 xq.2.1, .slice axq_0 xq.2.2.1.length cxq_0, .slice axq_1 xq.2.2.2.1.length cxq_1, .slice axq_2 xq.2.2.2.2.length cxq_2]) (Yields.loadAgg 4 5 #[.int .i64 xq.1, .int .i64 xq.2.1, .slice axq_0 xq.2.2.1.length cxq_0, .slice axq_1 xq.2.2.2.1.length cxq_1, .slice axq_2 xq.2.2.2.2.length cxq_2] rfl rfl Try.underlying37 rfl (by kernel_rfl) (by kernel_rfl) (by kernel_rfl)) rfl rfl ?_))))))
 obtain ⟨hp11, hF⟩ := hF
 refine Ok.op rfl (OpOk.callG (v := .int .i64 (lchS xq)) enr (fun W hW => lch_c xq (hRxq_0.mono hW.sees) (hRxq_1.mono hW.sees) (hRxq_2.mono hW.sees) hp11) rfl ?_)
 refine Ok.bat 2 [2, 3, 4, 7, 8, 9, 10, 11, 12, 13, 14] [(41, .bool ((lchS xq) != (lchS xq)))] ?_
 refine Ok.nil (Ok.thenN (Ok.cond (b := ((lchS xq) != (lchS xq))) rfl (fun hc12 => ?_) (fun hc12 => ?_)))
 ·replace hF := hF.1 hc12
  refine Ok.seq (Ok.region (Ok.batch 1 [(6, .bool false)] (by kernel_rfl) (Ok.nil (Ok.thenN (Ok.ret (Ok.thenR ?_))))))
  exact Ok.resP (vs := [.bool false]) [] [] (by decide) rfl (.inl rfl) rfl (.cons (.tmp rfl) .nil) (hx4.trans hx7) ⟨false, rfl, rfl, hF⟩
 ·replace hF := hF.2 hc12
  refine Ok.skip (Ok.thenN (Ok.seq (Ok.seq (Ok.region (Ok.bat 2 [2, 3, 4, 7, 8, 9, 10, 11, 12, 13, 14] [(43, .bool ((lchS xq) != 0))] ?_)))))
  refine Ok.nil (Ok.thenN (Ok.cond (b := ((lchS xq) != 0)) rfl (fun hc13 => ?_) (fun hc13 => ?_)))
  ·replace hF := hF.1 hc13
   refine Ok.cut (fun a W => ∃ gj21 : Ghost, Gext w0 g7 gj21 ∧ StA 141 [(6, .bool (llsV0 xq xa xuntil))] a ∧ StW w0 [] gj21 W ∧ llsj21 xq xa xuntil K) ?_ ?_
   ·
    refine Ok.region (Ok.op rfl (OpOk.step (v := .agg #[.int .i64 (lasS xq xa).1.1, .int .i64 (lasS xq xa).1.2.1, .slice a4_0 ((lasS xq xa).1.2.2.1).length c4_0, .slice a4_2 ((lasS xq xa).1.2.2.2.1).length c4_2, .slice a4_4 ((lasS xq xa).1.2.2.2.2).length c4_4]) (Yields.loadAgg 2 5 #[.int .i64 (lasS xq xa).1.1, .int .i64 (lasS xq xa).1.2.1, .slice a4_0 ((lasS xq xa).1.2.2.1).length c4_0, .slice a4_2 ((lasS xq xa).1.2.2.2.1).length c4_2, .slice a4_4 ((lasS xq xa).1.2.2.2.2).length c4_4] rfl rfl Try.underlying37 rfl (by kernel_rfl) (by kernel_rfl) (by kernel_rfl)) rfl rfl (Ok.bat 1 [8, 9, 10, 11, 12, 13, 14] [(44, .agg #[.int .i64 (lasS xq xa).1.1, .int .i64 (lasS xq xa).1.2.1, .slice a4_0 ((lasS xq xa).1.2.2.1).length c4_0, .slice a4_2 ((lasS xq xa).1.2.2.2.1).length c4_2, .slice a4_4 ((lasS xq xa).1.2.2.2.2).length c4_4]), (45, .agg #[.int .i64 0, .int .i64 0, .slice none 0 0, .slice none 0 0, .slice none 0 0])] ?_)))
    obtain ⟨hp14, hF⟩ := hF
    refine Ok.op rfl (OpOk.callG (v := .bool (rslV0 ((lasS xq xa).1.1, (lasS xq xa).1.2.1, (lasS xq xa).1.2.2.1, (lasS xq xa).1.2.2.2.1, (lasS xq xa).1.2.2.2.2) (0, 0, [], [], []))) enr (fun W hW => rsl_c ((lasS xq xa).1.1, (lasS xq xa).1.2.1, (lasS xq xa).1.2.2.1, (lasS xq xa).1.2.2.2.1, (lasS xq xa).1.2.2.2.2) (0, 0, [], [], []) (hR4_0.mono hW.sees) (hR4_2.mono hW.sees) (hR4_4.mono hW.sees) Rep.nil Rep.nil Rep.nil hp14) rfl ?_)
    refine Ok.bat 1 [8, 9, 10, 11, 12, 13, 14] [(47, .bool (rslV0 ((lasS xq xa).1.1, (lasS xq xa).1.2.1, (lasS xq xa).1.2.2.1, (lasS xq xa).1.2.2.2.1, (lasS xq xa).1.2.2.2.2) (0, 0, [], [], [])))] ?_
    refine Ok.midway 3 [(9, .int .i64 (lasS xq xa).2.2), (10, pv bs10 0), (11, pv bs11 0), (12, .bool (lneS xq xuntil).2.2.1), (13, .int .i64 (lneS xq xuntil).2.2.2), (14, .int .i64 (lchS xq)), (50, .bool ((rslV0 ((lasS xq xa).1.1, (lasS xq xa).1.2.1, (lasS xq xa).1.2.2.1, (lasS xq xa).1.2.2.2.1, (lasS xq xa).1.2.2.2.2) (0, 0, [], [], [])) && ((lasS xq xa).2.1 == 0)))] (fun hR15 => ?_) ?_
    ·refine Ok.boolAt 47 ((rslV0 ((lasS xq xa).1.1, (lasS xq xa).1.2.1, (lasS xq xa).1.2.2.1, (lasS xq xa).1.2.2.2.1, (lasS xq xa).1.2.2.2.2) (0, 0, [], [], []))) rfl (fun hc16 => ?_) (fun hc16 => ?_)
     ·skip
      refine Ok.bat 3 [9, 10, 11, 12, 13, 14] [(50, .bool ((lasS xq xa).2.1 == 0))] ?_
      refine Ok.reval 50 rfl (show (.bool ((lasS xq xa).2.1 == 0) : Value) = .bool ((rslV0 ((lasS xq xa).1.1, (lasS xq xa).1.2.1, (lasS xq xa).1.2.2.1, (lasS xq xa).1.2.2.2.1, (lasS xq xa).1.2.2.2.2) (0, 0, [], [], [])) && ((lasS xq xa).2.1 == 0)) from congrArg Value.bool (mand_t hc16)) (Ok.bat 0 [9, 10, 11, 12, 13, 14] [(50, .bool ((rslV0 ((lasS xq xa).1.1, (lasS xq xa).1.2.1, (lasS xq xa).1.2.2.1, (lasS xq xa).1.2.2.2.1, (lasS xq xa).1.2.2.2.2) (0, 0, [], [], [])) && ((lasS xq xa).2.1 == 0)))] ?_)
      exact hR15
     ·skip
      refine Ok.bat 3 [9, 10, 11, 12, 13, 14] [(50, .bool false)] ?_
      refine Ok.reval 50 rfl (show (.bool false : Value) = .bool ((rslV0 ((lasS xq xa).1.1, (lasS xq xa).1.2.1, (lasS xq xa).1.2.2.1, (lasS xq xa).1.2.2.2.1, (lasS xq xa).1.2.2.2.2) (0, 0, [], [], [])) && ((lasS xq xa).2.1 == 0)) from congrArg Value.bool (mand_f hc16)) (Ok.bat 0 [9, 10, 11, 12, 13, 14] [(50, .bool ((rslV0 ((lasS xq xa).1.1, (lasS xq xa).1.2.1, (lasS xq xa).1.2.2.1, (lasS xq xa).1.2.2.2.1, (lasS xq xa).1.2.2.2.2) (0, 0, [], [], [])) && ((lasS xq xa).2.1 == 0)))] ?_)
      exact hR15
    refine Ok.bat 1 [9, 10, 11, 12, 13, 14] [(51, .bool ((rslV0 ((lasS xq xa).1.1, (lasS xq xa).1.2.1, (lasS xq xa).1.2.2.1, (lasS xq xa).1.2.2.2.1, (lasS xq xa).1.2.2.2.2) (0, 0, [], [], [])) && ((lasS xq xa).2.1 == 0)))] ?_
    refine Ok.midway 4 [(10, pv bs10 0), (11, pv bs11 0), (12, .bool (lneS xq xuntil).2.2.1), (13, .int .i64 (lneS xq xuntil).2.2.2), (14, .int .i64 (lchS xq)), (55, .bool (((rslV0 ((lasS xq xa).1.1, (lasS xq xa).1.2.1, (lasS xq xa).1.2.2.1, (lasS xq xa).1.2.2.2.1, (lasS xq xa).1.2.2.2.2) (0, 0, [], [], [])) && ((lasS xq xa).2.1 == 0)) && ((lasS xq xa).2.2 == (lchS xq))))] (fun hR17 => ?_) ?_
    ·refine Ok.boolAt 51 (((rslV0 ((lasS xq xa).1.1, (lasS xq xa).1.2.1, (lasS xq xa).1.2.2.1, (lasS xq xa).1.2.2.2.1, (lasS xq xa).1.2.2.2.2) (0, 0, [], [], [])) && ((lasS xq xa).2.1 == 0))) rfl (fun hc18 => ?_) (fun hc18 => ?_)
     ·skip
      refine Ok.bat 4 [10, 11, 12, 13, 14] [(55, .bool ((lasS xq xa).2.2 == (lchS xq)))] ?_
      refine Ok.reval 55 rfl (show (.bool ((lasS xq xa).2.2 == (lchS xq)) : Value) = .bool (((rslV0 ((lasS xq xa).1.1, (lasS xq xa).1.2.1, (lasS xq xa).1.2.2.1, (lasS xq xa).1.2.2.2.1, (lasS xq xa).1.2.2.2.2) (0, 0, [], [], [])) && ((lasS xq xa).2.1 == 0)) && ((lasS xq xa).2.2 == (lchS xq))) from congrArg Value.bool (mand_t hc18)) (Ok.bat 0 [10, 11, 12, 13, 14] [(55, .bool (((rslV0 ((lasS xq xa).1.1, (lasS xq xa).1.2.1, (lasS xq xa).1.2.2.1, (lasS xq xa).1.2.2.2.1, (lasS xq xa).1.2.2.2.2) (0, 0, [], [], [])) && ((lasS xq xa).2.1 == 0)) && ((lasS xq xa).2.2 == (lchS xq))))] ?_)
      exact hR17
     ·skip
      refine Ok.bat 4 [10, 11, 12, 13, 14] [(55, .bool false)] ?_
      refine Ok.reval 55 rfl (show (.bool false : Value) = .bool (((rslV0 ((lasS xq xa).1.1, (lasS xq xa).1.2.1, (lasS xq xa).1.2.2.1, (lasS xq xa).1.2.2.2.1, (lasS xq xa).1.2.2.2.2) (0, 0, [], [], [])) && ((lasS xq xa).2.1 == 0)) && ((lasS xq xa).2.2 == (lchS xq))) from congrArg Value.bool (mand_f hc18)) (Ok.bat 0 [10, 11, 12, 13, 14] [(55, .bool (((rslV0 ((lasS xq xa).1.1, (lasS xq xa).1.2.1, (lasS xq xa).1.2.2.1, (lasS xq xa).1.2.2.2.1, (lasS xq xa).1.2.2.2.2) (0, 0, [], [], [])) && ((lasS xq xa).2.1 == 0)) && ((lasS xq xa).2.2 == (lchS xq))))] ?_)
      exact hR17
    refine Ok.bat 1 [10, 11, 12, 13, 14] [(56, .bool (((rslV0 ((lasS xq xa).1.1, (lasS xq xa).1.2.1, (lasS xq xa).1.2.2.1, (lasS xq xa).1.2.2.2.1, (lasS xq xa).1.2.2.2.2) (0, 0, [], [], [])) && ((lasS xq xa).2.1 == 0)) && ((lasS xq xa).2.2 == (lchS xq))))] ?_
    refine Ok.boolAt 56 ((((rslV0 ((lasS xq xa).1.1, (lasS xq xa).1.2.1, (lasS xq xa).1.2.2.1, (lasS xq xa).1.2.2.2.1, (lasS xq xa).1.2.2.2.2) (0, 0, [], [], [])) && ((lasS xq xa).2.1 == 0)) && ((lasS xq xa).2.2 == (lchS xq)))) rfl (fun hc19 => ?_) (fun hc19 => ?_)
    ·replace hF := hF.1 hc19
     refine Ok.opYes (j := 12) (d := 56) (want := true) (b := true) rfl (by kernel_rfl) (by kernel_rfl) rfl (OpOk.step (v := .agg #[.int .i64 (lneS xq xuntil).1.1, .int .i64 (lneS xq xuntil).1.2.1, .slice a7_0 ((lneS xq xuntil).1.2.2.1).length c7_0, .slice a7_2 ((lneS xq xuntil).1.2.2.2.1).length c7_2, .slice a7_4 ((lneS xq xuntil).1.2.2.2.2).length c7_4]) (Yields.loadAgg 1 5 #[.int .i64 (lneS xq xuntil).1.1, .int .i64 (lneS xq xuntil).1.2.1, .slice a7_0 ((lneS xq xuntil).1.2.2.1).length c7_0, .slice a7_2 ((lneS xq xuntil).1.2.2.2.1).length c7_2, .slice a7_4 ((lneS xq xuntil).1.2.2.2.2).length c7_4] rfl rfl Try.underlying37 rfl (by kernel_rfl) (by kernel_rfl) (by kernel_rfl)) rfl rfl (Ok.bat 1 [11, 12, 13, 14] [(56, .bool true), (57, .agg #[.int .i64 (lneS xq xuntil).1.1, .int .i64 (lneS xq xuntil).1.2.1, .slice a7_0 ((lneS xq xuntil).1.2.2.1).length c7_0, .slice a7_2 ((lneS xq xuntil).1.2.2.2.1).length c7_2, .slice a7_4 ((lneS xq xuntil).1.2.2.2.2).length c7_4]), (58, .agg #[.int .i64 0, .int .i64 0, .slice none 0 0, .slice none 0 0, .slice none 0 0])] ?_))
     obtain ⟨hp20, hF⟩ := hF
     refine Ok.opYes (j := 12) (d := 56) (want := true) (b := true) rfl (by kernel_rfl) (by kernel_rfl) rfl (OpOk.callG (v := .bool (rslV0 ((lneS xq xuntil).1.1, (lneS xq xuntil).1.2.1, (lneS xq xuntil).1.2.2.1, (lneS xq xuntil).1.2.2.2.1, (lneS xq xuntil).1.2.2.2.2) (0, 0, [], [], []))) enr (fun W hW => rsl_c ((lneS xq xuntil).1.1, (lneS xq xuntil).1.2.1, (lneS xq xuntil).1.2.2.1, (lneS xq xuntil).1.2.2.2.1, (lneS xq xuntil).1.2.2.2.2) (0, 0, [], [], []) (hR7_0.mono hW.sees) (hR7_2.mono hW.sees) (hR7_4.mono hW.sees) Rep.nil Rep.nil Rep.nil hp20) rfl ?_)
     refine Ok.bat 2 [11, 12, 13, 14] [(61, .bool (rslV0 ((lneS xq xuntil).1.1, (lneS xq xuntil).1.2.1, (lneS xq xuntil).1.2.2.1, (lneS xq xuntil).1.2.2.2.1, (lneS xq xuntil).1.2.2.2.2) (0, 0, [], [], [])))] ?_
     refine Ok.boolAt 61 ((rslV0 ((lneS xq xuntil).1.1, (lneS xq xuntil).1.2.1, (lneS xq xuntil).1.2.2.1, (lneS xq xuntil).1.2.2.2.1, (lneS xq xuntil).1.2.2.2.2) (0, 0, [], [], []))) rfl (fun hc21 => ?_) (fun hc21 => ?_)
     ·replace hF := hF.1 hc21
      refine Ok.opYes (j := 17) (d := 61) (want := true) (b := true) rfl (by kernel_rfl) (by kernel_rfl) rfl (OpOk.step (v := .agg #[.int .i64 (lneS xq xuntil).2.1.1, .int .i64 (lneS xq xuntil).2.1.2.1, .bool (lneS xq xuntil).2.1.2.2.1, sv ((lneS xq xuntil).2.1.2.2.2.1), .int .i64 (lneS xq xuntil).2.1.2.2.2.2.1, .int .i64 (lneS xq xuntil).2.1.2.2.2.2.2.1, sv ((lneS xq xuntil).2.1.2.2.2.2.2.2)]) (Yields.loadAgg 0 7 #[.int .i64 (lneS xq xuntil).2.1.1, .int .i64 (lneS xq xuntil).2.1.2.1, .bool (lneS xq xuntil).2.1.2.2.1, sv ((lneS xq xuntil).2.1.2.2.2.1), .int .i64 (lneS xq xuntil).2.1.2.2.2.2.1, .int .i64 (lneS xq xuntil).2.1.2.2.2.2.2.1, sv ((lneS xq xuntil).2.1.2.2.2.2.2.2)] rfl rfl Try.underlying43 rfl (by kernel_rfl) (by kernel_rfl) (by kernel_rfl)) rfl rfl (Ok.bat 1 [12, 13, 14] [(61, .bool true), (62, .agg #[.int .i64 (lneS xq xuntil).2.1.1, .int .i64 (lneS xq xuntil).2.1.2.1, .bool (lneS xq xuntil).2.1.2.2.1, sv ((lneS xq xuntil).2.1.2.2.2.1), .int .i64 (lneS xq xuntil).2.1.2.2.2.2.1, .int .i64 (lneS xq xuntil).2.1.2.2.2.2.2.1, sv ((lneS xq xuntil).2.1.2.2.2.2.2.2)]), (63, .agg #[.int .i64 0, .int .i64 0, .bool false, sv ([] : Bs), .int .i64 0, .int .i64 0, sv ([] : Bs)])] ?_))
      refine Ok.opYes (j := 17) (d := 61) (want := true) (b := true) rfl (by kernel_rfl) (by kernel_rfl) rfl (OpOk.step (v := .bool ([((lneS xq xuntil).2.1.1 == 0), ((lneS xq xuntil).2.1.2.1 == 0), ((lneS xq xuntil).2.1.2.2.1 == false), ((lneS xq xuntil).2.1.2.2.2.1 == ([] : Bs)), ([((lneS xq xuntil).2.1.2.2.2.2.1 == 0), ((lneS xq xuntil).2.1.2.2.2.2.2.1 == 0), ((lneS xq xuntil).2.1.2.2.2.2.2.2 == ([] : Bs))].all id)].all id)) (Yields.eqAgg (k := 3) rfl rfl (.struct (k := 2) Try.underlying43 (by kernel_rfl) ⟨by decide, ⟨.int .i64 (lneS xq xuntil).2.1.1, .int .i64 0, fun _ => by kernel_rfl, fun _ => by kernel_rfl, EqR.mono (k := 1) (.int Try.underlying3) (by decide)⟩, ⟨by decide, ⟨.int .i64 (lneS xq xuntil).2.1.2.1, .int .i64 0, fun _ => by kernel_rfl, fun _ => by kernel_rfl, EqR.mono (k := 1) (.int Try.underlying3) (by decide)⟩, ⟨by decide, ⟨.bool (lneS xq xuntil).2.1.2.2.1, .bool false, fun _ => by kernel_rfl, fun _ => by kernel_rfl, EqR.mono (k := 1) (.bool Try.underlying4) (by decide)⟩, ⟨by decide, ⟨sv ((lneS xq xuntil).2.1.2.2.2.1), sv ([] : Bs), fun _ => by kernel_rfl, fun _ => by kernel_rfl, EqR.mono (k := 1) (.str Try.underlying9) (by decide)⟩, ⟨by decide, ⟨.agg #[.int .i64 (lneS xq xuntil).2.1.2.2.2.2.1, .int .i64 (lneS xq xuntil).2.1.2.2.2.2.2.1, sv ((lneS xq xuntil).2.1.2.2.2.2.2.2)], .agg #[.int .i64 0, .int .i64 0, sv ([] : Bs)], fun _ => by kernel_rfl, fun _ => by kernel_rfl, EqR.mono (k := 2) (.struct (k := 1) Try.underlying24 (by kernel_rfl) ⟨by decide, ⟨.int .i64 (lneS xq xuntil).2.1.2.2.2.2.1, .int .i64 0, fun _ => by kernel_rfl, fun _ => by kernel_rfl, EqR.mono (k := 1) (.int Try.underlying3) (by decide)⟩, ⟨by decide, ⟨.int .i64 (lneS xq xuntil).2.1.2.2.2.2.2.1, .int .i64 0, fun _ => by kernel_rfl, fun _ => by kernel_rfl, EqR.mono (k := 1) (.int Try.underlying3) (by decide)⟩, ⟨by decide, ⟨sv ((lneS xq xuntil).2.1.2.2.2.2.2.2), sv ([] : Bs), fun _ => by kernel_rfl, fun _ => by kernel_rfl, EqR.mono (k := 1) (.str Try.underlying9) (by decide)⟩, trivial⟩⟩⟩) (by decide)⟩, trivial⟩⟩⟩⟩⟩) rfl (by kernel_rfl)) rfl rfl ?_)
      refine Ok.bat 2 [12, 13, 14] [(66, .bool ([((lneS xq xuntil).2.1.1 == 0), ((lneS xq xuntil).2.1.2.1 == 0), ((lneS xq xuntil).2.1.2.2.1 == false), ((lneS xq xuntil).2.1.2.2.2.1 == ([] : Bs)), ([((lneS xq xuntil).2.1.2.2.2.2.1 == 0), ((lneS xq xuntil).2.1.2.2.2.2.2.1 == 0), ((lneS xq xuntil).2.1.2.2.2.2.2.2 == ([] : Bs))].all id)].all id))] ?_
      refine Ok.midway 3 [(13, .int .i64 (lneS xq xuntil).2.2.2), (14, .int .i64 (lchS xq)), (69, .bool (([((lneS xq xuntil).2.1.1 == 0), ((lneS xq xuntil).2.1.2.1 == 0), ((lneS xq xuntil).2.1.2.2.1 == false), ((lneS xq xuntil).2.1.2.2.2.1 == ([] : Bs)), ([((lneS xq xuntil).2.1.2.2.2.2.1 == 0), ((lneS xq xuntil).2.1.2.2.2.2.2.1 == 0), ((lneS xq xuntil).2.1.2.2.2.2.2.2 == ([] : Bs))].all id)].all id) && (!((lneS xq xuntil).2.2.1))))] (fun hR22 => ?_) ?_
      ·refine Ok.boolAt 66 (([((lneS xq xuntil).2.1.1 == 0), ((lneS xq xuntil).2.1.2.1 == 0), ((lneS xq xuntil).2.1.2.2.1 == false), ((lneS xq xuntil).2.1.2.2.2.1 == ([] : Bs)), ([((lneS xq xuntil).2.1.2.2.2.2.1 == 0), ((lneS xq xuntil).2.1.2.2.2.2.2.1 == 0), ((lneS xq xuntil).2.1.2.2.2.2.2.2 == ([] : Bs))].all id)].all id)) rfl (fun hc23 => ?_) (fun hc23 => ?_)
       ·skip
        refine Ok.bat 3 [13, 14] [(69, .bool (!((lneS xq xuntil).2.2.1)))] ?_
        refine Ok.reval 69 rfl (show (.bool (!((lneS xq xuntil).2.2.1)) : Value) = .bool (([((lneS xq xuntil).2.1.1 == 0), ((lneS xq xuntil).2.1.2.1 == 0), ((lneS xq xuntil).2.1.2.2.1 == false), ((lneS xq xuntil).2.1.2.2.2.1 == ([] : Bs)), ([((lneS xq xuntil).2.1.2.2.2.2.1 == 0), ((lneS xq xuntil).2.1.2.2.2.2.2.1 == 0), ((lneS xq xuntil).2.1.2.2.2.2.2.2 == ([] : Bs))].all id)].all id) && (!((lneS xq xuntil).2.2.1))) from congrArg Value.bool (mand_t hc23)) (Ok.bat 0 [13, 14] [(69, .bool (([((lneS xq xuntil).2.1.1 == 0), ((lneS xq xuntil).2.1.2.1 == 0), ((lneS xq xuntil).2.1.2.2.1 == false), ((lneS xq xuntil).2.1.2.2.2.1 == ([] : Bs)), ([((lneS xq xuntil).2.1.2.2.2.2.1 == 0), ((lneS xq xuntil).2.1.2.2.2.2.2.1 == 0), ((lneS xq xuntil).2.1.2.2.2.2.2.2 == ([] : Bs))].all id)].all id) && (!((lneS xq xuntil).2.2.1))))] ?_)
        exact hR22
       ·skip
        refine Ok.bat 3 [13, 14] [(69, .bool false)] ?_
        refine Ok.reval 69 rfl (show (.bool false : Value) = .bool (([((lneS xq xuntil).2.1.1 == 0), ((lneS xq xuntil).2.1.2.1 == 0), ((lneS xq xuntil).2.1.2.2.1 == false), ((lneS xq xuntil).2.1.2.2.2.1 == ([] : Bs)), ([((lneS xq xuntil).2.1.2.2.2.2.1 == 0), ((lneS xq xuntil).2.1.2.2.2.2.2.1 == 0), ((lneS xq xuntil).2.1.2.2.2.2.2.2 == ([] : Bs))].all id)].all id) && (!((lneS xq xuntil).2.2.1))) from congrArg Value.bool (mand_f hc23)) (Ok.bat 0 [13, 14] [(69, .bool (([((lneS xq xuntil).2.1.1 == 0), ((lneS xq xuntil).2.1.2.1 == 0), ((lneS xq xuntil).2.1.2.2.1 == false), ((lneS xq xuntil).2.1.2.2.2.1 == ([] : Bs)), ([((lneS xq xuntil).2.1.2.2.2.2.1 == 0), ((lneS xq xuntil).2.1.2.2.2.2.2.1 == 0), ((lneS xq xuntil).2.1.2.2.2.2.2.2 == ([] : Bs))].all id)].all id) && (!((lneS xq xuntil).2.2.1))))] ?_)
        exact hR22
      refine Ok.bat 1 [13, 14] [(70, .bool (([((lneS xq xuntil).2.1.1 == 0), ((lneS xq xuntil).2.1.2.1 == 0), ((lneS xq xuntil).2.1.2.2.1 == false), ((lneS xq xuntil).2.1.2.2.2.1 == ([] : Bs)), ([((lneS xq xuntil).2.1.2.2.2.2.1 == 0), ((lneS xq xuntil).2.1.2.2.2.2.2.1 == 0), ((lneS xq xuntil).2.1.2.2.2.2.2.2 == ([] : Bs))].all id)].all id) && (!((lneS xq xuntil).2.2.1))))] ?_
      refine Ok.midway 4 [(74, .bool ((([((lneS xq xuntil).2.1.1 == 0), ((lneS xq xuntil).2.1.2.1 == 0), ((lneS xq xuntil).2.1.2.2.1 == false), ((lneS xq xuntil).2.1.2.2.2.1 == ([] : Bs)), ([((lneS xq xuntil).2.1.2.2.2.2.1 == 0), ((lneS xq xuntil).2.1.2.2.2.2.2.1 == 0), ((lneS xq xuntil).2.1.2.2.2.2.2.2 == ([] : Bs))].all id)].all id) && (!((lneS xq xuntil).2.2.1))) && ((lneS xq xuntil).2.2.2 == (lchS xq))))] (fun hR24 => ?_) ?_
      ·refine Ok.boolAt 70 ((([((lneS xq xuntil).2.1.1 == 0), ((lneS xq xuntil).2.1.2.1 == 0), ((lneS xq xuntil).2.1.2.2.1 == false), ((lneS xq xuntil).2.1.2.2.2.1 == ([] : Bs)), ([((lneS xq xuntil).2.1.2.2.2.2.1 == 0), ((lneS xq xuntil).2.1.2.2.2.2.2.1 == 0), ((lneS xq xuntil).2.1.2.2.2.2.2.2 == ([] : Bs))].all id)].all id) && (!((lneS xq xuntil).2.2.1)))) rfl (fun hc25 => ?_) (fun hc25 => ?_)
       ·skip
        refine Ok.batch 4 [(74, .bool ((lneS xq xuntil).2.2.2 == (lchS xq)))] (by kernel_rfl) (Ok.reval 74 rfl (show (.bool ((lneS xq xuntil).2.2.2 == (lchS xq)) : Value) = .bool ((([((lneS xq xuntil).2.1.1 == 0), ((lneS xq xuntil).2.1.2.1 == 0), ((lneS xq xuntil).2.1.2.2.1 == false), ((lneS xq xuntil).2.1.2.2.2.1 == ([] : Bs)), ([((lneS xq xuntil).2.1.2.2.2.2.1 == 0), ((lneS xq xuntil).2.1.2.2.2.2.2.1 == 0), ((lneS xq xuntil).2.1.2.2.2.2.2.2 == ([] : Bs))].all id)].all id) && (!((lneS xq xuntil).2.2.1))) && ((lneS xq xuntil).2.2.2 == (lchS xq))) from congrArg Value.bool (mand_t hc25)) (Ok.batch 0 [(74, .bool ((([((lneS xq xuntil).2.1.1 == 0), ((lneS xq xuntil).2.1.2.1 == 0), ((lneS xq xuntil).2.1.2.2.1 == false), ((lneS xq xuntil).2.1.2.2.2.1 == ([] : Bs)), ([((lneS xq xuntil).2.1.2.2.2.2.1 == 0), ((lneS xq xuntil).2.1.2.2.2.2.2.1 == 0), ((lneS xq xuntil).2.1.2.2.2.2.2.2 == ([] : Bs))].all id)].all id) && (!((lneS xq xuntil).2.2.1))) && ((lneS xq xuntil).2.2.2 == (lchS xq))))] (by kernel_rfl) ?_))
        exact hR24
       ·skip
        refine Ok.batch 4 [(74, .bool false)] (by kernel_rfl) (Ok.reval 74 rfl (show (.bool false : Value) = .bool ((([((lneS xq xuntil).2.1.1 == 0), ((lneS xq xuntil).2.1.2.1 == 0), ((lneS xq xuntil).2.1.2.2.1 == false), ((lneS xq xuntil).2.1.2.2.2.1 == ([] : Bs)), ([((lneS xq xuntil).2.1.2.2.2.2.1 == 0), ((lneS xq xuntil).2.1.2.2.2.2.2.1 == 0), ((lneS xq xuntil).2.1.2.2.2.2.2.2 == ([] : Bs))].all id)].all id) && (!((lneS xq xuntil).2.2.1))) && ((lneS xq xuntil).2.2.2 == (lchS xq))) from congrArg Value.bool (mand_f hc25)) (Ok.batch 0 [(74, .bool ((([((lneS xq xuntil).2.1.1 == 0), ((lneS xq xuntil).2.1.2.1 == 0), ((lneS xq xuntil).2.1.2.2.1 == false), ((lneS xq xuntil).2.1.2.2.2.1 == ([] : Bs)), ([((lneS xq xuntil).2.1.2.2.2.2.1 == 0), ((lneS xq xuntil).2.1.2.2.2.2.2.1 == 0), ((lneS xq xuntil).2.1.2.2.2.2.2.2 == ([] : Bs))].all id)].all id) && (!((lneS xq xuntil).2.2.1))) && ((lneS xq xuntil).2.2.2 == (lchS xq))))] (by kernel_rfl) ?_))
        exact hR24
      refine Ok.batch 1 [(6, .bool ((([((lneS xq xuntil).2.1.1 == 0), ((lneS xq xuntil).2.1.2.1 == 0), ((lneS xq xuntil).2.1.2.2.1 == false), ((lneS xq xuntil).2.1.2.2.2.1 == ([] : Bs)), ([((lneS xq xuntil).2.1.2.2.2.2.1 == 0), ((lneS xq xuntil).2.1.2.2.2.2.2.1 == 0), ((lneS xq xuntil).2.1.2.2.2.2.2.2 == ([] : Bs))].all id)].all id) && (!((lneS xq xuntil).2.2.1))) && ((lneS xq xuntil).2.2.2 == (lchS xq))))] (by kernel_rfl) (Ok.nil (Ok.thenN (Ok.reval 6 rfl (show (.bool ((([((lneS xq xuntil).2.1.1 == 0), ((lneS xq xuntil).2.1.2.1 == 0), ((lneS xq xuntil).2.1.2.2.1 == false), ((lneS xq xuntil).2.1.2.2.2.1 == ([] : Bs)), ([((lneS xq xuntil).2.1.2.2.2.2.1 == 0), ((lneS xq xuntil).2.1.2.2.2.2.2.1 == 0), ((lneS xq xuntil).2.1.2.2.2.2.2.2 == ([] : Bs))].all id)].all id) && (!((lneS xq xuntil).2.2.1))) && ((lneS xq xuntil).2.2.2 == (lchS xq))) : Value) = .bool (llsV0 xq xa xuntil) from congrArg (Value.bool) ((Eq.trans (mand_t hc21) (mand_t hc19)))) ?_)))
      exact fun a W hA hW => ⟨g7, (Gext.refl w0 g7), hA.sub (by kernel_rfl), hW.sub (.cons _ (.cons _ (.cons _ (.cons _ (.cons _ .slnil))))), hF⟩
     ·replace hF := hF.2 hc21
      refine Ok.batch 14 [(6, .bool false)] (by kernel_rfl) (Ok.nil (Ok.thenN (Ok.reval 6 rfl (show (.bool false : Value) = .bool (llsV0 xq xa xuntil) from congrArg (Value.bool) ((Eq.trans (mand_f hc21) (mand_t hc19)))) ?_)))
      exact fun a W hA hW => ⟨g7, (Gext.refl w0 g7), hA.sub (by kernel_rfl), hW.sub (.cons _ (.cons _ (.cons _ (.cons _ (.cons _ .slnil))))), hF⟩
    ·replace hF := hF.2 hc19
     refine Ok.batch 19 [(6, .bool false)] (by kernel_rfl) (Ok.nil (Ok.thenN (Ok.reval 6 rfl (show (.bool false : Value) = .bool (llsV0 xq xa xuntil) from congrArg (Value.bool) (mand_f hc19)) ?_)))
     exact fun a W hA hW => ⟨g7, (Gext.refl w0 g7), hA.sub (by kernel_rfl), hW.sub (.cons _ (.cons _ (.cons _ (.cons _ (.cons _ .slnil))))), hF⟩
   ·
    clear hF
    rintro a W ⟨gj21, hxj21, hA, hW, hF⟩
    refine (?_ : Ok _ _ _ _ _ _) a W hA hW
    clear hA hW
    refine Ok.ret (Ok.thenR ?_)
    exact Ok.resH (vs := [.bool (llsV0 xq xa xuntil)]) (.inl rfl) rfl (.cons (.tmp rfl) .nil) ((hx4.trans hx7).trans hxj21) ⟨(llsV0 xq xa xuntil), rfl, rfl, hF⟩
  ·replace hF := hF.2 hc13
   refine Ok.skip (Ok.thenN (Ok.seq (Ok.region (Ok.op rfl (OpOk.step (v := .agg #[.int .i64 xq.1, .int .i64 xq.2.1, .slice axq_0 xq.2.2.1.length cxq_0, .slice axq_1 xq.2.2.2.1.length cxq_1, .slice axq_2 xq.2.2.2.2.length cxq_2]) (Yields.loadAgg 4 5 #[.int .i64 xq.1, .int .i64 xq.2.1, .slice axq_0 xq.2.2.1.length cxq_0, .slice axq_1 xq.2.2.2.1.length cxq_1, .slice axq_2 xq.2.2.2.2.length cxq_2] rfl rfl Try.underlying37 rfl (by kernel_rfl) (by kernel_rfl) (by kernel_rfl)) rfl rfl (Ok.op rfl (OpOk.step (v := .agg #[.int .i64 xa.1, .int .i64 xa.2.1, .int .i64 xa.2.2.1, sv xa.2.2.2.1, .int .i64 xa.2.2.2.2.1, .int .i64 xa.2.2.2.2.2.1, sv xa.2.2.2.2.2.2]) (Yields.loadAgg 3 7 #[.int .i64 xa.1, .int .i64 xa.2.1, .int .i64 xa.2.2.1, sv xa.2.2.2.1, .int .i64 xa.2.2.2.2.1, .int .i64 xa.2.2.2.2.2.1, sv xa.2.2.2.2.2.2] rfl rfl Try.underlying39 rfl (by kernel_rfl) (by kernel_rfl) (by kernel_rfl)) rfl rfl ?_)))))))
   obtain ⟨hp26, hF⟩ := hF
   refine Ok.op rfl (OpOk.callH [] _ enr rfl (rla_c xq xa hRxq_0 hRxq_1 hRxq_2 hp26) rfl fun g27 _ _ hx27 hV27 => ?_)
   obtain ⟨a27_0, c27_0, a27_2, c27_2, a27_4, c27_4, rfl, hR27_0, hR27_2, hR27_4, rfl⟩ := hV27
   replace hRxq_0 := hRxq_0.mono hx27.1
   replace hRxq_1 := hRxq_1.mono hx27.1
   replace hRxq_2 := hRxq_2.mono hx27.1
   replace hR7_0 := hR7_0.mono hx27.1
   replace hR7_2 := hR7_2.mono hx27.1
   replace hR7_4 := hR7_4.mono hx27.1
   replace hR4_0 := hR4_0.mono hx27.1
   replace hR4_2 := hR4_2.mono hx27.1
   replace hR4_4 := hR4_4.mono hx27.1
   refine Ok.bat 4 [2, 3, 7, 8, 9, 10, 11, 12, 13] [(79, .agg #[.int .i64 (raS xq xa).1.1, .int .i64 (raS xq xa).1.2.1, .slice a27_0 ((raS xq xa).1.2.2.1).length c27_0, .slice a27_2 ((raS xq xa).1.2.2.2.1).length c27_2, .slice a27_4 ((raS xq xa).1.2.2.2.2).length c27_4]), (80, .int .i64 (raS xq xa).2.1), (81, .int .i64 (raS xq xa).2.2)] ?_
   refine Ok.op rfl (OpOk.alloc (z := .agg #[.int .i64 0, .int .i64 0, .slice none 0 0, .slice none 0 0, .slice none 0 0]) (cs := #[.int .i64 0, .int .i64 0, .slice none 0 0, .slice none 0 0, .slice none 0 0]) (by kernel_rfl) (by kernel_rfl) rfl fun bs15 => ?_)
   refine Ok.op rfl (OpOk.sto (k := 5) (v := .agg #[.int .i64 (raS xq xa).1.1, .int .i64 (raS xq xa).1.2.1, .slice a27_0 ((raS xq xa).1.2.2.1).length c27_0, .slice a27_2 ((raS xq xa).1.2.2.2.1).length c27_2, .slice a27_4 ((raS xq xa).1.2.2.2.2).length c27_4]) 0 #[.int .i64 (raS xq xa).1.1, .int .i64 (raS xq xa).1.2.1, .slice a27_0 ((raS xq xa).1.2.2.1).length c27_0, .slice a27_2 ((raS xq xa).1.2.2.2.1).length c27_2, .slice a27_4 ((raS xq xa).1.2.2.2.2).length c27_4] rfl rfl rfl ?_)
   refine Ok.bat 2 [2, 3, 7, 8, 9, 10, 11, 12, 13] [(15, pv bs15 0), (16, .int .i64 (raS xq xa).2.1), (17, .int .i64 (raS xq xa).2.2)] ?_
   refine Ok.nil (Ok.thenN (Ok.seq (Ok.seq (Ok.region (Ok.op rfl (OpOk.step (v := .agg #[.int .i64 (lasS xq xa).1.1, .int .i64 (lasS xq xa).1.2.1, .slice a4_0 ((lasS xq xa).1.2.2.1).length c4_0, .slice a4_2 ((lasS xq xa).1.2.2.2.1).length c4_2, .slice a4_4 ((lasS xq xa).1.2.2.2.2).length c4_4]) (Yields.loadAgg 3 5 #[.int .i64 (lasS xq xa).1.1, .int .i64 (lasS xq xa).1.2.1, .slice a4_0 ((lasS xq xa).1.2.2.1).length c4_0, .slice a4_2 ((lasS xq xa).1.2.2.2.1).length c4_2, .slice a4_4 ((lasS xq xa).1.2.2.2.2).length c4_4] rfl rfl Try.underlying37 rfl (by kernel_rfl) (by kernel_rfl) (by kernel_rfl)) rfl rfl (Ok.op rfl (OpOk.step (v := .agg #[.int .i64 (raS xq xa).1.1, .int .i64 (raS xq xa).1.2.1, .slice a27_0 ((raS xq xa).1.2.2.1).length c27_0, .slice a27_2 ((raS xq xa).1.2.2.2.1).length c27_2, .slice a27_4 ((raS xq xa).1.2.2.2.2).length c27_4]) (Yields.loadAgg 0 5 #[.int .i64 (raS xq xa).1.1, .int .i64 (raS xq xa).1.2.1, .slice a27_0 ((raS xq xa).1.2.2.1).length c27_0, .slice a27_2 ((raS xq xa).1.2.2.2.1).length c27_2, .slice a27_4 ((raS xq xa).1.2.2.2.2).length c27_4] rfl rfl Try.underlying37 rfl (by kernel_rfl) (by kernel_rfl) (by kernel_rfl)) rfl rfl ?_))))))))
   obtain ⟨hp29, hF⟩ := hF
   refine Ok.op rfl (OpOk.callG (v := .bool (rslV0 ((lasS xq xa).1.1, (lasS xq xa).1.2.1, (lasS xq xa).1.2.2.1, (lasS xq xa).1.2.2.2.1, (lasS xq xa).1.2.2.2.2) ((raS xq xa).1.1, (raS xq xa).1.2.1, (raS xq xa).1.2.2.1, (raS xq xa).1.2.2.2.1, (raS xq xa).1.2.2.2.2))) enr (fun W hW => rsl_c ((lasS xq xa).1.1, (lasS xq xa).1.2.1, (lasS xq xa).1.2.2.1, (lasS xq xa).1.2.2.2.1, (lasS xq xa).1.2.2.2.2) ((raS xq xa).1.1, (raS xq xa).1.2.1, (raS xq xa).1.2.2.1, (raS xq xa).1.2.2.2.1, (raS xq xa).1.2.2.2.2) (hR4_0.mono hW.sees) (hR4_2.mono hW.sees) (hR4_4.mono hW.sees) (hR27_0.mono hW.sees) (hR27_2.mono hW.sees) (hR27_4.mono hW.sees) hp29) rfl ?_)
   refine Ok.bat 2 [2, 3, 8, 9, 10, 11, 12, 13, 16, 17] [(86, .bool (!(rslV0 ((lasS xq xa).1.1, (lasS xq xa).1.2.1, (lasS xq xa).1.2.2.1, (lasS xq xa).1.2.2.2.1, (lasS xq xa).1.2.2.2.2) ((raS xq xa).1.1, (raS xq xa).1.2.1, (raS xq xa).1.2.2.1, (raS xq xa).1.2.2.2.1, (raS xq xa).1.2.2.2.2))))] ?_
   refine Ok.midway 4 [(2, .int .i64 xuntil), (3, pv bs3 0), (9, .int .i64 (lasS xq xa).2.2), (10, pv bs10 0), (11, pv bs11 0), (12, .bool (lneS xq xuntil).2.2.1), (13, .int .i64 (lneS xq xuntil).2.2.2), (17, .int .i64 (raS xq xa).2.2), (90, .bool ((!(rslV0 ((lasS xq xa).1.1, (lasS xq xa).1.2.1, (lasS xq xa).1.2.2.1, (lasS xq xa).1.2.2.2.1, (lasS xq xa).1.2.2.2.2) ((raS xq xa).1.1, (raS xq xa).1.2.1, (raS xq xa).1.2.2.1, (raS xq xa).1.2.2.2.1, (raS xq xa).1.2.2.2.2))) || ((lasS xq xa).2.1 != (raS xq xa).2.1)))] (fun hR30 => ?_) ?_
   ·refine Ok.boolAt 86 (!(rslV0 ((lasS xq xa).1.1, (lasS xq xa).1.2.1, (lasS xq xa).1.2.2.1, (lasS xq xa).1.2.2.2.1, (lasS xq xa).1.2.2.2.2) ((raS xq xa).1.1, (raS xq xa).1.2.1, (raS xq xa).1.2.2.1, (raS xq xa).1.2.2.2.1, (raS xq xa).1.2.2.2.2))) rfl (fun hc31 => ?_) (fun hc31 => ?_)
    ·skip
     refine Ok.bat 4 [2, 3, 9, 10, 11, 12, 13, 17] [(90, .bool true)] ?_
     refine Ok.reval 90 rfl (show (.bool true : Value) = .bool ((!(rslV0 ((lasS xq xa).1.1, (lasS xq xa).1.2.1, (lasS xq xa).1.2.2.1, (lasS xq xa).1.2.2.2.1, (lasS xq xa).1.2.2.2.2) ((raS xq xa).1.1, (raS xq xa).1.2.1, (raS xq xa).1.2.2.1, (raS xq xa).1.2.2.2.1, (raS xq xa).1.2.2.2.2))) || ((lasS xq xa).2.1 != (raS xq xa).2.1)) from congrArg Value.bool (mor_t hc31)) (Ok.bat 0 [2, 3, 9, 10, 11, 12, 13, 17] [(90, .bool ((!(rslV0 ((lasS xq xa).1.1, (lasS xq xa).1.2.1, (lasS xq xa).1.2.2.1, (lasS xq xa).1.2.2.2.1, (lasS xq xa).1.2.2.2.2) ((raS xq xa).1.1, (raS xq xa).1.2.1, (raS xq xa).1.2.2.1, (raS xq xa).1.2.2.2.1, (raS xq xa).1.2.2.2.2))) || ((lasS xq xa).2.1 != (raS xq xa).2.1)))] ?_)
     exact hR30
    ·skip
     refine Ok.bat 4 [2, 3, 9, 10, 11, 12, 13, 17] [(90, .bool ((lasS xq xa).2.1 != (raS xq xa).2.1))] ?_
     refine Ok.reval 90 rfl (show (.bool ((lasS xq xa).2.1 != (raS xq xa).2.1) : Value) = .bool ((!(rslV0 ((lasS xq xa).1.1, (lasS xq xa).1.2.1, (lasS xq xa).1.2.2.1, (lasS xq xa).1.2.2.2.1, (lasS xq xa).1.2.2.2.2) ((raS xq xa).1.1, (raS xq xa).1.2.1, (raS xq xa).1.2.2.1, (raS xq xa).1.2.2.2.1, (raS xq xa).1.2.2.2.2))) || ((lasS xq xa).2.1 != (raS xq xa).2.1)) from congrArg Value.bool (mor_f hc31)) (Ok.bat 0 [2, 3, 9, 10, 11, 12, 13, 17] [(90, .bool ((!(rslV0 ((lasS xq xa).1.1, (lasS xq xa).1.2.1, (lasS xq xa).1.2.2.1, (lasS xq xa).1.2.2.2.1, (lasS xq xa).1.2.2.2.2) ((raS xq xa).1.1, (raS xq xa).1.2.1, (raS xq xa).1.2.2.1, (raS xq xa).1.2.2.2.1, (raS xq xa).1.2.2.2.2))) || ((lasS xq xa).2.1 != (raS xq xa).2.1)))] ?_)
     exact hR30
   refine Ok.bat 1 [2, 3, 9, 10, 11, 12, 13, 17] [(91, .bool ((!(rslV0 ((lasS xq xa).1.1, (lasS xq xa).1.2.1, (lasS xq xa).1.2.2.1, (lasS xq xa).1.2.2.2.1, (lasS xq xa).1.2.2.2.2) ((raS xq xa).1.1, (raS xq xa).1.2.1, (raS xq xa).1.2.2.1, (raS xq xa).1.2.2.2.1, (raS xq xa).1.2.2.2.2))) || ((lasS xq xa).2.1 != (raS xq xa).2.1)))] ?_
   refine Ok.midway 4 [(2, .int .i64 xuntil), (3, pv bs3 0), (10, pv bs10 0), (11, pv bs11 0), (12, .bool (lneS xq xuntil).2.2.1), (13, .int .i64 (lneS xq xuntil).2.2.2), (95, .bool (((!(rslV0 ((lasS xq xa).1.1, (lasS xq xa).1.2.1, (lasS xq xa).1.2.2.1, (lasS xq xa).1.2.2.2.1, (lasS xq xa).1.2.2.2.2) ((raS xq xa).1.1, (raS xq xa).1.2.1, (raS xq xa).1.2.2.1, (raS xq xa).1.2.2.2.1, (raS xq xa).1.2.2.2.2))) || ((lasS xq xa).2.1 != (raS xq xa).2.1)) || ((lasS xq xa).2.2 != (raS xq xa).2.2)))] (fun hR32 => ?_) ?_
   ·refine Ok.boolAt 91 (((!(rslV0 ((lasS xq xa).1.1, (lasS xq xa).1.2.1, (lasS xq xa).1.2.2.1, (lasS xq xa).1.2.2.2.1, (lasS xq xa).1.2.2.2.2) ((raS xq xa).1.1, (raS xq xa).1.2.1, (raS xq xa).1.2.2.1, (raS xq xa).1.2.2.2.1, (raS xq xa).1.2.2.2.2))) || ((lasS xq xa).2.1 != (raS xq xa).2.1))) rfl (fun hc33 => ?_) (fun hc33 => ?_)
    ·skip
     refine Ok.bat 4 [2, 3, 10, 11, 12, 13] [(95, .bool true)] ?_
     refine Ok.reval 95 rfl (show (.bool true : Value) = .bool (((!(rslV0 ((lasS xq xa).1.1, (lasS xq xa).1.2.1, (lasS xq xa).1.2.2.1, (lasS xq xa).1.2.2.2.1, (lasS xq xa).1.2.2.2.2) ((raS xq xa).1.1, (raS xq xa).1.2.1, (raS xq xa).1.2.2.1, (raS xq xa).1.2.2.2.1, (raS xq xa).1.2.2.2.2))) || ((lasS xq xa).2.1 != (raS xq xa).2.1)) || ((lasS xq xa).2.2 != (raS xq xa).2.2)) from congrArg Value.bool (mor_t hc33)) (Ok.bat 0 [2, 3, 10, 11, 12, 13] [(95, .bool (((!(rslV0 ((lasS xq xa).1.1, (lasS xq xa).1.2.1, (lasS xq xa).1.2.2.1, (lasS xq xa).1.2.2.2.1, (lasS xq xa).1.2.2.2.2) ((raS xq xa).1.1, (raS xq xa).1.2.1, (raS xq xa).1.2.2.1, (raS xq xa).1.2.2.2.1, (raS xq xa).1.2.2.2.2))) || ((lasS xq xa).2.1 != (raS xq xa).2.1)) || ((lasS xq xa).2.2 != (raS xq xa).2.2)))] ?_)
     exact hR32
    ·skip
     refine Ok.bat 4 [2, 3, 10, 11, 12, 13] [(95, .bool ((lasS xq xa).2.2 != (raS xq xa).2.2))] ?_
     refine Ok.reval 95 rfl (show (.bool ((lasS xq xa).2.2 != (raS xq xa).2.2) : Value) = .bool (((!(rslV0 ((lasS xq xa).1.1, (lasS xq xa).1.2.1, (lasS xq xa).1.2.2.1, (lasS xq xa).1.2.2.2.1, (lasS xq xa).1.2.2.2.2) ((raS xq xa).1.1, (raS xq xa).1.2.1, (raS xq xa).1.2.2.1, (raS xq xa).1.2.2.2.1, (raS xq xa).1.2.2.2.2))) || ((lasS xq xa).2.1 != (raS xq xa).2.1)) || ((lasS xq xa).2.2 != (raS xq xa).2.2)) from congrArg Value.bool (mor_f hc33)) (Ok.bat 0 [2, 3, 10, 11, 12, 13] [(95, .bool (((!(rslV0 ((lasS xq xa).1.1, (lasS xq xa).1.2.1, (lasS xq xa).1.2.2.1, (lasS xq xa).1.2.2.2.1, (lasS xq xa).1.2.2.2.2) ((raS xq xa).1.1, (raS xq xa).1.2.1, (raS xq xa).1.2.2.1, (raS xq xa).1.2.2.2.1, (raS xq xa).1.2.2.2.2))) || ((lasS xq xa).2.1 != (raS xq xa).2.1)) || ((lasS xq xa).2.2 != (raS xq xa).2.2)))] ?_)
     exact hR32
   refine Ok.nil (Ok.thenN (Ok.cond (b := (((!(rslV0 ((lasS xq xa).1.1, (lasS xq xa).1.2.1, (lasS xq xa).1.2.2.1, (lasS xq xa).1.2.2.2.1, (lasS xq xa).1.2.2.2.2) ((raS xq xa).1.1, (raS xq xa).1.2.1, (raS xq xa).1.2.2.1, (raS xq xa).1.2.2.2.1, (raS xq xa).1.2.2.2.2))) || ((lasS xq xa).2.1 != (raS xq xa).2.1)) || ((lasS xq xa).2.2 != (raS xq xa).2.2))) rfl (fun hc34 => ?_) (fun hc34 => ?_)))
   ·replace hF := hF.1 hc34
    refine Ok.seq (Ok.region (Ok.batch 1 [(6, .bool false)] (by kernel_rfl) (Ok.nil (Ok.thenN (Ok.ret (Ok.thenR ?_))))))
    exact Ok.resP (vs := [.bool false]) [] [] (by decide) rfl (.inl rfl) rfl (.cons (.tmp rfl) .nil) ((hx4.trans hx7).trans hx27) ⟨false, rfl, rfl, hF⟩
   ·replace hF := hF.2 hc34
    refine Ok.skip (Ok.thenN (Ok.seq (Ok.seq (Ok.region (Ok.bat 2 [2, 3, 10, 11, 12, 13] [(96, .int .i64 xuntil), (97, pv bs3 0)] ?_)))))
    refine Ok.op rfl (OpOk.step (v := .int .i64 xq.1) (Yields.load 5 rfl rfl Try.underlying3 rfl (by kernel_rfl)) rfl rfl (Ok.op rfl (OpOk.callG (v := .bool (rbtM xuntil xq.1 1000000000)) enr (fun W hW => rbt_c xuntil xq.1 1000000000) rfl ?_)))
    refine Ok.bat 1 [2, 3, 10, 11, 12, 13] [(100, .bool (!(rbtM xuntil xq.1 1000000000)))] ?_
    refine Ok.nil (Ok.thenN (Ok.cond (b := !(rbtM xuntil xq.1 1000000000)) rfl (fun hc35 => ?_) (fun hc35 => ?_)))
    ·replace hF := hF.1 hc35
     refine Ok.cut (fun a W => ∃ gj39 : Ghost, Gext w0 g27 gj39 ∧ StA 141 [(6, .bool (llsV1 xq xuntil))] a ∧ StW w0 [] gj39 W ∧ llsj39 xq xuntil K) ?_ ?_
     ·
      refine Ok.region (Ok.op rfl (OpOk.step (v := .agg #[.int .i64 (lneS xq xuntil).1.1, .int .i64 (lneS xq xuntil).1.2.1, .slice a7_0 ((lneS xq xuntil).1.2.2.1).length c7_0, .slice a7_2 ((lneS xq xuntil).1.2.2.2.1).length c7_2, .slice a7_4 ((lneS xq xuntil).1.2.2.2.2).length c7_4]) (Yields.loadAgg 2 5 #[.int .i64 (lneS xq xuntil).1.1, .int .i64 (lneS xq xuntil).1.2.1, .slice a7_0 ((lneS xq xuntil).1.2.2.1).length c7_0, .slice a7_2 ((lneS xq xuntil).1.2.2.2.1).length c7_2, .slice a7_4 ((lneS xq xuntil).1.2.2.2.2).length c7_4] rfl rfl Try.underlying37 rfl (by kernel_rfl) (by kernel_rfl) (by kernel_rfl)) rfl rfl (Ok.bat 1 [11, 12, 13] [(101, .agg #[.int .i64 (lneS xq xuntil).1.1, .int .i64 (lneS xq xuntil).1.2.1, .slice a7_0 ((lneS xq xuntil).1.2.2.1).length c7_0, .slice a7_2 ((lneS xq xuntil).1.2.2.2.1).length c7_2, .slice a7_4 ((lneS xq xuntil).1.2.2.2.2).length c7_4]), (102, .agg #[.int .i64 0, .int .i64 0, .slice none 0 0, .slice none 0 0, .slice none 0 0])] ?_)))
      obtain ⟨hp36, hF⟩ := hF
      refine Ok.op rfl (OpOk.callG (v := .bool (rslV0 ((lneS xq xuntil).1.1, (lneS xq xuntil).1.2.1, (lneS xq xuntil).1.2.2.1, (lneS xq xuntil).1.2.2.2.1, (lneS xq xuntil).1.2.2.2.2) (0, 0, [], [], []))) enr (fun W hW => rsl_c ((lneS xq xuntil).1.1, (lneS xq xuntil).1.2.1, (lneS xq xuntil).1.2.2.1, (lneS xq xuntil).1.2.2.2.1, (lneS xq xuntil).1.2.2.2.2) (0, 0, [], [], []) (hR7_0.mono hW.sees) (hR7_2.mono hW.sees) (hR7_4.mono hW.sees) Rep.nil Rep.nil Rep.nil hp36) rfl ?_)
      refine Ok.bat 1 [11, 12, 13] [(104, .bool (rslV0 ((lneS xq xuntil).1.1, (lneS xq xuntil).1.2.1, (lneS xq xuntil).1.2.2.1, (lneS xq xuntil).1.2.2.2.1, (lneS xq xuntil).1.2.2.2.2) (0, 0, [], [], [])))] ?_
      refine Ok.boolAt 104 ((rslV0 ((lneS xq xuntil).1.1, (lneS xq xuntil).1.2.1, (lneS xq xuntil).1.2.2.1, (lneS xq xuntil).1.2.2.2.1, (lneS xq xuntil).1.2.2.2.2) (0, 0, [], [], []))) rfl (fun hc37 => ?_) (fun hc37 => ?_)
      ·replace hF := hF.1 hc37
       refine Ok.opYes (j := 3) (d := 104) (want := true) (b := true) rfl (by kernel_rfl) (by kernel_rfl) rfl (OpOk.step (v := .agg #[.int .i64 (lneS xq xuntil).2.1.1, .int .i64 (lneS xq xuntil).2.1.2.1, .bool (lneS xq xuntil).2.1.2.2.1, sv ((lneS xq xuntil).2.1.2.2.2.1), .int .i64 (lneS xq xuntil).2.1.2.2.2.2.1, .int .i64 (lneS xq xuntil).2.1.2.2.2.2.2.1, sv ((lneS xq xuntil).2.1.2.2.2.2.2.2)]) (Yields.loadAgg 1 7 #[.int .i64 (lneS xq xuntil).2.1.1, .int .i64 (lneS xq xuntil).2.1.2.1, .bool (lneS xq xuntil).2.1.2.2.1, sv ((lneS xq xuntil).2.1.2.2.2.1), .int .i64 (lneS xq xuntil).2.1.2.2.2.2.1, .int .i64 (lneS xq xuntil).2.1.2.2.2.2.2.1, sv ((lneS xq xuntil).2.1.2.2.2.2.2.2)] rfl rfl Try.underlying43 rfl (by kernel_rfl) (by kernel_rfl) (by kernel_rfl)) rfl rfl (Ok.bat 1 [12, 13] [(104, .bool true), (105, .agg #[.int .i64 (lneS xq xuntil).2.1.1, .int .i64 (lneS xq xuntil).2.1.2.1, .bool (lneS xq xuntil).2.1.2.2.1, sv ((lneS xq xuntil).2.1.2.2.2.1), .int .i64 (lneS xq xuntil).2.1.2.2.2.2.1, .int .i64 (lneS xq xuntil).2.1.2.2.2.2.2.1, sv ((lneS xq xuntil).2.1.2.2.2.2.2.2)]), (106, .agg #[.int .i64 0, .int .i64 0, .bool false, sv ([] : Bs), .int .i64 0, .int .i64 0, sv ([] : Bs)])] ?_))
       refine Ok.opYes (j := 3) (d := 104) (want := true) (b := true) rfl (by kernel_rfl) (by kernel_rfl) rfl (OpOk.step (v := .bool ([((lneS xq xuntil).2.1.1 == 0), ((lneS xq xuntil).2.1.2.1 == 0), ((lneS xq xuntil).2.1.2.2.1 == false), ((lneS xq xuntil).2.1.2.2.2.1 == ([] : Bs)), ([((lneS xq xuntil).2.1.2.2.2.2.1 == 0), ((lneS xq xuntil).2.1.2.2.2.2.2.1 == 0), ((lneS xq xuntil).2.1.2.2.2.2.2.2 == ([] : Bs))].all id)].all id)) (Yields.eqAgg (k := 3) rfl rfl (.struct (k := 2) Try.underlying43 (by kernel_rfl) ⟨by decide, ⟨.int .i64 (lneS xq xuntil).2.1.1, .int .i64 0, fun _ => by kernel_rfl, fun _ => by kernel_rfl, EqR.mono (k := 1) (.int Try.underlying3) (by decide)⟩, ⟨by decide, ⟨.int .i64 (lneS xq xuntil).2.1.2.1, .int .i64 0, fun _ => by kernel_rfl, fun _ => by kernel_rfl, EqR.mono (k := 1) (.int Try.underlying3) (by decide)⟩, ⟨by decide, ⟨.bool (lneS xq xuntil).2.1.2.2.1, .bool false, fun _ => by kernel_rfl, fun _ => by kernel_rfl, EqR.mono (k := 1) (.bool Try.underlying4) (by decide)⟩, ⟨by decide, ⟨sv ((lneS xq xuntil).2.1.2.2.2.1), sv ([] : Bs), fun _ => by kernel_rfl, fun _ => by kernel_rfl, EqR.mono (k := 1) (.str Try.underlying9) (by decide)⟩, ⟨by decide, ⟨.agg #[.int .i64 (lneS xq xuntil).2.1.2.2.2.2.1, .int .i64 (lneS xq xuntil).2.1.2.2.2.2.2.1, sv ((lneS xq xuntil).2.1.2.2.2.2.2.2)], .agg #[.int .i64 0, .int .i64 0, sv ([] : Bs)], fun _ => by kernel_rfl, fun _ => by kernel_rfl, EqR.mono (k := 2) (.struct (k := 1) Try.underlying24 (by kernel_rfl) ⟨by decide, ⟨.int .i64 (lneS xq xuntil).2.1.2.2.2.2.1, .int .i64 0, fun _ => by kernel_rfl, fun _ => by kernel_rfl, EqR.mono (k := 1) (.int Try.underlying3) (by decide)⟩, ⟨by decide, ⟨.int .i64 (lneS xq xuntil).2.1.2.2.2.2.2.1, .int .i64 0, fun _ => by kernel_rfl, fun _ => by kernel_rfl, EqR.mono (k := 1) (.int Try.underlying3) (by decide)⟩, ⟨by decide, ⟨sv ((lneS xq xuntil).2.1.2.2.2.2.2.2), sv ([] : Bs), fun _ => by kernel_rfl, fun _ => by kernel_rfl, EqR.mono (k := 1) (.str Try.underlying9) (by decide)⟩, trivial⟩⟩⟩) (by decide)⟩, trivial⟩⟩⟩⟩⟩) rfl (by kernel_rfl)) rfl rfl ?_)
       refine Ok.bat 2 [12, 13] [(109, .bool ([((lneS xq xuntil).2.1.1 == 0), ((lneS xq xuntil).2.1.2.1 == 0), ((lneS xq xuntil).2.1.2.2.1 == false), ((lneS xq xuntil).2.1.2.2.2.1 == ([] : Bs)), ([((lneS xq xuntil).2.1.2.2.2.2.1 == 0), ((lneS xq xuntil).2.1.2.2.2.2.2.1 == 0), ((lneS xq xuntil).2.1.2.2.2.2.2.2 == ([] : Bs))].all id)].all id))] ?_
       refine Ok.midway 3 [(13, .int .i64 (lneS xq xuntil).2.2.2), (112, .bool (([((lneS xq xuntil).2.1.1 == 0), ((lneS xq xuntil).2.1.2.1 == 0), ((lneS xq xuntil).2.1.2.2.1 == false), ((lneS xq xuntil).2.1.2.2.2.1 == ([] : Bs)), ([((lneS xq xuntil).2.1.2.2.2.2.1 == 0), ((lneS xq xuntil).2.1.2.2.2.2.2.1 == 0), ((lneS xq xuntil).2.1.2.2.2.2.2.2 == ([] : Bs))].all id)].all id) && (!((lneS xq xuntil).2.2.1))))] (fun hR38 => ?_) ?_
       ·refine Ok.boolAt 109 (([((lneS xq xuntil).2.1.1 == 0), ((lneS xq xuntil).2.1.2.1 == 0), ((lneS xq xuntil).2.1.2.2.1 == false), ((lneS xq xuntil).2.1.2.2.2.1 == ([] : Bs)), ([((lneS xq xuntil).2.1.2.2.2.2.1 == 0), ((lneS xq xuntil).2.1.2.2.2.2.2.1 == 0), ((lneS xq xuntil).2.1.2.2.2.2.2.2 == ([] : Bs))].all id)].all id)) rfl (fun hc39 => ?_) (fun hc39 => ?_)
        ·skip
         refine Ok.bat 3 [13] [(112, .bool (!((lneS xq xuntil).2.2.1)))] ?_
         refine Ok.reval 112 rfl (show (.bool (!((lneS xq xuntil).2.2.1)) : Value) = .bool (([((lneS xq xuntil).2.1.1 == 0), ((lneS xq xuntil).2.1.2.1 == 0), ((lneS xq xuntil).2.1.2.2.1 == false), ((lneS xq xuntil).2.1.2.2.2.1 == ([] : Bs)), ([((lneS xq xuntil).2.1.2.2.2.2.1 == 0), ((lneS xq xuntil).2.1.2.2.2.2.2.1 == 0), ((lneS xq xuntil).2.1.2.2.2.2.2.2 == ([] : Bs))].all id)].all id) && (!((lneS xq xuntil).2.2.1))) from congrArg Value.bool (mand_t hc39)) (Ok.bat 0 [13] [(112, .bool (([((lneS xq xuntil).2.1.1 == 0), ((lneS xq xuntil).2.1.2.1 == 0), ((lneS xq xuntil).2.1.2.2.1 == false), ((lneS xq xuntil).2.1.2.2.2.1 == ([] : Bs)), ([((lneS xq xuntil).2.1.2.2.2.2.1 == 0), ((lneS xq xuntil).2.1.2.2.2.2.2.1 == 0), ((lneS xq xuntil).2.1.2.2.2.2.2.2 == ([] : Bs))].all id)].all id) && (!((lneS xq xuntil).2.2.1))))] ?_)
         exact hR38
        ·skip
         refine Ok.bat 3 [13] [(112, .bool false)] ?_
         refine Ok.reval 112 rfl (show (.bool false : Value) = .bool (([((lneS xq xuntil).2.1.1 == 0), ((lneS xq xuntil).2.1.2.1 == 0), ((lneS xq xuntil).2.1.2.2.1 == false), ((lneS xq xuntil).2.1.2.2.2.1 == ([] : Bs)), ([((lneS xq xuntil).2.1.2.2.2.2.1 == 0), ((lneS xq xuntil).2.1.2.2.2.2.2.1 == 0), ((lneS xq xuntil).2.1.2.2.2.2.2.2 == ([] : Bs))].all id)].all id) && (!((lneS xq xuntil).2.2.1))) from congrArg Value.bool (mand_f hc39)) (Ok.bat 0 [13] [(112, .bool (([((lneS xq xuntil).2.1.1 == 0), ((lneS xq xuntil).2.1.2.1 == 0), ((lneS xq xuntil).2.1.2.2.1 == false), ((lneS xq xuntil).2.1.2.2.2.1 == ([] : Bs)), ([((lneS xq xuntil).2.1.2.2.2.2.1 == 0), ((lneS xq xuntil).2.1.2.2.2.2.2.1 == 0), ((lneS xq xuntil).2.1.2.2.2.2.2.2 == ([] : Bs))].all id)].all id) && (!((lneS xq xuntil).2.2.1))))] ?_)
         exact hR38
       refine Ok.bat 1 [13] [(113, .bool (([((lneS xq xuntil).2.1.1 == 0), ((lneS xq xuntil).2.1.2.1 == 0), ((lneS xq xuntil).2.1.2.2.1 == false), ((lneS xq xuntil).2.1.2.2.2.1 == ([] : Bs)), ([((lneS xq xuntil).2.1.2.2.2.2.1 == 0), ((lneS xq xuntil).2.1.2.2.2.2.2.1 == 0), ((lneS xq xuntil).2.1.2.2.2.2.2.2 == ([] : Bs))].all id)].all id) && (!((lneS xq xuntil).2.2.1))))] ?_
       refine Ok.midway 3 [(116, .bool ((([((lneS xq xuntil).2.1.1 == 0), ((lneS xq xuntil).2.1.2.1 == 0), ((lneS xq xuntil).2.1.2.2.1 == false), ((lneS xq xuntil).2.1.2.2.2.1 == ([] : Bs)), ([((lneS xq xuntil).2.1.2.2.2.2.1 == 0), ((lneS xq xuntil).2.1.2.2.2.2.2.1 == 0), ((lneS xq xuntil).2.1.2.2.2.2.2.2 == ([] : Bs))].all id)].all id) && (!((lneS xq xuntil).2.2.1))) && ((lneS xq xuntil).2.2.2 == 1)))] (fun hR40 => ?_) ?_
       ·refine Ok.boolAt 113 ((([((lneS xq xuntil).2.1.1 == 0), ((lneS xq xuntil).2.1.2.1 == 0), ((lneS xq xuntil).2.1.2.2.1 == false), ((lneS xq xuntil).2.1.2.2.2.1 == ([] : Bs)), ([((lneS xq xuntil).2.1.2.2.2.2.1 == 0), ((lneS xq xuntil).2.1.2.2.2.2.2.1 == 0), ((lneS xq xuntil).2.1.2.2.2.2.2.2 == ([] : Bs))].all id)].all id) && (!((lneS xq xuntil).2.2.1)))) rfl (fun hc41 => ?_) (fun hc41 => ?_)
        ·skip
         refine Ok.batch 3 [(116, .bool ((lneS xq xuntil).2.2.2 == 1))] (by kernel_rfl) (Ok.reval 116 rfl (show (.bool ((lneS xq xuntil).2.2.2 == 1) : Value) = .bool ((([((lneS xq xuntil).2.1.1 == 0), ((lneS xq xuntil).2.1.2.1 == 0), ((lneS xq xuntil).2.1.2.2.1 == false), ((lneS xq xuntil).2.1.2.2.2.1 == ([] : Bs)), ([((lneS xq xuntil).2.1.2.2.2.2.1 == 0), ((lneS xq xuntil).2.1.2.2.2.2.2.1 == 0), ((lneS xq xuntil).2.1.2.2.2.2.2.2 == ([] : Bs))].all id)].all id) && (!((lneS xq xuntil).2.2.1))) && ((lneS xq xuntil).2.2.2 == 1)) from congrArg Value.bool (mand_t hc41)) (Ok.batch 0 [(116, .bool ((([((lneS xq xuntil).2.1.1 == 0), ((lneS xq xuntil).2.1.2.1 == 0), ((lneS xq xuntil).2.1.2.2.1 == false), ((lneS xq xuntil).2.1.2.2.2.1 == ([] : Bs)), ([((lneS xq xuntil).2.1.2.2.2.2.1 == 0), ((lneS xq xuntil).2.1.2.2.2.2.2.1 == 0), ((lneS xq xuntil).2.1.2.2.2.2.2.2 == ([] : Bs))].all id)].all id) && (!((lneS xq xuntil).2.2.1))) && ((lneS xq xuntil).2.2.2 == 1)))] (by kernel_rfl) ?_))
         exact hR40
        ·skip
         refine Ok.batch 3 [(116, .bool false)] (by kernel_rfl) (Ok.reval 116 rfl (show (.bool false : Value) = .bool ((([((lneS xq xuntil).2.1.1 == 0), ((lneS xq xuntil).2.1.2.1 == 0), ((lneS xq xuntil).2.1.2.2.1 == false), ((lneS xq xuntil).2.1.2.2.2.1 == ([] : Bs)), ([((lneS xq xuntil).2.1.2.2.2.2.1 == 0), ((lneS xq xuntil).2.1.2.2.2.2.2.1 == 0), ((lneS xq xuntil).2.1.2.2.2.2.2.2 == ([] : Bs))].all id)].all id) && (!((lneS xq xuntil).2.2.1))) && ((lneS xq xuntil).2.2.2 == 1)) from congrArg Value.bool (mand_f hc41)) (Ok.batch 0 [(116, .bool ((([((lneS xq xuntil).2.1.1 == 0), ((lneS xq xuntil).2.1.2.1 == 0), ((lneS xq xuntil).2.1.2.2.1 == false), ((lneS xq xuntil).2.1.2.2.2.1 == ([] : Bs)), ([((lneS xq xuntil).2.1.2.2.2.2.1 == 0), ((lneS xq xuntil).2.1.2.2.2.2.2.1 == 0), ((lneS xq xuntil).2.1.2.2.2.2.2.2 == ([] : Bs))].all id)].all id) && (!((lneS xq xuntil).2.2.1))) && ((lneS xq xuntil).2.2.2 == 1)))] (by kernel_rfl) ?_))
         exact hR40
       refine Ok.batch 1 [(6, .bool ((([((lneS xq xuntil).2.1.1 == 0), ((lneS xq xuntil).2.1.2.1 == 0), ((lneS xq xuntil).2.1.2.2.1 == false), ((lneS xq xuntil).2.1.2.2.2.1 == ([] : Bs)), ([((lneS xq xuntil).2.1.2.2.2.2.1 == 0), ((lneS xq xuntil).2.1.2.2.2.2.2.1 == 0), ((lneS xq xuntil).2.1.2.2.2.2.2.2 == ([] : Bs))].all id)].all id) && (!((lneS xq xuntil).2.2.1))) && ((lneS xq xuntil).2.2.2 == 1)))] (by kernel_rfl) (Ok.nil (Ok.thenN (Ok.reval 6 rfl (show (.bool ((([((lneS xq xuntil).2.1.1 == 0), ((lneS xq xuntil).2.1.2.1 == 0), ((lneS xq xuntil).2.1.2.2.1 == false), ((lneS xq xuntil).2.1.2.2.2.1 == ([] : Bs)), ([((lneS xq xuntil).2.1.2.2.2.2.1 == 0), ((lneS xq xuntil).2.1.2.2.2.2.2.1 == 0), ((lneS xq xuntil).2.1.2.2.2.2.2.2 == ([] : Bs))].all id)].all id) && (!((lneS xq xuntil).2.2.1))) && ((lneS xq xuntil).2.2.2 == 1)) : Value) = .bool (llsV1 xq xuntil) from congrArg (Value.bool) (mand_t hc37)) ?_)))
       exact fun a W hA hW => ⟨g27, (Gext.refl w0 g27), hA.sub (by kernel_rfl), hW.sub (.cons _ (.cons _ (.cons _ (.cons _ (.cons _ (.cons _ .slnil)))))), hF⟩
      ·replace hF := hF.2 hc37
       refine Ok.batch 13 [(6, .bool false)] (by kernel_rfl) (Ok.nil (Ok.thenN (Ok.reval 6 rfl (show (.bool false : Value) = .bool (llsV1 xq xuntil) from congrArg (Value.bool) (mand_f hc37)) ?_)))
       exact fun a W hA hW => ⟨g27, (Gext.refl w0 g27), hA.sub (by kernel_rfl), hW.sub (.cons _ (.cons _ (.cons _ (.cons _ (.cons _ (.cons _ .slnil)))))), hF⟩
     ·
      clear hF
      rintro a W ⟨gj39, hxj39, hA, hW, hF⟩
      refine (?_ : Ok _ _ _ _ _ _) a W hA hW
      clear hA hW
      refine Ok.ret (Ok.thenR ?_)
      exact Ok.resH (vs := [.bool (llsV1 xq xuntil)]) (.inl rfl) rfl (.cons (.tmp rfl) .nil) (((hx4.trans hx7).trans hx27).trans hxj39) ⟨(llsV1 xq xuntil), rfl, rfl, hF⟩
    ·replace hF := hF.2 hc35
     refine Ok.skip (Ok.thenN (Ok.seq (Ok.region (Ok.op rfl (OpOk.step (v := .agg #[.int .i64 xq.1, .int .i64 xq.2.1, .slice axq_0 xq.2.2.1.length cxq_0, .slice axq_1 xq.2.2.2.1.length cxq_1, .slice axq_2 xq.2.2.2.2.length cxq_2]) (Yields.loadAgg 5 5 #[.int .i64 xq.1, .int .i64 xq.2.1, .slice axq_0 xq.2.2.1.length cxq_0, .slice axq_1 xq.2.2.2.1.length cxq_1, .slice axq_2 xq.2.2.2.2.length cxq_2] rfl rfl Try.underlying37 rfl (by kernel_rfl) (by kernel_rfl) (by kernel_rfl)) rfl rfl (Ok.bat 1 [10, 11, 12, 13] [(118, .agg #[.int .i64 xq.1, .int .i64 xq.2.1, .slice axq_0 xq.2.2.1.length cxq_0, .slice axq_1 xq.2.2.2.1.length cxq_1, .slice axq_2 xq.2.2.2.2.length cxq_2]), (119, .int .i64 xuntil)] ?_))))))
     obtain ⟨hp42, hF⟩ := hF
     refine Ok.op rfl (OpOk.callH [] _ enr rfl (rln_c xq xuntil hRxq_0 hRxq_1 hRxq_2 hp42) rfl fun g43 _ _ hx43 hV43 => ?_)
     obtain ⟨a43_0, c43_0, a43_2, c43_2, a43_4, c43_4, rfl, hR43_0, hR43_2, hR43_4, rfl⟩ := hV43
     replace hRxq_0 := hRxq_0.mono hx43.1
     replace hRxq_1 := hRxq_1.mono hx43.1
     replace hRxq_2 := hRxq_2.mono hx43.1
     replace hR27_0 := hR27_0.mono hx43.1
     replace hR27_2 := hR27_2.mono hx43.1
     replace hR27_4 := hR27_4.mono hx43.1
     replace hR7_0 := hR7_0.mono hx43.1
     replace hR7_2 := hR7_2.mono hx43.1
     replace hR7_4 := hR7_4.mono hx43.1
     replace hR4_0 := hR4_0.mono hx43.1
     replace hR4_2 := hR4_2.mono hx43.1
     replace hR4_4 := hR4_4.mono hx43.1
     refine Ok.bat 4 [10, 11, 12, 13] [(121, .agg #[.int .i64 (rnS xq xuntil).1.1, .int .i64 (rnS xq xuntil).1.2.1, .slice a43_0 ((rnS xq xuntil).1.2.2.1).length c43_0, .slice a43_2 ((rnS xq xuntil).1.2.2.2.1).length c43_2, .slice a43_4 ((rnS xq xuntil).1.2.2.2.2).length c43_4]), (122, .agg #[.int .i64 (rnS xq xuntil).2.1.1, .int .i64 (rnS xq xuntil).2.1.2.1, .bool (rnS xq xuntil).2.1.2.2.1, sv ((rnS xq xuntil).2.1.2.2.2.1), .int .i64 (rnS xq xuntil).2.1.2.2.2.2.1, .int .i64 (rnS xq xuntil).2.1.2.2.2.2.2.1, sv ((rnS xq xuntil).2.1.2.2.2.2.2.2)]), (123, .bool (rnS xq xuntil).2.2)] ?_
     refine Ok.op rfl (OpOk.alloc (z := .agg #[.int .i64 0, .int .i64 0, .slice none 0 0, .slice none 0 0, .slice none 0 0]) (cs := #[.int .i64 0, .int .i64 0, .slice none 0 0, .slice none 0 0, .slice none 0 0]) (by kernel_rfl) (by kernel_rfl) rfl fun bs18 => ?_)
     refine Ok.op rfl (OpOk.alloc (z := .agg #[.int .i64 0, .int .i64 0, .bool false, sv ([] : Bs), .int .i64 0, .int .i64 0, sv ([] : Bs)]) (cs := #[.int .i64 0, .int .i64 0, .bool false, sv ([] : Bs), .int .i64 0, .int .i64 0, sv ([] : Bs)]) (by kernel_rfl) (by kernel_rfl) rfl fun bs19 => ?_)
     refine Ok.op rfl (OpOk.sto (k := 5) (v := .agg #[.int .i64 (rnS xq xuntil).1.1, .int .i64 (rnS xq xuntil).1.2.1, .slice a43_0 ((rnS xq xuntil).1.2.2.1).length c43_0, .slice a43_2 ((rnS xq xuntil).1.2.2.2.1).length c43_2, .slice a43_4 ((rnS xq xuntil).1.2.2.2.2).length c43_4]) 1 #[.int .i64 (rnS xq xuntil).1.1, .int .i64 (rnS xq xuntil).1.2.1, .slice a43_0 ((rnS xq xuntil).1.2.2.1).length c43_0, .slice a43_2 ((rnS xq xuntil).1.2.2.2.1).length c43_2, .slice a43_4 ((rnS xq xuntil).1.2.2.2.2).length c43_4] rfl rfl rfl ?_)
     refine Ok.op rfl (OpOk.sto (k := 7) (v := .agg #[.int .i64 (rnS xq xuntil).2.1.1, .int .i64 (rnS xq xuntil).2.1.2.1, .bool (rnS xq xuntil).2.1.2.2.1, sv ((rnS xq xuntil).2.1.2.2.2.1), .int .i64 (rnS xq xuntil).2.1.2.2.2.2.1, .int .i64 (rnS xq xuntil).2.1.2.2.2.2.2.1, sv ((rnS xq xuntil).2.1.2.2.2.2.2.2)]) 0 #[.int .i64 (rnS xq xuntil).2.1.1, .int .i64 (rnS xq xuntil).2.1.2.1, .bool (rnS xq xuntil).2.1.2.2.1, sv ((rnS xq xuntil).2.1.2.2.2.1), .int .i64 (rnS xq xuntil).2.1.2.2.2.2.1, .int .i64 (rnS xq xuntil).2.1.2.2.2.2.2.1, sv ((rnS xq xuntil).2.1.2.2.2.2.2.2)] rfl rfl rfl ?_)
     refine Ok.bat 1 [10, 11, 12, 13] [(18, pv bs18 0), (19, pv bs19 0), (20, .bool (rnS xq xuntil).2.2)] ?_
     refine Ok.nil (Ok.thenN (Ok.cut (fun a W => ∃ gj45 : Ghost, Gext w0 g43 gj45 ∧ StA 141 [(6, .bool (llsV2 xq xuntil))] a ∧ StW w0 [] gj45 W ∧ llsj45 xq xuntil K) ?_ ?_))
     ·
      refine Ok.region (Ok.op rfl (OpOk.step (v := .agg #[.int .i64 (lneS xq xuntil).1.1, .int .i64 (lneS xq xuntil).1.2.1, .slice a7_0 ((lneS xq xuntil).1.2.2.1).length c7_0, .slice a7_2 ((lneS xq xuntil).1.2.2.2.1).length c7_2, .slice a7_4 ((lneS xq xuntil).1.2.2.2.2).length c7_4]) (Yields.loadAgg 4 5 #[.int .i64 (lneS xq xuntil).1.1, .int .i64 (lneS xq xuntil).1.2.1, .slice a7_0 ((lneS xq xuntil).1.2.2.1).length c7_0, .slice a7_2 ((lneS xq xuntil).1.2.2.2.1).length c7_2, .slice a7_4 ((lneS xq xuntil).1.2.2.2.2).length c7_4] rfl rfl Try.underlying37 rfl (by kernel_rfl) (by kernel_rfl) (by kernel_rfl)) rfl rfl (Ok.op rfl (OpOk.step (v := .agg #[.int .i64 (rnS xq xuntil).1.1, .int .i64 (rnS xq xuntil).1.2.1, .slice a43_0 ((rnS xq xuntil).1.2.2.1).length c43_0, .slice a43_2 ((rnS xq xuntil).1.2.2.2.1).length c43_2, .slice a43_4 ((rnS xq xuntil).1.2.2.2.2).length c43_4]) (Yields.loadAgg 1 5 #[.int .i64 (rnS xq xuntil).1.1, .int .i64 (rnS xq xuntil).1.2.1, .slice a43_0 ((rnS xq xuntil).1.2.2.1).length c43_0, .slice a43_2 ((rnS xq xuntil).1.2.2.2.1).length c43_2, .slice a43_4 ((rnS xq xuntil).1.2.2.2.2).length c43_4] rfl rfl Try.underlying37 rfl (by kernel_rfl) (by kernel_rfl) (by kernel_rfl)) rfl rfl ?_))))
      obtain ⟨hp46, hF⟩ := hF
      refine Ok.op rfl (OpOk.callG (v := .bool (rslV0 ((lneS xq xuntil).1.1, (lneS xq xuntil).1.2.1, (lneS xq xuntil).1.2.2.1, (lneS xq xuntil).1.2.2.2.1, (lneS xq xuntil).1.2.2.2.2) ((rnS xq xuntil).1.1, (rnS xq xuntil).1.2.1, (rnS xq xuntil).1.2.2.1, (rnS xq xuntil).1.2.2.2.1, (rnS xq xuntil).1.2.2.2.2))) enr (fun W hW => rsl_c ((lneS xq xuntil).1.1, (lneS xq xuntil).1.2.1, (lneS xq xuntil).1.2.2.1, (lneS xq xuntil).1.2.2.2.1, (lneS xq xuntil).1.2.2.2.2) ((rnS xq xuntil).1.1, (rnS xq xuntil).1.2.1, (rnS xq xuntil).1.2.2.1, (rnS xq xuntil).1.2.2.2.1, (rnS xq xuntil).1.2.2.2.2) (hR7_0.mono hW.sees) (hR7_2.mono hW.sees) (hR7_4.mono hW.sees) (hR43_0.mono hW.sees) (hR43_2.mono hW.sees) (hR43_4.mono hW.sees) hp46) rfl ?_)
      refine Ok.bat 1 [11, 12, 13, 19, 20] [(127, .bool (rslV0 ((lneS xq xuntil).1.1, (lneS xq xuntil).1.2.1, (lneS xq xuntil).1.2.2.1, (lneS xq xuntil).1.2.2.2.1, (lneS xq xuntil).1.2.2.2.2) ((rnS xq xuntil).1.1, (rnS xq xuntil).1.2.1, (rnS xq xuntil).1.2.2.1, (rnS xq xuntil).1.2.2.2.1, (rnS xq xuntil).1.2.2.2.2)))] ?_
      refine Ok.boolAt 127 ((rslV0 ((lneS xq xuntil).1.1, (lneS xq xuntil).1.2.1, (lneS xq xuntil).1.2.2.1, (lneS xq xuntil).1.2.2.2.1, (lneS xq xuntil).1.2.2.2.2) ((rnS xq xuntil).1.1, (rnS xq xuntil).1.2.1, (rnS xq xuntil).1.2.2.1, (rnS xq xuntil).1.2.2.2.1, (rnS xq xuntil).1.2.2.2.2))) rfl (fun hc47 => ?_) (fun hc47 => ?_)
      ·replace hF := hF.1 hc47
       refine Ok.opYes (j := 3) (d := 127) (want := true) (b := true) rfl (by kernel_rfl) (by kernel_rfl) rfl (OpOk.step (v := .agg #[.int .i64 (lneS xq xuntil).2.1.1, .int .i64 (lneS xq xuntil).2.1.2.1, .bool (lneS xq xuntil).2.1.2.2.1, sv ((lneS xq xuntil).2.1.2.2.2.1), .int .i64 (lneS xq xuntil).2.1.2.2.2.2.1, .int .i64 (lneS xq xuntil).2.1.2.2.2.2.2.1, sv ((lneS xq xuntil).2.1.2.2.2.2.2.2)]) (Yields.loadAgg 3 7 #[.int .i64 (lneS xq xuntil).2.1.1, .int .i64 (lneS xq xuntil).2.1.2.1, .bool (lneS xq xuntil).2.1.2.2.1, sv ((lneS xq xuntil).2.1.2.2.2.1), .int .i64 (lneS xq xuntil).2.1.2.2.2.2.1, .int .i64 (lneS xq xuntil).2.1.2.2.2.2.2.1, sv ((lneS xq xuntil).2.1.2.2.2.2.2.2)] rfl rfl Try.underlying43 rfl (by kernel_rfl) (by kernel_rfl) (by kernel_rfl)) rfl rfl (Ok.opYes (j := 3) (d := 127) (want := true) (b := true) rfl (by kernel_rfl) (by kernel_rfl) rfl (OpOk.step (v := .agg #[.int .i64 (rnS xq xuntil).2.1.1, .int .i64 (rnS xq xuntil).2.1.2.1, .bool (rnS xq xuntil).2.1.2.2.1, sv ((rnS xq xuntil).2.1.2.2.2.1), .int .i64 (rnS xq xuntil).2.1.2.2.2.2.1, .int .i64 (rnS xq xuntil).2.1.2.2.2.2.2.1, sv ((rnS xq xuntil).2.1.2.2.2.2.2.2)]) (Yields.loadAgg 0 7 #[.int .i64 (rnS xq xuntil).2.1.1, .int .i64 (rnS xq xuntil).2.1.2.1, .bool (rnS xq xuntil).2.1.2.2.1, sv ((rnS xq xuntil).2.1.2.2.2.1), .int .i64 (rnS xq xuntil).2.1.2.2.2.2.1, .int .i64 (rnS xq xuntil).2.1.2.2.2.2.2.1, sv ((rnS xq xuntil).2.1.2.2.2.2.2.2)] rfl rfl Try.underlying43 rfl (by kernel_rfl) (by kernel_rfl) (by kernel_rfl)) rfl rfl (Ok.opYes (j := 3) (d := 127) (want := true) (b := true) rfl (by kernel_rfl) (by kernel_rfl) rfl (OpOk.step (v := .bool ([((lneS xq xuntil).2.1.1 == (rnS xq xuntil).2.1.1), ((lneS xq xuntil).2.1.2.1 == (rnS xq xuntil).2.1.2.1), ((lneS xq xuntil).2.1.2.2.1 == (rnS xq xuntil).2.1.2.2.1), ((lneS xq xuntil).2.1.2.2.2.1 == (rnS xq xuntil).2.1.2.2.2.1), ([((lneS xq xuntil).2.1.2.2.2.2.1 == (rnS xq xuntil).2.1.2.2.2.2.1), ((lneS xq xuntil).2.1.2.2.2.2.2.1 == (rnS xq xuntil).2.1.2.2.2.2.2.1), ((lneS xq xuntil).2.1.2.2.2.2.2.2 == (rnS xq xuntil).2.1.2.2.2.2.2.2)].all id)].all id)) (Yields.eqAgg (k := 3) rfl rfl (.struct (k := 2) Try.underlying43 (by kernel_rfl) ⟨by decide, ⟨.int .i64 (lneS xq xuntil).2.1.1, .int .i64 (rnS xq xuntil).2.1.1, fun _ => by kernel_rfl, fun _ => by kernel_rfl, EqR.mono (k := 1) (.int Try.underlying3) (by decide)⟩, ⟨by decide, ⟨.int .i64 (lneS xq xuntil).2.1.2.1, .int .i64 (rnS xq xuntil).2.1.2.1, fun _ => by kernel_rfl, fun _ => by kernel_rfl, EqR.mono (k := 1) (.int Try.underlying3) (by decide)⟩, ⟨by decide, ⟨.bool (lneS xq xuntil).2.1.2.2.1, .bool (rnS xq xuntil).2.1.2.2.1, fun _ => by kernel_rfl, fun _ => by kernel_rfl, EqR.mono (k := 1) (.bool Try.underlying4) (by decide)⟩, ⟨by decide, ⟨sv ((lneS xq xuntil).2.1.2.2.2.1), sv ((rnS xq xuntil).2.1.2.2.2.1), fun _ => by kernel_rfl, fun _ => by kernel_rfl, EqR.mono (k := 1) (.str Try.underlying9) (by decide)⟩, ⟨by decide, ⟨.agg #[.int .i64 (lneS xq xuntil).2.1.2.2.2.2.1, .int .i64 (lneS xq xuntil).2.1.2.2.2.2.2.1, sv ((lneS xq xuntil).2.1.2.2.2.2.2.2)], .agg #[.int .i64 (rnS xq xuntil).2.1.2.2.2.2.1, .int .i64 (rnS xq xuntil).2.1.2.2.2.2.2.1, sv ((rnS xq xuntil).2.1.2.2.2.2.2.2)], fun _ => by kernel_rfl, fun _ => by kernel_rfl, EqR.mono (k := 2) (.struct (k := 1) Try.underlying24 (by kernel_rfl) ⟨by decide, ⟨.int .i64 (lneS xq xuntil).2.1.2.2.2.2.1, .int .i64 (rnS xq xuntil).2.1.2.2.2.2.1, fun _ => by kernel_rfl, fun _ => by kernel_rfl, EqR.mono (k := 1) (.int Try.underlying3) (by decide)⟩, ⟨by decide, ⟨.int .i64 (lneS xq xuntil).2.1.2.2.2.2.2.1, .int .i64 (rnS xq xuntil).2.1.2.2.2.2.2.1, fun _ => by kernel_rfl, fun _ => by kernel_rfl, EqR.mono (k := 1) (.int Try.underlying3) (by decide)⟩, ⟨by decide, ⟨sv ((lneS xq xuntil).2.1.2.2.2.2.2.2), sv ((rnS xq xuntil).2.1.2.2.2.2.2.2), fun _ => by kernel_rfl, fun _ => by kernel_rfl, EqR.mono (k := 1) (.str Try.underlying9) (by decide)⟩, trivial⟩⟩⟩) (by decide)⟩, trivial⟩⟩⟩⟩⟩) rfl (by kernel_rfl)) rfl rfl ?_)))))
       refine Ok.bat 2 [12, 13, 20] [(132, .bool ([((lneS xq xuntil).2.1.1 == (rnS xq xuntil).2.1.1), ((lneS xq xuntil).2.1.2.1 == (rnS xq xuntil).2.1.2.1), ((lneS xq xuntil).2.1.2.2.1 == (rnS xq xuntil).2.1.2.2.1), ((lneS xq xuntil).2.1.2.2.2.1 == (rnS xq xuntil).2.1.2.2.2.1), ([((lneS xq xuntil).2.1.2.2.2.2.1 == (rnS xq xuntil).2.1.2.2.2.2.1), ((lneS xq xuntil).2.1.2.2.2.2.2.1 == (rnS xq xuntil).2.1.2.2.2.2.2.1), ((lneS xq xuntil).2.1.2.2.2.2.2.2 == (rnS xq xuntil).2.1.2.2.2.2.2.2)].all id)].all id))] ?_
       refine Ok.midway 4 [(13, .int .i64 (lneS xq xuntil).2.2.2), (136, .bool (([((lneS xq xuntil).2.1.1 == (rnS xq xuntil).2.1.1), ((lneS xq xuntil).2.1.2.1 == (rnS xq xuntil).2.1.2.1), ((lneS xq xuntil).2.1.2.2.1 == (rnS xq xuntil).2.1.2.2.1), ((lneS xq xuntil).2.1.2.2.2.1 == (rnS xq xuntil).2.1.2.2.2.1), ([((lneS xq xuntil).2.1.2.2.2.2.1 == (rnS xq xuntil).2.1.2.2.2.2.1), ((lneS xq xuntil).2.1.2.2.2.2.2.1 == (rnS xq xuntil).2.1.2.2.2.2.2.1), ((lneS xq xuntil).2.1.2.2.2.2.2.2 == (rnS xq xuntil).2.1.2.2.2.2.2.2)].all id)].all id) && ((lneS xq xuntil).2.2.1 == (rnS xq xuntil).2.2)))] (fun hR48 => ?_) ?_
       ·refine Ok.boolAt 132 (([((lneS xq xuntil).2.1.1 == (rnS xq xuntil).2.1.1), ((lneS xq xuntil).2.1.2.1 == (rnS xq xuntil).2.1.2.1), ((lneS xq xuntil).2.1.2.2.1 == (rnS xq xuntil).2.1.2.2.1), ((lneS xq xuntil).2.1.2.2.2.1 == (rnS xq xuntil).2.1.2.2.2.1), ([((lneS xq xuntil).2.1.2.2.2.2.1 == (rnS xq xuntil).2.1.2.2.2.2.1), ((lneS xq xuntil).2.1.2.2.2.2.2.1 == (rnS xq xuntil).2.1.2.2.2.2.2.1), ((lneS xq xuntil).2.1.2.2.2.2.2.2 == (rnS xq xuntil).2.1.2.2.2.2.2.2)].all id)].all id)) rfl (fun hc49 => ?_) (fun hc49 => ?_)
        ·skip
         refine Ok.bat 4 [13] [(136, .bool ((lneS xq xuntil).2.2.1 == (rnS xq xuntil).2.2))] ?_
         refine Ok.reval 136 rfl (show (.bool ((lneS xq xuntil).2.2.1 == (rnS xq xuntil).2.2) : Value) = .bool (([((lneS xq xuntil).2.1.1 == (rnS xq xuntil).2.1.1), ((lneS xq xuntil).2.1.2.1 == (rnS xq xuntil).2.1.2.1), ((lneS xq xuntil).2.1.2.2.1 == (rnS xq xuntil).2.1.2.2.1), ((lneS xq xuntil).2.1.2.2.2.1 == (rnS xq xuntil).2.1.2.2.2.1), ([((lneS xq xuntil).2.1.2.2.2.2.1 == (rnS xq xuntil).2.1.2.2.2.2.1), ((lneS xq xuntil).2.1.2.2.2.2.2.1 == (rnS xq xuntil).2.1.2.2.2.2.2.1), ((lneS xq xuntil).2.1.2.2.2.2.2.2 == (rnS xq xuntil).2.1.2.2.2.2.2.2)].all id)].all id) && ((lneS xq xuntil).2.2.1 == (rnS xq xuntil).2.2)) from congrArg Value.bool (mand_t hc49)) (Ok.bat 0 [13] [(136, .bool (([((lneS xq xuntil).2.1.1 == (rnS xq xuntil).2.1.1), ((lneS xq xuntil).2.1.2.1 == (rnS xq xuntil).2.1.2.1), ((lneS xq xuntil).2.1.2.2.1 == (rnS xq xuntil).2.1.2.2.1), ((lneS xq xuntil).2.1.2.2.2.1 == (rnS xq xuntil).2.1.2.2.2.1), ([((lneS xq xuntil).2.1.2.2.2.2.1 == (rnS xq xuntil).2.1.2.2.2.2.1), ((lneS xq xuntil).2.1.2.2.2.2.2.1 == (rnS xq xuntil).2.1.2.2.2.2.2.1), ((lneS xq xuntil).2.1.2.2.2.2.2.2 == (rnS xq xuntil).2.1.2.2.2.2.2.2)].all id)].all id) && ((lneS xq xuntil).2.2.1 == (rnS xq xuntil).2.2)))] ?_)
         exact hR48
        ·skip
         refine Ok.bat 4 [13] [(136, .bool false)] ?_
         refine Ok.reval 136 rfl (show (.bool false : Value) = .bool (([((lneS xq xuntil).2.1.1 == (rnS xq xuntil).2.1.1), ((lneS xq xuntil).2.1.2.1 == (rnS xq xuntil).2.1.2.1), ((lneS xq xuntil).2.1.2.2.1 == (rnS xq xuntil).2.1.2.2.1), ((lneS xq xuntil).2.1.2.2.2.1 == (rnS xq xuntil).2.1.2.2.2.1), ([((lneS xq xuntil).2.1.2.2.2.2.1 == (rnS xq xuntil).2.1.2.2.2.2.1), ((lneS xq xuntil).2.1.2.2.2.2.2.1 == (rnS xq xuntil).2.1.2.2.2.2.2.1), ((lneS xq xuntil).2.1.2.2.2.2.2.2 == (rnS xq xuntil).2.1.2.2.2.2.2.2)].all id)].all id) && ((lneS xq xuntil).2.2.1 == (rnS xq xuntil).2.2)) from congrArg Value.bool (mand_f hc49)) (Ok.bat 0 [13] [(136, .bool (([((lneS xq xuntil).2.1.1 == (rnS xq xuntil).2.1.1), ((lneS xq xuntil).2.1.2.1 == (rnS xq xuntil).2.1.2.1), ((lneS xq xuntil).2.1.2.2.1 == (rnS xq xuntil).2.1.2.2.1), ((lneS xq xuntil).2.1.2.2.2.1 == (rnS xq xuntil).2.1.2.2.2.1), ([((lneS xq xuntil).2.1.2.2.2.2.1 == (rnS xq xuntil).2.1.2.2.2.2.1), ((lneS xq xuntil).2.1.2.2.2.2.2.1 == (rnS xq xuntil).2.1.2.2.2.2.2.1), ((lneS xq xuntil).2.1.2.2.2.2.2.2 == (rnS xq xuntil).2.1.2.2.2.2.2.2)].all id)].all id) && ((lneS xq xuntil).2.2.1 == (rnS xq xuntil).2.2)))] ?_)
         exact hR48
       refine Ok.bat 1 [13] [(137, .bool (([((lneS xq xuntil).2.1.1 == (rnS xq xuntil).2.1.1), ((lneS xq xuntil).2.1.2.1 == (rnS xq xuntil).2.1.2.1), ((lneS xq xuntil).2.1.2.2.1 == (rnS xq xuntil).2.1.2.2.1), ((lneS xq xuntil).2.1.2.2.2.1 == (rnS xq xuntil).2.1.2.2.2.1), ([((lneS xq xuntil).2.1.2.2.2.2.1 == (rnS xq xuntil).2.1.2.2.2.2.1), ((lneS xq xuntil).2.1.2.2.2.2.2.1 == (rnS xq xuntil).2.1.2.2.2.2.2.1), ((lneS xq xuntil).2.1.2.2.2.2.2.2 == (rnS xq xuntil).2.1.2.2.2.2.2.2)].all id)].all id) && ((lneS xq xuntil).2.2.1 == (rnS xq xuntil).2.2)))] ?_
       refine Ok.midway 3 [(140, .bool ((([((lneS xq xuntil).2.1.1 == (rnS xq xuntil).2.1.1), ((lneS xq xuntil).2.1.2.1 == (rnS xq xuntil).2.1.2.1), ((lneS xq xuntil).2.1.2.2.1 == (rnS xq xuntil).2.1.2.2.1), ((lneS xq xuntil).2.1.2.2.2.1 == (rnS xq xuntil).2.1.2.2.2.1), ([((lneS xq xuntil).2.1.2.2.2.2.1 == (rnS xq xuntil).2.1.2.2.2.2.1), ((lneS xq xuntil).2.1.2.2.2.2.2.1 == (rnS xq xuntil).2.1.2.2.2.2.2.1), ((lneS xq xuntil).2.1.2.2.2.2.2.2 == (rnS xq xuntil).2.1.2.2.2.2.2.2)].all id)].all id) && ((lneS xq xuntil).2.2.1 == (rnS xq xuntil).2.2)) && ((lneS xq xuntil).2.2.2 == 0)))] (fun hR50 => ?_) ?_
       ·refine Ok.boolAt 137 ((([((lneS xq xuntil).2.1.1 == (rnS xq xuntil).2.1.1), ((lneS xq xuntil).2.1.2.1 == (rnS xq xuntil).2.1.2.1), ((lneS xq xuntil).2.1.2.2.1 == (rnS xq xuntil).2.1.2.2.1), ((lneS xq xuntil).2.1.2.2.2.1 == (rnS xq xuntil).2.1.2.2.2.1), ([((lneS xq xuntil).2.1.2.2.2.2.1 == (rnS xq xuntil).2.1.2.2.2.2.1), ((lneS xq xuntil).2.1.2.2.2.2.2.1 == (rnS xq xuntil).2.1.2.2.2.2.2.1), ((lneS xq xuntil).2.1.2.2.2.2.2.2 == (rnS xq xuntil).2.1.2.2.2.2.2.2)].all id)].all id) && ((lneS xq xuntil).2.2.1 == (rnS xq xuntil).2.2))) rfl (fun hc51 => ?_) (fun hc51 => ?_)
        ·skip
         refine Ok.batch 3 [(140, .bool ((lneS xq xuntil).2.2.2 == 0))] (by kernel_rfl) (Ok.reval 140 rfl (show (.bool ((lneS xq xuntil).2.2.2 == 0) : Value) = .bool ((([((lneS xq xuntil).2.1.1 == (rnS xq xuntil).2.1.1), ((lneS xq xuntil).2.1.2.1 == (rnS xq xuntil).2.1.2.1), ((lneS xq xuntil).2.1.2.2.1 == (rnS xq xuntil).2.1.2.2.1), ((lneS xq xuntil).2.1.2.2.2.1 == (rnS xq xuntil).2.1.2.2.2.1), ([((lneS xq xuntil).2.1.2.2.2.2.1 == (rnS xq xuntil).2.1.2.2.2.2.1), ((lneS xq xuntil).2.1.2.2.2.2.2.1 == (rnS xq xuntil).2.1.2.2.2.2.2.1), ((lneS xq xuntil).2.1.2.2.2.2.2.2 == (rnS xq xuntil).2.1.2.2.2.2.2.2)].all id)].all id) && ((lneS xq xuntil).2.2.1 == (rnS xq xuntil).2.2)) && ((lneS xq xuntil).2.2.2 == 0)) from congrArg Value.bool (mand_t hc51)) (Ok.batch 0 [(140, .bool ((([((lneS xq xuntil).2.1.1 == (rnS xq xuntil).2.1.1), ((lneS xq xuntil).2.1.2.1 == (rnS xq xuntil).2.1.2.1), ((lneS xq xuntil).2.1.2.2.1 == (rnS xq xuntil).2.1.2.2.1), ((lneS xq xuntil).2.1.2.2.2.1 == (rnS xq xuntil).2.1.2.2.2.1), ([((lneS xq xuntil).2.1.2.2.2.2.1 == (rnS xq xuntil).2.1.2.2.2.2.1), ((lneS xq xuntil).2.1.2.2.2.2.2.1 == (rnS xq xuntil).2.1.2.2.2.2.2.1), ((lneS xq xuntil).2.1.2.2.2.2.2.2 == (rnS xq xuntil).2.1.2.2.2.2.2.2)].all id)].all id) && ((lneS xq xuntil).2.2.1 == (rnS xq xuntil).2.2)) && ((lneS xq xuntil).2.2.2 == 0)))] (by kernel_rfl) ?_))
         exact hR50
        ·skip
         refine Ok.batch 3 [(140, .bool false)] (by kernel_rfl) (Ok.reval 140 rfl (show (.bool false : Value) = .bool ((([((lneS xq xuntil).2.1.1 == (rnS xq xuntil).2.1.1), ((lneS xq xuntil).2.1.2.1 == (rnS xq xuntil).2.1.2.1), ((lneS xq xuntil).2.1.2.2.1 == (rnS xq xuntil).2.1.2.2.1), ((lneS xq xuntil).2.1.2.2.2.1 == (rnS xq xuntil).2.1.2.2.2.1), ([((lneS xq xuntil).2.1.2.2.2.2.1 == (rnS xq xuntil).2.1.2.2.2.2.1), ((lneS xq xuntil).2.1.2.2.2.2.2.1 == (rnS xq xuntil).2.1.2.2.2.2.2.1), ((lneS xq xuntil).2.1.2.2.2.2.2.2 == (rnS xq xuntil).2.1.2.2.2.2.2.2)].all id)].all id) && ((lneS xq xuntil).2.2.1 == (rnS xq xuntil).2.2)) && ((lneS xq xuntil).2.2.2 == 0)) from congrArg Value.bool (mand_f hc51)) (Ok.batch 0 [(140, .bool ((([((lneS xq xuntil).2.1.1 == (rnS xq xuntil).2.1.1), ((lneS xq xuntil).2.1.2.1 == (rnS xq xuntil).2.1.2.1), ((lneS xq xuntil).2.1.2.2.1 == (rnS xq xuntil).2.1.2.2.1), ((lneS xq xuntil).2.1.2.2.2.1 == (rnS xq xuntil).2.1.2.2.2.1), ([((lneS xq xuntil).2.1.2.2.2.2.1 == (rnS xq xuntil).2.1.2.2.2.2.1), ((lneS xq xuntil).2.1.2.2.2.2.2.1 == (rnS xq xuntil).2.1.2.2.2.2.2.1), ((lneS xq xuntil).2.1.2.2.2.2.2.2 == (rnS xq xuntil).2.1.2.2.2.2.2.2)].all id)].all id) && ((lneS xq xuntil).2.2.1 == (rnS xq xuntil).2.2)) && ((lneS xq xuntil).2.2.2 == 0)))] (by kernel_rfl) ?_))
         exact hR50
       refine Ok.batch 1 [(6, .bool ((([((lneS xq xuntil).2.1.1 == (rnS xq xuntil).2.1.1), ((lneS xq xuntil).2.1.2.1 == (rnS xq xuntil).2.1.2.1), ((lneS xq xuntil).2.1.2.2.1 == (rnS xq xuntil).2.1.2.2.1), ((lneS xq xuntil).2.1.2.2.2.1 == (rnS xq xuntil).2.1.2.2.2.1), ([((lneS xq xuntil).2.1.2.2.2.2.1 == (rnS xq xuntil).2.1.2.2.2.2.1), ((lneS xq xuntil).2.1.2.2.2.2.2.1 == (rnS xq xuntil).2.1.2.2.2.2.2.1), ((lneS xq xuntil).2.1.2.2.2.2.2.2 == (rnS xq xuntil).2.1.2.2.2.2.2.2)].all id)].all id) && ((lneS xq xuntil).2.2.1 == (rnS xq xuntil).2.2)) && ((lneS xq xuntil).2.2.2 == 0)))] (by kernel_rfl) (Ok.nil (Ok.thenN (Ok.reval 6 rfl (show (.bool ((([((lneS xq xuntil).2.1.1 == (rnS xq xuntil).2.1.1), ((lneS xq xuntil).2.1.2.1 == (rnS xq xuntil).2.1.2.1), ((lneS xq xuntil).2.1.2.2.1 == (rnS xq xuntil).2.1.2.2.1), ((lneS xq xuntil).2.1.2.2.2.1 == (rnS xq xuntil).2.1.2.2.2.1), ([((lneS xq xuntil).2.1.2.2.2.2.1 == (rnS xq xuntil).2.1.2.2.2.2.1), ((lneS xq xuntil).2.1.2.2.2.2.2.1 == (rnS xq xuntil).2.1.2.2.2.2.2.1), ((lneS xq xuntil).2.1.2.2.2.2.2.2 == (rnS xq xuntil).2.1.2.2.2.2.2.2)].all id)].all id) && ((lneS xq xuntil).2.2.1 == (rnS xq xuntil).2.2)) && ((lneS xq xuntil).2.2.2 == 0)) : Value) = .bool (llsV2 xq xuntil) from congrArg (Value.bool) (mand_t hc47)) ?_)))
       exact fun a W hA hW => ⟨g43, (Gext.refl w0 g43), hA.sub (by kernel_rfl), hW.sub (.cons _ (.cons _ (.cons _ (.cons _ (.cons _ (.cons _ (.cons _ (.cons _ .slnil)))))))), hF⟩
      ·replace hF := hF.2 hc47
       refine Ok.batch 14 [(6, .bool false)] (by kernel_rfl) (Ok.nil (Ok.thenN (Ok.reval 6 rfl (show (.bool false : Value) = .bool (llsV2 xq xuntil) from congrArg (Value.bool) (mand_f hc47)) ?_)))
       exact fun a W hA hW => ⟨g43, (Gext.refl w0 g43), hA.sub (by kernel_rfl), hW.sub (.cons _ (.cons _ (.cons _ (.cons _ (.cons _ (.cons _ (.cons _ (.cons _ .slnil)))))))), hF⟩
     ·
      clear hF
      rintro a W ⟨gj45, hxj45, hA, hW, hF⟩
      refine (?_ : Ok _ _ _ _ _ _) a W hA hW
      clear hA hW
      refine Ok.ret ?_
      exact Ok.resH (vs := [.bool (llsV2 xq xuntil)]) (.inl rfl) rfl (.cons (.tmp rfl) .nil) ((((hx4.trans hx7).trans hx27).trans hx43).trans hxj45) ⟨(llsV2 xq xuntil), rfl, rfl, hF⟩
theorem sam_eta (a : JL) : rslV0 (a.1, a.2.1, a.2.2.1, a.2.2.2.1, a.2.2.2.2) (a.1, a.2.1, a.2.2.1, a.2.2.2.1, a.2.2.2.2) = true := by
 unfold rslV0 jeqS teqS; simp
theorem sam_zero (a : JL) (h : a = zeroL) : rslV0 (a.1, a.2.1, a.2.2.1, a.2.2.2.1, a.2.2.2.2) (0, 0, [], [], []) = true := by
 rw [h]; exact sam_eta zeroL
theorem lla_len : ∀ (l : List JT) (t : JT), (llaS l t).length = l.length + 1
 | [], t => rfl
 | s :: l, t => by
  rw [llaS]
  by_cases h : aft s t = true
  ·rw [if_pos h]; rfl
  ·rw [if_neg h, List.length_cons, lla_len l t, List.length_cons]
theorem len_zero : lenOk zeroL := ⟨Nat.zero_le _, Nat.zero_le _, Nat.zero_le _⟩
theorem ra_len (q : JL) (a : JK) (hs : q.2.2.1.length ≤ 100 ∧ q.2.2.2.1.length ≤ 100 ∧ q.2.2.2.2.length ≤ 100) : lenOk (raS q a).1 := by
 have hf := List.length_filter_le (fun t : JT => t.1 != a.2.2.1) q.2.2.2.2
 have ok : ∀ {c n : Int} {x : List JJ} {y : List JJ} {z : List JT}, x.length ≤ 101 → y.length ≤ 101 → z.length ≤ 101 → lenOk (c, n, x, y, z) := fun hx hy hz => ⟨Nat.le_trans hx (by omega), Nat.le_trans hy (by omega), Nat.le_trans hz (by omega)⟩
 have htm : ∀ low every, lenOk (tmR q a low every).1 := fun low every => by
  unfold tmR
  by_cases h1 : tmB q a low = true
  ·rw [if_pos h1]; exact len_zero
  ·rw [if_neg h1]
   by_cases h2 : fullB q.2.2.2.2.length q = true
   ·rw [if_pos h2]; exact len_zero
   ·rw [if_neg h2]; exact ok (by omega) (by omega) (by rw [lla_len]; omega)
 unfold raS
 by_cases d1 : (a.1 == 1) = true
 ·rw [if_pos d1]
  by_cases h1 : (!(lwiM a.2.1 1 4)) = true
  ·rw [if_pos h1]; exact len_zero
  ·rw [if_neg h1]
   by_cases h2 : fullB q.2.2.1.length q = true
   ·rw [if_pos h2]; exact len_zero
   ·rw [if_neg h2]; exact ok (by rw [List.length_append, List.length_singleton]; omega) (by omega) (by omega)
 ·rw [if_neg d1]
  by_cases d2 : (a.1 == 2) = true
  ·rw [if_pos d2]
   by_cases h2 : fullB q.2.2.2.1.length q = true
   ·rw [if_pos h2]; exact len_zero
   ·rw [if_neg h2]; exact ok (by omega) (by rw [List.length_append, List.length_singleton]; omega) (by omega)
  ·rw [if_neg d2]
   by_cases d3 : (a.1 == 3) = true
   ·rw [if_pos d3]; exact htm _ _
   ·rw [if_neg d3]
    by_cases d4 : (a.1 == 4) = true
    ·rw [if_pos d4]; exact htm _ _
    ·rw [if_neg d4]
     by_cases d5 : (a.1 == 5) = true
     ·rw [if_pos d5]
      by_cases h2 : (q.2.2.2.2.filter (fun t => t.1 != a.2.2.1)).length = q.2.2.2.2.length
      ·rw [if_pos h2]; exact len_zero
      ·rw [if_neg h2]; exact ok (by omega) (by omega) (by omega)
     ·rw [if_neg d5]; exact len_zero
theorem rn_len (q : JL) (u : Int) (hs : q.2.2.1.length ≤ 100 ∧ q.2.2.2.1.length ≤ 100 ∧ q.2.2.2.2.length ≤ 100) : lenOk (rnS q u).1 := by
 have ok : ∀ {c n : Int} {x : List JJ} {y : List JJ} {z : List JT}, x.length ≤ 101 → y.length ≤ 101 → z.length ≤ 101 → lenOk (c, n, x, y, z) := fun hx hy hz => ⟨Nat.le_trans hx (by omega), Nat.le_trans hy (by omega), Nat.le_trans hz (by omega)⟩
 unfold rnS
 by_cases c1 : decide ((q.2.2.2.1.length : Int) > 0) = true
 ·rw [if_pos c1]; exact ok (by omega) (by rw [List.length_drop]; omega) (by omega)
 ·rw [if_neg c1]
  by_cases c2 : dueB q u = true
  ·rw [if_pos c2]
   unfold fireR
   refine ok (by omega) (by omega) ?_
   by_cases h : agB (q.2.2.2.2.getD 0 default) = true
   ·rw [if_pos h, lla_len, List.length_drop]; omega
   ·rw [if_neg h, List.length_drop]; omega
  ·rw [if_neg c2]
   by_cases c3 : decide ((q.2.2.1.length : Int) > 0) = true
   ·rw [if_pos c3]; exact ok (by rw [List.length_drop]; omega) (by omega) (by omega)
   ·rw [if_neg c3]; exact ok (by omega) (by omega) (by omega)
def llsP (q : JL) (a : JK) (u : Int) : Prop := DomS (.pair (.int .i64) (.pair (.int .i64) (.pair (.slice (.pair (.int .i64) (.pair (.int .i64) (.pair (.bool) (.pair (.str) (.pair (.int .i64) (.pair (.int .i64) (.str)))))))) (.pair (.slice (.pair (.int .i64) (.pair (.int .i64) (.pair (.bool) (.pair (.str) (.pair (.int .i64) (.pair (.int .i64) (.str)))))))) (.slice (.pair (.int .i64) (.pair (.int .i64) (.pair (.int .i64) (.pair (.int .i64) (.str)))))))))) q ∧ DomS (.pair (.int .i64) (.pair (.int .i64) (.pair (.int .i64) (.pair (.str) (.pair (.int .i64) (.pair (.int .i64) (.str))))))) a ∧ (Lit.int .i64 u).wf = true
theorem lls_F (q : JL) (a : JK) (u : Int) (hp0 : llsP q a u) : llsF q a u (fun r => r = true) := by
 have hr : reachBytes ≤ 140737488355328 := by unfold reachBytes; omega
 have hp : lchP q := ⟨Nat.le_trans hp0.1.2.2.2.1.1 hr, Nat.le_trans hp0.1.2.2.2.2.1.1 hr, Nat.le_trans hp0.1.2.2.2.2.2.1 hr⟩
 have hpa : -9223372036854775808 ≤ a.2.2.1 ∧ a.2.2.1 ≤ 9223372036854775807 := Dom.i64 hp0.2.1.1.2.2.1
 have hne0 : (lchS q != lchS q) = false := by simp
 refine ⟨⟨hp, hpa⟩, hp, hp, hp, fun h => (by rw [hne0] at h; cases h), fun _ => ⟨fun h => ?_, fun h => ?_⟩⟩
 ·have hla : lasS q a = noL (lchS q) := by unfold lasS; rw [if_t h]
  have hne : lneS q u = (zeroL, zeroJ, false, lchS q) := by unfold lneS; rw [if_t h]
  have j : llsj21 q a u (fun r => r = true) := by
   show llsV0 q a u = true
   unfold llsV0
   rw [hla, hne, sam_zero (noL (lchS q)).1 rfl, sam_zero (zeroL, zeroJ, false, lchS q).1 rfl]
   simp [noL]
  refine ⟨by rw [hla]; exact ⟨len_zero, len_zero⟩, fun _ => ⟨by rw [hne]; exact ⟨len_zero, len_zero⟩, fun _ => j, fun _ => j⟩, fun _ => j⟩
 ·have hz : lchS q = 0 := by simpa using h
  obtain ⟨hb, g⟩ := lch_zero hz
  have hs : q.2.2.1.length ≤ 100 ∧ q.2.2.2.1.length ≤ 100 ∧ q.2.2.2.2.length ≤ 100 := by unfold big at hb; omega
  have hla : lasS q a = raS q a := by unfold lasS; rw [if_f h]
  have hl1 := ra_len q a hs
  have hl2 := rn_len q u hs
  refine ⟨⟨hz, hpa⟩, by rw [hla]; exact ⟨hl1, hl1⟩, fun hh => ?_, fun _ => ⟨fun h2 => ?_, fun h2 => ?_⟩⟩
  ·rw [hla, sam_eta] at hh
   simp at hh
  ·have hne : lneS q u = (zeroL, zeroJ, false, 1) := by
    unfold lneS; rw [if_f h, if_t (show (!(lwiM u q.1 1000000000)) = true from h2)]
   have j : llsj39 q u (fun r => r = true) := by
    show llsV1 q u = true
    unfold llsV1
    rw [hne, sam_zero (zeroL, zeroJ, false, (1 : Int)).1 rfl]
    simp
   exact ⟨by rw [hne]; exact ⟨len_zero, len_zero⟩, fun _ => j, fun _ => j⟩
  ·have hne : lneS q u = ((rnS q u).1, (rnS q u).2.1, (rnS q u).2.2, 0) := by
    unfold lneS; rw [if_f h, if_f (show (!(lwiM u q.1 1000000000)) = false from h2)]
   have j : llsj45 q u (fun r => r = true) := by
    show llsV2 q u = true
    unfold llsV2
    rw [hne, sam_eta]
    simp
   exact ⟨hz, by rw [hne]; exact ⟨hl2, hl2⟩, fun _ => j, fun _ => j⟩
theorem lls_c {g : Ghost} {axq_0 : Option Addr} {cxq_0 : Nat} {axq_1 : Option Addr} {cxq_1 : Nat} {axq_2 : Option Addr} {cxq_2 : Nat} (xq : Int × Int × (List (Int × Int × Bool × Bs × Int × Int × Bs)) × (List (Int × Int × Bool × Bs × Int × Int × Bs)) × List (Int × Int × Int × Int × Bs)) (xa : Int × Int × Int × Bs × Int × Int × Bs) (xuntil : Int) (hRxq_0 : Rep g (.slice (.pair (.int .i64) (.pair (.int .i64) (.pair (.bool) (.pair (.str) (.pair (.int .i64) (.pair (.int .i64) (.str)))))))) [.slice axq_0 xq.2.2.1.length cxq_0] xq.2.2.1) (hRxq_1 : Rep g (.slice (.pair (.int .i64) (.pair (.int .i64) (.pair (.bool) (.pair (.str) (.pair (.int .i64) (.pair (.int .i64) (.str)))))))) [.slice axq_1 xq.2.2.2.1.length cxq_1] xq.2.2.2.1) (hRxq_2 : Rep g (.slice (.pair (.int .i64) (.pair (.int .i64) (.pair (.int .i64) (.pair (.int .i64) (.str)))))) [.slice axq_2 xq.2.2.2.2.length cxq_2] xq.2.2.2.2)  (hp : llsP xq xa xuntil) : CallsG Try.prog 4 #[.agg #[.int .i64 xq.1, .int .i64 xq.2.1, .slice axq_0 xq.2.2.1.length cxq_0, .slice axq_1 xq.2.2.2.1.length cxq_1, .slice axq_2 xq.2.2.2.2.length cxq_2], .agg #[.int .i64 xa.1, .int .i64 xa.2.1, .int .i64 xa.2.2.1, sv xa.2.2.2.1, .int .i64 xa.2.2.2.2.1, .int .i64 xa.2.2.2.2.2.1, sv xa.2.2.2.2.2.2], .int .i64 xuntil] g (.bool ((fun _ _ _ => true) xq xa xuntil)) :=
 (lls_ok xq xa xuntil hRxq_0 hRxq_1 hRxq_2 _ (lls_F xq xa xuntil hp)).gives (by rintro g' H' v _ ⟨r0, rfl, rfl, hK⟩; subst hK; rfl)
end
end Go.Proofs.Ytbifbljdmndjbaa.Lo
