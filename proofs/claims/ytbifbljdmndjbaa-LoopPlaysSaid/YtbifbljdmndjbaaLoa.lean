/- Loops: slices of jobs and timers. -/
import Derived.Test.YtbifbljdmndjbaaFrk
import Derived.Test.YtbifbljdmndjbaaTnl
import Derived.Test.YtbifbljdmndjbaaVex
import Derived.Test.YtbifbljdmndjbaaMor
import Derived.Test.YtbifbljdmndjbaaProg
namespace Go.Proofs.Ytbifbljdmndjbaa.Lo
open Go Go.Eng Go.RowKit
set_option maxHeartbeats 4000000
set_option maxRecDepth 100000
set_option linter.unusedSimpArgs false
set_option linter.unusedVariables false
abbrev JV := Int × Int × Bs
abbrev JT := Int × Int × Int × Int × Bs
abbrev JJ := Int × Int × Bool × Bs × JV
abbrev JK := Int × Int × Int × Bs × JV
abbrev JL := Int × Int × List JJ × List JJ × List JT
def tdlF (xs : List (JT)) (xi : Int) (xj : Int) (K : (List (JT)) → Prop) : Prop :=
 ∀ cxs : Nat, xs.length ≤ cxs → cxs ≤ maxLen → (0 : Int) ≤ xi ∧ (xi : Int) ≤ xj ∧ xj ≤ (xs.length : Int) ∧ (xs.length : Int) ≤ (cxs : Int) ∧ (((xi == xj)) = true → K xs) ∧ (((xi == xj)) = false → (0 : Int) ≤ xi ∧ xi ≤ (cxs : Int) ∧ (0 : Int) ≤ xj ∧ (xj : Int) ≤ (xs.length : Int) ∧ (xs.length : Int) ≤ (cxs : Int) ∧ (Int.toNat xi) ≤ (Int.toNat xj) ∧ (Int.toNat xj) ≤ xs.length ∧ ∀ L5 : List (JT), L5 = xs.take (Int.toNat xi) ++ xs.drop (Int.toNat xj) → (0 : Int) ≤ (L5.length : Int) ∧ ((L5.length : Int) : Int) ≤ (xs.length : Int) ∧ (xs.length : Int) ≤ (cxs : Int) ∧ Int.toNat (L5.length : Int) ≤ Int.toNat (xs.length : Int) ∧ Int.toNat (xs.length : Int) ≤ cxs ∧ K L5)
theorem tdl_ok {g : Ghost} {axs : Option Addr} {cxs : Nat} {xsxs : List Value} (xs : List (JT)) (xi : Int) (xj : Int) (hLxs : RepL g (.pair (.int .i64) (.pair (.int .i64) (.pair (.int .i64) (.pair (.int .i64) (.str))))) xsxs xs) (K : (List (JT)) → Prop)
  (hF : tdlF xs xi xj K) : CallsH Try.prog 74 #[.slice axs xs.length cxs, .int .i64 xi, .int .i64 xj] g [.own (.slice axs xs.length cxs) 93 5 xs.length xsxs] (fun g' H' v => ∃ (r0 : List (JT)), ∃ (ar0 : Option Addr) (cr0 : Nat) (xsr0 : List Value), v = .slice ar0 r0.length cr0 ∧ RepL g' (.pair (.int .i64) (.pair (.int .i64) (.pair (.int .i64) (.pair (.int .i64) (.str))))) xsr0 r0 ∧ H' = [.own (.slice ar0 r0.length cr0) 93 5 r0.length xsr0] ∧ K r0) := by
 refine CallsH.enter 33 [(0, .slice axs xs.length cxs), (1, .int .i64 xi), (2, .int .i64 xj)] Try.func74 rfl (by kernel_rfl) (by kernel_rfl) (by kernel_rfl) fun w0 => ?_
 refine Ok.capOwn 0 rfl fun hcccxs hcmcxs => ?_
 have hF := hF cxs hcccxs hcmcxs
 refine Ok.seq (Ok.region (Ok.batch 1 [(0, .slice axs xs.length cxs), (1, .int .i64 xi), (2, .int .i64 xj)] (by kernel_rfl) (Ok.nil (Ok.thenN (Ok.seq (Ok.region (Ok.bat 5 [0, 1, 2] [(8, .slice axs xs.length cxs), (9, .int .i64 xi), (10, .int .i64 xj), (12, .int .i64 (xs.length : Int))] ?_)))))))
 obtain ⟨h01, h11, h21, h31, hF⟩ := hF
 refine Ok.op rfl (OpOk.step (v := vw axs 5 (Int.toNat (xs.length : Int)) (Int.toNat xi) (Int.toNat xj)) (slice3_run (size := 5) (l := xi) (h := xj) (q := (xs.length : Int)) rfl Try.underlying35 (by kernel_rfl) rfl rfl rfl h01 h11 h21 h31) rfl rfl (Ok.nil (Ok.thenN (Ok.seq (Ok.seq (Ok.region (Ok.bat 3 [0, 1, 2] [(16, .bool (xi == xj))] ?_)))))))
 refine Ok.nil (Ok.thenN (Ok.cond (b := (xi == xj)) rfl (fun hc2 => ?_) (fun hc2 => ?_)))
 ·replace hF := hF.1 hc2
  refine Ok.seq (Ok.region (Ok.batch 2 [(6, .slice axs xs.length cxs)] (by kernel_rfl) (Ok.nil (Ok.thenN (Ok.ret (Ok.thenR ?_))))))
  exact Ok.resH (vs := [.slice axs xs.length cxs]) (.inl rfl) rfl (.cons (.tmp rfl) .nil) (Gext.refl w0 g) ⟨xs, axs, cxs, xsxs, rfl, hLxs, rfl, hF⟩
 ·replace hF := hF.2 hc2
  refine Ok.skip (Ok.thenN (Ok.seq (Ok.region (Ok.bat 3 [0, 1, 2] [(7, .int .i64 (xs.length : Int))] ?_))))
  refine Ok.nil (Ok.thenN (Ok.seq (Ok.mix [] [] [] [(0, true), (1, true), (2, true), (3, true), (4, true), (5, true), (6, false), (7, true)] (by kernel_rfl) (by kernel_rfl) (.cons _ .slnil) (OkM.bat 2 [0, 2, 7] [(20, .slice axs xs.length cxs), (21, .int .i64 xi)] ?_))))
  obtain ⟨h03, h23, hF⟩ := hF
  refine OkM.head rfl rfl (show _ = [] from rfl) (OpQ.step (v := .slice axs (Int.toNat xi) cxs) (slice0_run (h := xi) rfl Try.underlying35 (by kernel_rfl) rfl h03 h23) rfl rfl (OkM.bat 2 [7] [(22, .slice axs (Int.toNat xi) cxs), (23, .slice axs xs.length cxs), (24, .int .i64 xj)] ?_))
  obtain ⟨h04, h14, h24, hF⟩ := hF
  refine OkM.head rfl rfl (show _ = [] from rfl) (OpQ.step (v := vw axs 5 cxs (Int.toNat xj) (Int.toNat (xs.length : Int))) (slice_run (size := 5) (l := xj) (h := (xs.length : Int)) rfl Try.underlying35 (by kernel_rfl) (.inl ⟨_, _, rfl, rfl⟩) (.inr ⟨rfl, rfl⟩) h04 h14 h24) rfl rfl ?_)
  obtain ⟨h05, h15, hF⟩ := hF
  obtain ⟨L5, hdL5⟩ : ∃ y : List (JT), y = xs.take (Int.toNat xi) ++ xs.drop (Int.toNat xj) := ⟨_, rfl⟩
  have hF := hF L5 hdL5
  refine OkM.tail rfl rfl (OpOk.delAppL (e := .pair (.int .i64) (.pair (.int .i64) (.pair (.int .i64) (.pair (.int .i64) (.str))))) (l := xs) (p := (Int.toNat xi)) (q := (Int.toNat xj)) 0 rfl rfl rfl hLxs Try.underlying35 (by kernel_rfl) h05 h15 (Int.toNat_natCast _) hdL5 rfl fun xs5 hL5 => ?_)
  refine OkM.leaf (i := 6) (show _ = [] from rfl) (Gle.refl _) (.cons _ .slnil) (OkM.bat 1 [7] [(0, .slice axs L5.length cxs)] ?_)
  refine OkM.nil (Ok.thenN (Ok.seq (Ok.region (Ok.bat 4 [0] [(27, .slice axs L5.length cxs), (29, .int .i64 (L5.length : Int)), (30, .int .i64 (xs.length : Int))] ?_))))
  obtain ⟨h06, h16, h26, hF⟩ := hF
  refine Ok.op rfl (OpOk.step (v := vw axs 5 cxs (Int.toNat (L5.length : Int)) (Int.toNat (xs.length : Int))) (slice_run (size := 5) (l := (L5.length : Int)) (h := (xs.length : Int)) rfl Try.underlying35 (by kernel_rfl) (.inl ⟨_, _, rfl, rfl⟩) (.inl ⟨_, _, rfl, rfl⟩) h06 h16 h26) rfl rfl ?_)
  obtain ⟨h17, h27, hF⟩ := hF
  refine Ok.op rfl (OpOk.clearSpare (z := .agg #[.int .i64 0, .int .i64 0, .int .i64 0, .int .i64 0, sv ([] : Bs)]) 0 rfl rfl Try.underlying35 (by kernel_rfl) (by decide) (by kernel_rfl) (Nat.le_of_eq (Int.toNat_natCast _).symm) h17 h27 (Ok.nil (Ok.thenN (Ok.seq (Ok.region (Ok.batch 2 [(6, .slice axs L5.length cxs)] (by kernel_rfl) (Ok.nil (Ok.thenN (Ok.ret ?_)))))))))
  exact Ok.resH (vs := [.slice axs L5.length cxs]) (.inl rfl) rfl (.cons (.tmp rfl) .nil) (Gext.refl w0 g) ⟨L5, axs, cxs, xs5, rfl, hL5, rfl, hF⟩
def cutL {α : Type} (l : List α) (i j : Int) : List α := l.take i.toNat ++ l.drop j.toNat
def tdlS (l : List JT) (i j : Int) : List JT := cutL l i j
def tdlP (l : List JT) (i j : Int) : Prop := 0 ≤ i ∧ i ≤ j ∧ j ≤ (l.length : Int) ∧ l.length ≤ 1000000
theorem tdl_F (l : List JT) (i j : Int) (hp : tdlP l i j) : tdlF l i j (fun r => r = tdlS l i j) := by
 obtain ⟨h0, h1, h2, h3⟩ := hp
 intro c hc hm
 refine ⟨h0, h1, h2, by omega, fun h => ?_, fun h => ⟨h0, by omega, by omega, h2, by omega, by omega, by omega, fun L hL => ?_⟩⟩
 ·have := eq_of_beq h
  subst this
  show l = l.take i.toNat ++ l.drop i.toNat
  rw [List.take_append_drop]
 ·have hl : L.length = i.toNat + (l.length - j.toNat) := by rw [hL, List.length_append, List.length_take, List.length_drop]; omega
  exact ⟨by omega, by omega, by omega, by omega, by omega, hL⟩
theorem tdl_c {g : Ghost} {axs : Option Addr} {cxs : Nat} {xsxs : List Value} (xs : List (Int × Int × Int × Int × Bs)) (xi : Int) (xj : Int) (hLxs : RepL g (.pair (.int .i64) (.pair (.int .i64) (.pair (.int .i64) (.pair (.int .i64) (.str))))) xsxs xs)  (hp : tdlP xs xi xj) : CallsH Try.prog 74 #[.slice axs xs.length cxs, .int .i64 xi, .int .i64 xj] g [.own (.slice axs xs.length cxs) 93 5 xs.length xsxs] (fun g' H' v => ∃ (ar0 : Option Addr) (cr0 : Nat) (xsr0 : List Value), v = .slice ar0 (tdlS xs xi xj).length cr0 ∧ RepL g' (.pair (.int .i64) (.pair (.int .i64) (.pair (.int .i64) (.pair (.int .i64) (.str))))) xsr0 (tdlS xs xi xj) ∧ H' = [.own (.slice ar0 (tdlS xs xi xj).length cr0) 93 5 (tdlS xs xi xj).length xsr0]) :=
 (tdl_ok xs xi xj hLxs _ (tdl_F xs xi xj hp)).mono (by rintro g' H' v _ ⟨r0, ar0, cr0, xsr0, rfl, hLr0, rfl, hK⟩; subst hK; exact ⟨ar0, cr0, xsr0, rfl, hLr0, rfl⟩)
def jdlF (xs : List (JJ)) (xi : Int) (xj : Int) (K : (List (JJ)) → Prop) : Prop :=
 ∀ cxs : Nat, xs.length ≤ cxs → cxs ≤ maxLen → (0 : Int) ≤ xi ∧ (xi : Int) ≤ xj ∧ xj ≤ (xs.length : Int) ∧ (xs.length : Int) ≤ (cxs : Int) ∧ (((xi == xj)) = true → K xs) ∧ (((xi == xj)) = false → (0 : Int) ≤ xi ∧ xi ≤ (cxs : Int) ∧ (0 : Int) ≤ xj ∧ (xj : Int) ≤ (xs.length : Int) ∧ (xs.length : Int) ≤ (cxs : Int) ∧ (Int.toNat xi) ≤ (Int.toNat xj) ∧ (Int.toNat xj) ≤ xs.length ∧ ∀ L5 : List (JJ), L5 = xs.take (Int.toNat xi) ++ xs.drop (Int.toNat xj) → (0 : Int) ≤ (L5.length : Int) ∧ ((L5.length : Int) : Int) ≤ (xs.length : Int) ∧ (xs.length : Int) ≤ (cxs : Int) ∧ Int.toNat (L5.length : Int) ≤ Int.toNat (xs.length : Int) ∧ Int.toNat (xs.length : Int) ≤ cxs ∧ K L5)
theorem jdl_ok {g : Ghost} {axs : Option Addr} {cxs : Nat} {xsxs : List Value} (xs : List (JJ)) (xi : Int) (xj : Int) (hLxs : RepL g (.pair (.int .i64) (.pair (.int .i64) (.pair (.bool) (.pair (.str) (.pair (.int .i64) (.pair (.int .i64) (.str))))))) xsxs xs) (K : (List (JJ)) → Prop)
  (hF : jdlF xs xi xj K) : CallsH Try.prog 75 #[.slice axs xs.length cxs, .int .i64 xi, .int .i64 xj] g [.own (.slice axs xs.length cxs) 43 7 xs.length xsxs] (fun g' H' v => ∃ (r0 : List (JJ)), ∃ (ar0 : Option Addr) (cr0 : Nat) (xsr0 : List Value), v = .slice ar0 r0.length cr0 ∧ RepL g' (.pair (.int .i64) (.pair (.int .i64) (.pair (.bool) (.pair (.str) (.pair (.int .i64) (.pair (.int .i64) (.str))))))) xsr0 r0 ∧ H' = [.own (.slice ar0 r0.length cr0) 43 7 r0.length xsr0] ∧ K r0) := by
 refine CallsH.enter 33 [(0, .slice axs xs.length cxs), (1, .int .i64 xi), (2, .int .i64 xj)] Try.func75 rfl (by kernel_rfl) (by kernel_rfl) (by kernel_rfl) fun w0 => ?_
 refine Ok.capOwn 0 rfl fun hcccxs hcmcxs => ?_
 have hF := hF cxs hcccxs hcmcxs
 refine Ok.seq (Ok.region (Ok.batch 1 [(0, .slice axs xs.length cxs), (1, .int .i64 xi), (2, .int .i64 xj)] (by kernel_rfl) (Ok.nil (Ok.thenN (Ok.seq (Ok.region (Ok.bat 5 [0, 1, 2] [(8, .slice axs xs.length cxs), (9, .int .i64 xi), (10, .int .i64 xj), (12, .int .i64 (xs.length : Int))] ?_)))))))
 obtain ⟨h01, h11, h21, h31, hF⟩ := hF
 refine Ok.op rfl (OpOk.step (v := vw axs 7 (Int.toNat (xs.length : Int)) (Int.toNat xi) (Int.toNat xj)) (slice3_run (size := 7) (l := xi) (h := xj) (q := (xs.length : Int)) rfl Try.underlying34 (by kernel_rfl) rfl rfl rfl h01 h11 h21 h31) rfl rfl (Ok.nil (Ok.thenN (Ok.seq (Ok.seq (Ok.region (Ok.bat 3 [0, 1, 2] [(16, .bool (xi == xj))] ?_)))))))
 refine Ok.nil (Ok.thenN (Ok.cond (b := (xi == xj)) rfl (fun hc2 => ?_) (fun hc2 => ?_)))
 ·replace hF := hF.1 hc2
  refine Ok.seq (Ok.region (Ok.batch 2 [(6, .slice axs xs.length cxs)] (by kernel_rfl) (Ok.nil (Ok.thenN (Ok.ret (Ok.thenR ?_))))))
  exact Ok.resH (vs := [.slice axs xs.length cxs]) (.inl rfl) rfl (.cons (.tmp rfl) .nil) (Gext.refl w0 g) ⟨xs, axs, cxs, xsxs, rfl, hLxs, rfl, hF⟩
 ·replace hF := hF.2 hc2
  refine Ok.skip (Ok.thenN (Ok.seq (Ok.region (Ok.bat 3 [0, 1, 2] [(7, .int .i64 (xs.length : Int))] ?_))))
  refine Ok.nil (Ok.thenN (Ok.seq (Ok.mix [] [] [] [(0, true), (1, true), (2, true), (3, true), (4, true), (5, true), (6, false), (7, true)] (by kernel_rfl) (by kernel_rfl) (.cons _ .slnil) (OkM.bat 2 [0, 2, 7] [(20, .slice axs xs.length cxs), (21, .int .i64 xi)] ?_))))
  obtain ⟨h03, h23, hF⟩ := hF
  refine OkM.head rfl rfl (show _ = [] from rfl) (OpQ.step (v := .slice axs (Int.toNat xi) cxs) (slice0_run (h := xi) rfl Try.underlying34 (by kernel_rfl) rfl h03 h23) rfl rfl (OkM.bat 2 [7] [(22, .slice axs (Int.toNat xi) cxs), (23, .slice axs xs.length cxs), (24, .int .i64 xj)] ?_))
  obtain ⟨h04, h14, h24, hF⟩ := hF
  refine OkM.head rfl rfl (show _ = [] from rfl) (OpQ.step (v := vw axs 7 cxs (Int.toNat xj) (Int.toNat (xs.length : Int))) (slice_run (size := 7) (l := xj) (h := (xs.length : Int)) rfl Try.underlying34 (by kernel_rfl) (.inl ⟨_, _, rfl, rfl⟩) (.inr ⟨rfl, rfl⟩) h04 h14 h24) rfl rfl ?_)
  obtain ⟨h05, h15, hF⟩ := hF
  obtain ⟨L5, hdL5⟩ : ∃ y : List (JJ), y = xs.take (Int.toNat xi) ++ xs.drop (Int.toNat xj) := ⟨_, rfl⟩
  have hF := hF L5 hdL5
  refine OkM.tail rfl rfl (OpOk.delAppL (e := .pair (.int .i64) (.pair (.int .i64) (.pair (.bool) (.pair (.str) (.pair (.int .i64) (.pair (.int .i64) (.str))))))) (l := xs) (p := (Int.toNat xi)) (q := (Int.toNat xj)) 0 rfl rfl rfl hLxs Try.underlying34 (by kernel_rfl) h05 h15 (Int.toNat_natCast _) hdL5 rfl fun xs5 hL5 => ?_)
  refine OkM.leaf (i := 6) (show _ = [] from rfl) (Gle.refl _) (.cons _ .slnil) (OkM.bat 1 [7] [(0, .slice axs L5.length cxs)] ?_)
  refine OkM.nil (Ok.thenN (Ok.seq (Ok.region (Ok.bat 4 [0] [(27, .slice axs L5.length cxs), (29, .int .i64 (L5.length : Int)), (30, .int .i64 (xs.length : Int))] ?_))))
  obtain ⟨h06, h16, h26, hF⟩ := hF
  refine Ok.op rfl (OpOk.step (v := vw axs 7 cxs (Int.toNat (L5.length : Int)) (Int.toNat (xs.length : Int))) (slice_run (size := 7) (l := (L5.length : Int)) (h := (xs.length : Int)) rfl Try.underlying34 (by kernel_rfl) (.inl ⟨_, _, rfl, rfl⟩) (.inl ⟨_, _, rfl, rfl⟩) h06 h16 h26) rfl rfl ?_)
  obtain ⟨h17, h27, hF⟩ := hF
  refine Ok.op rfl (OpOk.clearSpare (z := .agg #[.int .i64 0, .int .i64 0, .bool false, sv ([] : Bs), .int .i64 0, .int .i64 0, sv ([] : Bs)]) 0 rfl rfl Try.underlying34 (by kernel_rfl) (by decide) (by kernel_rfl) (Nat.le_of_eq (Int.toNat_natCast _).symm) h17 h27 (Ok.nil (Ok.thenN (Ok.seq (Ok.region (Ok.batch 2 [(6, .slice axs L5.length cxs)] (by kernel_rfl) (Ok.nil (Ok.thenN (Ok.ret ?_)))))))))
  exact Ok.resH (vs := [.slice axs L5.length cxs]) (.inl rfl) rfl (.cons (.tmp rfl) .nil) (Gext.refl w0 g) ⟨L5, axs, cxs, xs5, rfl, hL5, rfl, hF⟩
def jdlS (l : List JJ) (i j : Int) : List JJ := cutL l i j
def jdlP (l : List JJ) (i j : Int) : Prop := 0 ≤ i ∧ i ≤ j ∧ j ≤ (l.length : Int) ∧ l.length ≤ 1000000
theorem jdl_F (l : List JJ) (i j : Int) (hp : jdlP l i j) : jdlF l i j (fun r => r = jdlS l i j) := by
 obtain ⟨h0, h1, h2, h3⟩ := hp
 intro c hc hm
 refine ⟨h0, h1, h2, by omega, fun h => ?_, fun h => ⟨h0, by omega, by omega, h2, by omega, by omega, by omega, fun L hL => ?_⟩⟩
 ·have := eq_of_beq h
  subst this
  show l = l.take i.toNat ++ l.drop i.toNat
  rw [List.take_append_drop]
 ·have hl : L.length = i.toNat + (l.length - j.toNat) := by rw [hL, List.length_append, List.length_take, List.length_drop]; omega
  exact ⟨by omega, by omega, by omega, by omega, by omega, hL⟩
theorem jdl_c {g : Ghost} {axs : Option Addr} {cxs : Nat} {xsxs : List Value} (xs : List (Int × Int × Bool × Bs × Int × Int × Bs)) (xi : Int) (xj : Int) (hLxs : RepL g (.pair (.int .i64) (.pair (.int .i64) (.pair (.bool) (.pair (.str) (.pair (.int .i64) (.pair (.int .i64) (.str))))))) xsxs xs)  (hp : jdlP xs xi xj) : CallsH Try.prog 75 #[.slice axs xs.length cxs, .int .i64 xi, .int .i64 xj] g [.own (.slice axs xs.length cxs) 43 7 xs.length xsxs] (fun g' H' v => ∃ (ar0 : Option Addr) (cr0 : Nat) (xsr0 : List Value), v = .slice ar0 (jdlS xs xi xj).length cr0 ∧ RepL g' (.pair (.int .i64) (.pair (.int .i64) (.pair (.bool) (.pair (.str) (.pair (.int .i64) (.pair (.int .i64) (.str))))))) xsr0 (jdlS xs xi xj) ∧ H' = [.own (.slice ar0 (jdlS xs xi xj).length cr0) 43 7 (jdlS xs xi xj).length xsr0]) :=
 (jdl_ok xs xi xj hLxs _ (jdl_F xs xi xj hp)).mono (by rintro g' H' v _ ⟨r0, ar0, cr0, xsr0, rfl, hLr0, rfl, hK⟩; subst hK; exact ⟨ar0, cr0, xsr0, rfl, hLr0, rfl⟩)
def tinF (xs : List (JT)) (xi : Int) (xv : List (JT)) (K : (List (JT)) → Prop) : Prop :=
 ∀ cxs : Nat, xs.length ≤ cxs → cxs ≤ maxLen → ∀ cxv : Nat, xv.length ≤ cxv → cxv ≤ maxLen → (0 : Int) ≤ xi ∧ (xi : Int) ≤ (xs.length : Int) ∧ (xs.length : Int) ≤ (cxs : Int) ∧ ((((xv.length : Int) == 0)) = true → K xs) ∧ ((((xv.length : Int) == 0)) = false → (((xi == (xs.length : Int))) = true → (xs ++ xv).length ≤ 2932031007402 ∧ K (xs ++ xv)) ∧ (((xi == (xs.length : Int))) = false → ((decide ((w6 ((xs.length : Int) + (xv.length : Int))) > (cxs : Int))) = true → (0 : Int) ≤ xi ∧ xi ≤ (cxs : Int) ∧ (0 : Int) ≤ (w6 ((w6 ((xs.length : Int) + (xv.length : Int))) - xi)) ∧ 0 < (Int.toNat (w6 ((w6 ((xs.length : Int) + (xv.length : Int))) - xi))) ∧ (Int.toNat xi) ≤ xs.length ∧ cxs < (Int.toNat xi) + (Int.toNat (w6 ((w6 ((xs.length : Int) + (xv.length : Int))) - xi))) ∧ (Int.toNat xi) + (Int.toNat (w6 ((w6 ((xs.length : Int) + (xv.length : Int))) - xi))) ≤ 2932031007402 ∧ ∀ L7 : List (JT), L7 = xs.take (Int.toNat xi) ++ List.replicate (Int.toNat (w6 ((w6 ((xs.length : Int) + (xv.length : Int))) - xi))) ((0, 0, 0, 0, ([] : Bs)) : JT) → ∀ c7 : Nat, L7.length ≤ c7 → c7 ≤ maxLen → (0 : Int) ≤ xi ∧ (xi : Int) ≤ (L7.length : Int) ∧ (L7.length : Int) ≤ (c7 : Int) ∧ (Int.toNat xi) + xv.length ≤ L7.length ∧ ∀ L9 : List (JT), L9 = L7.take (Int.toNat xi) ++ xv ++ L7.drop ((Int.toNat xi) + xv.length) → L7.length = L9.length ∧ (0 : Int) ≤ (w6 (xi + (xv.length : Int))) ∧ ((w6 (xi + (xv.length : Int))) : Int) ≤ (L9.length : Int) ∧ (L9.length : Int) ≤ (c7 : Int) ∧ (0 : Int) ≤ xi ∧ (xi : Int) ≤ (xs.length : Int) ∧ (xs.length : Int) ≤ (cxs : Int) ∧ (Int.toNat xi) ≤ xs.length ∧ (Int.toNat (w6 (xi + (xv.length : Int)))) + (xs.drop (Int.toNat xi)).length ≤ L9.length ∧ ∀ L12 : List (JT), L12 = L9.take (Int.toNat (w6 (xi + (xv.length : Int)))) ++ (xs.drop (Int.toNat xi)) ++ L9.drop ((Int.toNat (w6 (xi + (xv.length : Int)))) + (xs.drop (Int.toNat xi)).length) → L9.length = L12.length ∧ K L12) ∧ ((decide ((w6 ((xs.length : Int) + (xv.length : Int))) > (cxs : Int))) = false → (0 : Int) ≤ (w6 ((xs.length : Int) + (xv.length : Int))) ∧ (w6 ((xs.length : Int) + (xv.length : Int))) ≤ (cxs : Int) ∧ (0 : Int) ≤ (w6 (xi + (xv.length : Int))) ∧ ((w6 (xi + (xv.length : Int))) : Int) ≤ ((Int.toNat (w6 ((xs.length : Int) + (xv.length : Int))) : Nat) : Int) ∧ ((Int.toNat (w6 ((xs.length : Int) + (xv.length : Int))) : Nat) : Int) ≤ (cxs : Int) ∧ 0 < xv.length ∧ 0 < xs.length ∧ (0 : Int) ≤ (w6 (xi + (xv.length : Int))) ∧ ((w6 (xi + (xv.length : Int))) : Int) ≤ ((Int.toNat (w6 ((xs.length : Int) + (xv.length : Int))) : Nat) : Int) ∧ ((Int.toNat (w6 ((xs.length : Int) + (xv.length : Int))) : Nat) : Int) ≤ (cxs : Int) ∧ (0 : Int) ≤ xi ∧ (xi : Int) ≤ ((Int.toNat (w6 ((xs.length : Int) + (xv.length : Int))) : Nat) : Int) ∧ ((Int.toNat (w6 ((xs.length : Int) + (xv.length : Int))) : Nat) : Int) ≤ (cxs : Int) ∧ (Int.toNat xi) ≤ (Int.toNat (w6 (xi + (xv.length : Int)))) ∧ (Int.toNat (w6 (xi + (xv.length : Int)))) ≤ xs.length ∧ Int.toNat ((Int.toNat (w6 ((xs.length : Int) + (xv.length : Int))) : Nat) : Int) = xs.length + ((Int.toNat (w6 (xi + (xv.length : Int)))) - (Int.toNat xi)) ∧ Int.toNat ((Int.toNat (w6 ((xs.length : Int) + (xv.length : Int))) : Nat) : Int) = xs.length + ((Int.toNat (w6 (xi + (xv.length : Int)))) - (Int.toNat xi)) ∧ Int.toNat ((Int.toNat (w6 ((xs.length : Int) + (xv.length : Int))) : Nat) : Int) ≤ cxs ∧ ∀ L18 : List (JT), L18 = xs.take (Int.toNat (w6 (xi + (xv.length : Int)))) ++ xs.drop (Int.toNat xi) → Int.toNat (w6 ((xs.length : Int) + (xv.length : Int))) = L18.length ∧ (0 : Int) ≤ xi ∧ (xi : Int) ≤ (L18.length : Int) ∧ (L18.length : Int) ≤ (cxs : Int) ∧ (Int.toNat xi) + xv.length ≤ L18.length ∧ ∀ L20 : List (JT), L20 = L18.take (Int.toNat xi) ++ xv ++ L18.drop ((Int.toNat xi) + xv.length) → L18.length = L20.length ∧ K L20)))
theorem tin_ok {g : Ghost} {axs : Option Addr} {cxs : Nat} {xsxs : List Value} (xs : List (JT)) (xi : Int) {axv : Option Addr} {cxv : Nat} {xsxv : List Value} (xv : List (JT)) (hLxs : RepL g (.pair (.int .i64) (.pair (.int .i64) (.pair (.int .i64) (.pair (.int .i64) (.str))))) xsxs xs) (hLxv : RepL g (.pair (.int .i64) (.pair (.int .i64) (.pair (.int .i64) (.pair (.int .i64) (.str))))) xsxv xv) (K : (List (JT)) → Prop)
  (hF : tinF xs xi xv K) : CallsH Try.prog 107 #[.slice axs xs.length cxs, .int .i64 xi, .slice axv xv.length cxv] g [.own (.slice axs xs.length cxs) 93 5 xs.length xsxs, .own (.slice axv xv.length cxv) 93 5 xv.length xsxv] (fun g' H' v => ∃ (r0 : List (JT)), ∃ (ar0 : Option Addr) (cr0 : Nat) (xsr0 : List Value), v = .slice ar0 r0.length cr0 ∧ RepL g' (.pair (.int .i64) (.pair (.int .i64) (.pair (.int .i64) (.pair (.int .i64) (.str))))) xsr0 r0 ∧ H' = [.own (.slice ar0 r0.length cr0) 93 5 r0.length xsr0] ∧ K r0) := by
 refine CallsH.enter 95 [(0, .slice axs xs.length cxs), (1, .int .i64 xi), (2, .slice axv xv.length cxv)] Try.func107 rfl (by kernel_rfl) (by kernel_rfl) (by kernel_rfl) fun w0 => ?_
 refine Ok.capOwn 0 rfl fun hcccxs hcmcxs => ?_
 have hF := hF cxs hcccxs hcmcxs
 refine Ok.capOwn 1 rfl fun hcccxv hcmcxv => ?_
 have hF := hF cxv hcccxv hcmcxv
 refine Ok.seq (Ok.region (Ok.batch 1 [(0, .slice axs xs.length cxs), (1, .int .i64 xi), (2, .slice axv xv.length cxv)] (by kernel_rfl) (Ok.nil (Ok.thenN (Ok.seq (Ok.region (Ok.bat 2 [0, 1, 2] [(10, .slice axs xs.length cxs), (11, .int .i64 xi)] ?_)))))))
 obtain ⟨h01, h11, h21, hF⟩ := hF
 refine Ok.op rfl (OpOk.step (v := vw axs 5 cxs (Int.toNat xi) (Int.toNat (xs.length : Int))) (slice_run (size := 5) (l := xi) (h := (xs.length : Int)) rfl Try.underlying35 (by kernel_rfl) (.inl ⟨_, _, rfl, rfl⟩) (.inr ⟨rfl, rfl⟩) h01 h11 h21) rfl rfl (Ok.nil (Ok.thenN (Ok.seq (Ok.region (Ok.bat 3 [0, 1, 2] [(7, .int .i64 (xv.length : Int))] ?_))))))
 refine Ok.nil (Ok.thenN (Ok.seq (Ok.seq (Ok.region (Ok.bat 2 [0, 1, 2, 7] [(16, .bool ((xv.length : Int) == 0))] ?_)))))
 refine Ok.nil (Ok.thenN (Ok.cond (b := ((xv.length : Int) == 0)) rfl (fun hc2 => ?_) (fun hc2 => ?_)))
 ·replace hF := hF.1 hc2
  refine Ok.seq (Ok.region (Ok.batch 2 [(6, .slice axs xs.length cxs)] (by kernel_rfl) (Ok.nil (Ok.thenN (Ok.ret (Ok.thenR ?_))))))
  exact Ok.resP (vs := [.slice axs xs.length cxs]) [0] [.own (.slice axs xs.length cxs) 93 5 xs.length xsxs] (by decide) rfl (.inl rfl) rfl (.cons (.tmp rfl) .nil) (Gext.refl w0 g) ⟨xs, axs, cxs, xsxs, rfl, hLxs, rfl, hF⟩
 ·replace hF := hF.2 hc2
  refine Ok.skip (Ok.thenN (Ok.seq (Ok.region (Ok.bat 3 [0, 1, 2, 7] [(8, .int .i64 (xs.length : Int))] ?_))))
  refine Ok.nil (Ok.thenN (Ok.seq (Ok.seq (Ok.region (Ok.bat 3 [0, 1, 2, 7, 8] [(22, .bool (xi == (xs.length : Int)))] ?_)))))
  refine Ok.nil (Ok.thenN (Ok.cond (b := (xi == (xs.length : Int))) rfl (fun hc3 => ?_) (fun hc3 => ?_)))
  ·replace hF := hF.1 hc3
   refine Ok.seq (Ok.region (Ok.batch 2 [(23, .slice axs xs.length cxs), (24, .slice axv xv.length cxv)] (by kernel_rfl) ?_))
   obtain ⟨hb4, hF⟩ := hF
   refine Ok.op rfl (OpOk.append' (e := .pair (.int .i64) (.pair (.int .i64) (.pair (.int .i64) (.pair (.int .i64) (.str))))) 48 2932031007402 0 1 rfl rfl rfl rfl hLxs hLxv Try.underlying35 (by kernel_rfl) (by kernel_rfl) (by kernel_rfl) hb4 rfl fun a4 c4 xs4 hL4 => ?_)
   refine Ok.batch 1 [(6, .slice a4 (xs ++ xv).length c4)] (by kernel_rfl) (Ok.nil (Ok.thenN (Ok.ret (Ok.thenR ?_))))
   exact Ok.resP (vs := [.slice a4 (xs ++ xv).length c4]) [0] [.own (.slice a4 (xs ++ xv).length c4) 93 5 (xs ++ xv).length xs4] (by decide) rfl (.inl rfl) rfl (.cons (.tmp rfl) .nil) (Gext.refl w0 g) ⟨(xs ++ xv), a4, c4, xs4, rfl, hL4, rfl, hF⟩
  ·replace hF := hF.2 hc3
   refine Ok.skip (Ok.thenN (Ok.seq (Ok.seq (Ok.region (Ok.bat 4 [0, 1, 2, 7, 8] [(28, .int .i64 (w6 ((xs.length : Int) + (xv.length : Int)))), (29, .slice axs xs.length cxs)] ?_)))))
   refine Ok.op rfl (OpOk.step (v := .int .i64 (cxs : Int)) (Yields.capOf rfl Try.underlying35) rfl rfl (Ok.bat 1 [0, 1, 2, 7, 8] [(31, .bool (decide ((w6 ((xs.length : Int) + (xv.length : Int))) > (cxs : Int))))] ?_))
   refine Ok.nil (Ok.thenN (Ok.cond (b := decide ((w6 ((xs.length : Int) + (xv.length : Int))) > (cxs : Int))) rfl (fun hc5 => ?_) (fun hc5 => ?_)))
   ·replace hF := hF.1 hc5
    refine Ok.seq (Ok.region (Ok.bat 2 [0, 1, 2, 7, 8] [(32, .slice axs xs.length cxs), (33, .int .i64 xi)] ?_))
    obtain ⟨h06, h26, hF⟩ := hF
    refine Ok.op rfl (OpOk.step (v := .slice axs (Int.toNat xi) cxs) (slice0_run (h := xi) rfl Try.underlying35 (by kernel_rfl) rfl h06 h26) rfl rfl (Ok.bat 5 [0, 1, 2, 7] [(34, .slice axs (Int.toNat xi) cxs), (39, .int .i64 (w6 ((w6 ((xs.length : Int) + (xv.length : Int))) - xi)))] ?_))
    obtain ⟨h07, h17, h27, h37, h47, hF⟩ := hF
    obtain ⟨L7, hdL7⟩ : ∃ y : List (JT), y = xs.take (Int.toNat xi) ++ List.replicate (Int.toNat (w6 ((w6 ((xs.length : Int) + (xv.length : Int))) - xi))) ((0, 0, 0, 0, ([] : Bs)) : JT) := ⟨_, rfl⟩
    have hF := hF L7 hdL7
    refine Ok.op rfl (OpOk.growZL (e := .pair (.int .i64) (.pair (.int .i64) (.pair (.int .i64) (.pair (.int .i64) (.str))))) (l := xs) (p := (Int.toNat xi)) (k := (Int.toNat (w6 ((w6 ((xs.length : Int) + (xv.length : Int))) - xi)))) (y := ((0, 0, 0, 0, ([] : Bs)) : JT)) (z := .agg #[.int .i64 0, .int .i64 0, .int .i64 0, .int .i64 0, sv ([] : Bs)]) 48 2932031007402 0 rfl rfl rfl hLxs Try.underlying35 Try.underlying3 (by kernel_rfl) (by kernel_rfl) (by kernel_rfl) ⟨[.int .i64 0], [.int .i64 0, .int .i64 0, .int .i64 0, sv ([] : Bs)], rfl, rfl, ⟨[.int .i64 0], [.int .i64 0, .int .i64 0, sv ([] : Bs)], rfl, rfl, ⟨[.int .i64 0], [.int .i64 0, sv ([] : Bs)], rfl, rfl, ⟨[.int .i64 0], [sv ([] : Bs)], rfl, rfl, rfl⟩⟩⟩⟩ (Int.toNat_of_nonneg h07).symm h17 h27 h37 h47 hdL7 rfl fun a7 c7 xs7 hL7 => ?_)
    refine Ok.capOwn 0 rfl fun hccc7 hcmc7 => ?_
    have hF := hF c7 hccc7 hcmc7
    refine Ok.batch 1 [(0, .slice axs xs.length cxs), (1, .int .i64 xi), (2, .slice axv xv.length cxv), (7, .int .i64 (xv.length : Int)), (9, .slice a7 L7.length c7)] (by kernel_rfl) (Ok.nil (Ok.thenN (Ok.seq (Ok.region (Ok.bat 2 [0, 1, 2, 7, 9] [(41, .slice a7 L7.length c7), (42, .int .i64 xi)] ?_)))))
    obtain ⟨h08, h18, h28, hF⟩ := hF
    refine Ok.op rfl (OpOk.step (v := vw a7 5 c7 (Int.toNat xi) (Int.toNat (L7.length : Int))) (slice_run (size := 5) (l := xi) (h := (L7.length : Int)) rfl Try.underlying35 (by kernel_rfl) (.inl ⟨_, _, rfl, rfl⟩) (.inr ⟨rfl, rfl⟩) h08 h18 h28) rfl rfl (Ok.bat 1 [0, 1, 7, 9] [(43, vw a7 5 c7 (Int.toNat xi) (Int.toNat (L7.length : Int))), (44, .slice axv xv.length cxv)] ?_))
    obtain ⟨h19, hF⟩ := hF
    obtain ⟨L9, hdL9⟩ : ∃ y : List (JT), y = L7.take (Int.toNat xi) ++ xv ++ L7.drop ((Int.toNat xi) + xv.length) := ⟨_, rfl⟩
    have hF := hF L9 hdL9
    obtain ⟨h29, hF⟩ := hF
    refine Ok.op rfl (OpOk.copyInL (e := .pair (.int .i64) (.pair (.int .i64) (.pair (.int .i64) (.pair (.int .i64) (.str))))) (l := L7) (l2 := xv) (p := (Int.toNat xi)) (q := 0) (ys := xv) (r2 := 0) 0 2 rfl rfl (.inl ⟨rfl, rfl⟩) rfl rfl hL7 hLxv Try.underlying35 (by kernel_rfl) (Int.toNat_natCast _) (Nat.zero_le _) rfl h19 hdL9 rfl fun xs9 hL9 => ?_)
    rw [show L7.length = L9.length from h29]
    refine Ok.nil (Ok.thenN (Ok.seq (Ok.mix [] [] [.own (.slice axs xs.length cxs) 93 5 xs.length xsxs, .own (.slice axv xv.length cxv) 93 5 xv.length xsxv] [(0, true), (1, true), (2, true), (3, true), (4, true), (5, true), (6, true), (7, true), (8, false)] (by kernel_rfl) (by kernel_rfl) (.cons _ (.cons_cons _ (.cons_cons _ .slnil))) (OkM.bat 4 [0, 1] [(9, .slice a7 L9.length c7), (46, .slice a7 L9.length c7), (49, .int .i64 (w6 (xi + (xv.length : Int))))] ?_))))
    obtain ⟨h010, h110, h210, hF⟩ := hF
    refine OkM.head rfl rfl (show _ = [.own (.slice axs xs.length cxs) 93 5 xs.length xsxs, .own (.slice axv xv.length cxv) 93 5 xv.length xsxv] from rfl) (OpQ.step (v := vw a7 5 c7 (Int.toNat (w6 (xi + (xv.length : Int)))) (Int.toNat (L9.length : Int))) (slice_run (size := 5) (l := (w6 (xi + (xv.length : Int)))) (h := (L9.length : Int)) rfl Try.underlying35 (by kernel_rfl) (.inl ⟨_, _, rfl, rfl⟩) (.inr ⟨rfl, rfl⟩) h010 h110 h210) rfl rfl (OkM.bat 2 [9] [(50, vw a7 5 c7 (Int.toNat (w6 (xi + (xv.length : Int)))) (Int.toNat (L9.length : Int))), (51, .slice axs xs.length cxs), (52, .int .i64 xi)] ?_))
    obtain ⟨h011, h111, h211, hF⟩ := hF
    refine OkM.head rfl rfl (show _ = [.own (.slice axs xs.length cxs) 93 5 xs.length xsxs, .own (.slice axv xv.length cxv) 93 5 xv.length xsxv] from rfl) (OpQ.step (v := vw axs 5 cxs (Int.toNat xi) (Int.toNat (xs.length : Int))) (slice_run (size := 5) (l := xi) (h := (xs.length : Int)) rfl Try.underlying35 (by kernel_rfl) (.inl ⟨_, _, rfl, rfl⟩) (.inr ⟨rfl, rfl⟩) h011 h111 h211) rfl rfl ?_)
    obtain ⟨h012, h112, hF⟩ := hF
    obtain ⟨L12, hdL12⟩ : ∃ y : List (JT), y = L9.take (Int.toNat (w6 (xi + (xv.length : Int)))) ++ (xs.drop (Int.toNat xi)) ++ L9.drop ((Int.toNat (w6 (xi + (xv.length : Int)))) + (xs.drop (Int.toNat xi)).length) := ⟨_, rfl⟩
    have hF := hF L12 hdL12
    obtain ⟨h212, hF⟩ := hF
    refine OkM.tail rfl rfl (OpOk.copyInL (e := .pair (.int .i64) (.pair (.int .i64) (.pair (.int .i64) (.pair (.int .i64) (.str))))) (l := L9) (l2 := xs) (p := (Int.toNat (w6 (xi + (xv.length : Int))))) (q := (Int.toNat xi)) (ys := (xs.drop (Int.toNat xi))) 0 1 rfl rfl (.inr ⟨rfl, Int.toNat_natCast _⟩) rfl rfl hL9 hLxs Try.underlying35 (by kernel_rfl) (Int.toNat_natCast _) h012 rfl h112 hdL12 rfl fun xs12 hL12 => ?_)
    rw [show L9.length = L12.length from h212]
    refine OkM.leaf (i := 8) (show _ = [.own (.slice axs xs.length cxs) 93 5 xs.length xsxs, .own (.slice axv xv.length cxv) 93 5 xv.length xsxv] from rfl) (Gle.refl _) (.cons _ (.cons_cons _ (.cons_cons _ .slnil))) (OkM.nil (Ok.thenN (Ok.seq (Ok.region (Ok.batch 2 [(6, .slice a7 L12.length c7)] (by kernel_rfl) (Ok.nil (Ok.thenN (Ok.ret (Ok.thenR ?_)))))))))
    exact Ok.resP (vs := [.slice a7 L12.length c7]) [0] [.own (.slice a7 L12.length c7) 93 5 L12.length xs12] (by decide) rfl (.inl rfl) rfl (.cons (.tmp rfl) .nil) (Gext.refl w0 g) ⟨L12, a7, c7, xs12, rfl, hL12, rfl, hF⟩
   ·replace hF := hF.2 hc5
    refine Ok.skip (Ok.thenN (Ok.seq (Ok.region (Ok.bat 4 [1, 2, 7, 8] [(56, .slice axs xs.length cxs), (59, .int .i64 (w6 ((xs.length : Int) + (xv.length : Int))))] ?_))))
    obtain ⟨h013, h213, hF⟩ := hF
    refine Ok.op rfl (OpOk.step (v := .slice axs (Int.toNat (w6 ((xs.length : Int) + (xv.length : Int)))) cxs) (slice0_run (h := (w6 ((xs.length : Int) + (xv.length : Int)))) rfl Try.underlying35 (by kernel_rfl) rfl h013 h213) rfl rfl (Ok.bat 1 [1, 2, 7, 8] [(0, .slice axs (Int.toNat (w6 ((xs.length : Int) + (xv.length : Int)))) cxs)] ?_))
    refine Ok.nil (Ok.thenN (Ok.seq (Ok.seq (Ok.region (Ok.bat 5 [0, 1, 2, 7, 8] [(61, .slice axv xv.length cxv), (62, .slice axs (Int.toNat (w6 ((xs.length : Int) + (xv.length : Int)))) cxs), (65, .int .i64 (w6 (xi + (xv.length : Int))))] ?_)))))
    obtain ⟨h014, h114, h214, hF⟩ := hF
    refine Ok.op rfl (OpOk.step (v := vw axs 5 cxs (Int.toNat (w6 (xi + (xv.length : Int)))) (Int.toNat ((Int.toNat (w6 ((xs.length : Int) + (xv.length : Int))) : Nat) : Int))) (slice_run (size := 5) (l := (w6 (xi + (xv.length : Int)))) (h := ((Int.toNat (w6 ((xs.length : Int) + (xv.length : Int))) : Nat) : Int)) rfl Try.underlying35 (by kernel_rfl) (.inl ⟨_, _, rfl, rfl⟩) (.inr ⟨rfl, rfl⟩) h014 h114 h214) rfl rfl ?_)
    obtain ⟨h015, h115, hF⟩ := hF
    refine Ok.op rfl (OpOk.step (v := .bool false) (Yields.apart (B := 4) 1 0 (by kernel_rfl) rfl rfl rfl rfl h015 h115 Try.underlying35 (by kernel_rfl) (by kernel_rfl) Try.func114 (by kernel_rfl) (by kernel_rfl) (by kernel_rfl) (by kernel_rfl)) rfl rfl (Ok.bat 1 [0, 1, 2, 7, 8] [(68, .bool true)] ?_))
    refine Ok.nil (Ok.thenN (Ok.cond (b := true) rfl (fun _ => ?_) (fun h => by cases h)))
    refine Ok.seq (Ok.mix [] [] [.own (.slice axv xv.length cxv) 93 5 xv.length xsxv] [(0, true), (1, true), (2, true), (3, true), (4, true), (5, true), (6, true), (7, true), (8, false)] (by kernel_rfl) (by kernel_rfl) (.cons _ (.cons_cons _ .slnil)) (OkM.bat 4 [0, 1, 2] [(69, .slice axs (Int.toNat (w6 ((xs.length : Int) + (xv.length : Int)))) cxs), (72, .int .i64 (w6 (xi + (xv.length : Int))))] ?_))
    obtain ⟨h016, h116, h216, hF⟩ := hF
    refine OkM.head rfl rfl (show _ = [.own (.slice axv xv.length cxv) 93 5 xv.length xsxv] from rfl) (OpQ.step (v := vw axs 5 cxs (Int.toNat (w6 (xi + (xv.length : Int)))) (Int.toNat ((Int.toNat (w6 ((xs.length : Int) + (xv.length : Int))) : Nat) : Int))) (slice_run (size := 5) (l := (w6 (xi + (xv.length : Int)))) (h := ((Int.toNat (w6 ((xs.length : Int) + (xv.length : Int))) : Nat) : Int)) rfl Try.underlying35 (by kernel_rfl) (.inl ⟨_, _, rfl, rfl⟩) (.inr ⟨rfl, rfl⟩) h016 h116 h216) rfl rfl (OkM.bat 2 [0, 1, 2] [(73, vw axs 5 cxs (Int.toNat (w6 (xi + (xv.length : Int)))) (Int.toNat ((Int.toNat (w6 ((xs.length : Int) + (xv.length : Int))) : Nat) : Int))), (74, .slice axs (Int.toNat (w6 ((xs.length : Int) + (xv.length : Int)))) cxs), (75, .int .i64 xi)] ?_))
    obtain ⟨h017, h117, h217, hF⟩ := hF
    refine OkM.head rfl rfl (show _ = [.own (.slice axv xv.length cxv) 93 5 xv.length xsxv] from rfl) (OpQ.step (v := vw axs 5 cxs (Int.toNat xi) (Int.toNat ((Int.toNat (w6 ((xs.length : Int) + (xv.length : Int))) : Nat) : Int))) (slice_run (size := 5) (l := xi) (h := ((Int.toNat (w6 ((xs.length : Int) + (xv.length : Int))) : Nat) : Int)) rfl Try.underlying35 (by kernel_rfl) (.inl ⟨_, _, rfl, rfl⟩) (.inr ⟨rfl, rfl⟩) h017 h117 h217) rfl rfl ?_)
    obtain ⟨h018, h118, h218, h318, h418, hF⟩ := hF
    obtain ⟨L18, hdL18⟩ : ∃ y : List (JT), y = xs.take (Int.toNat (w6 (xi + (xv.length : Int)))) ++ xs.drop (Int.toNat xi) := ⟨_, rfl⟩
    have hF := hF L18 hdL18
    obtain ⟨h518, hF⟩ := hF
    refine OkM.tail rfl rfl (OpOk.copyUpL (e := .pair (.int .i64) (.pair (.int .i64) (.pair (.int .i64) (.pair (.int .i64) (.str))))) (l := xs) (p := (Int.toNat xi)) (q := (Int.toNat (w6 (xi + (xv.length : Int))))) 0 rfl rfl rfl hLxs Try.underlying35 (by kernel_rfl) h018 h118 h218 h318 h418 hdL18 rfl fun xs18 hL18 => ?_)
    rw [show Int.toNat (w6 ((xs.length : Int) + (xv.length : Int))) = L18.length from h518]
    refine OkM.leaf (i := 8) (show _ = [.own (.slice axv xv.length cxv) 93 5 xv.length xsxv] from rfl) (Gle.refl _) (.cons _ (.cons_cons _ .slnil)) (OkM.nil (Ok.thenN (Ok.seq (Ok.region (Ok.bat 2 [2] [(0, .slice axs L18.length cxs), (78, .slice axs L18.length cxs), (79, .int .i64 xi)] ?_)))))
    obtain ⟨h019, h119, h219, hF⟩ := hF
    refine Ok.op rfl (OpOk.step (v := vw axs 5 cxs (Int.toNat xi) (Int.toNat (L18.length : Int))) (slice_run (size := 5) (l := xi) (h := (L18.length : Int)) rfl Try.underlying35 (by kernel_rfl) (.inl ⟨_, _, rfl, rfl⟩) (.inr ⟨rfl, rfl⟩) h019 h119 h219) rfl rfl (Ok.bat 1 [0] [(80, vw axs 5 cxs (Int.toNat xi) (Int.toNat (L18.length : Int))), (81, .slice axv xv.length cxv)] ?_))
    obtain ⟨h120, hF⟩ := hF
    obtain ⟨L20, hdL20⟩ : ∃ y : List (JT), y = L18.take (Int.toNat xi) ++ xv ++ L18.drop ((Int.toNat xi) + xv.length) := ⟨_, rfl⟩
    have hF := hF L20 hdL20
    obtain ⟨h220, hF⟩ := hF
    refine Ok.op rfl (OpOk.copyInL (e := .pair (.int .i64) (.pair (.int .i64) (.pair (.int .i64) (.pair (.int .i64) (.str))))) (l := L18) (l2 := xv) (p := (Int.toNat xi)) (q := 0) (ys := xv) (r2 := 0) 0 1 rfl rfl (.inl ⟨rfl, rfl⟩) rfl rfl hL18 hLxv Try.underlying35 (by kernel_rfl) (Int.toNat_natCast _) (Nat.zero_le _) rfl h120 hdL20 rfl fun xs20 hL20 => ?_)
    rw [show L18.length = L20.length from h220]
    refine Ok.nil (Ok.thenN (Ok.seq (Ok.region (Ok.batch 2 [(6, .slice axs L20.length cxs)] (by kernel_rfl) (Ok.nil (Ok.thenN (Ok.ret (Ok.thenR ?_))))))))
    exact Ok.resP (vs := [.slice axs L20.length cxs]) [0] [.own (.slice axs L20.length cxs) 93 5 L20.length xs20] (by decide) rfl (.inl rfl) rfl (.cons (.tmp rfl) .nil) (Gext.refl w0 g) ⟨L20, axs, cxs, xs20, rfl, hL20, rfl, hF⟩
def tinS (l : List JT) (i : Int) (v : List JT) : List JT := l.take i.toNat ++ v ++ l.drop i.toNat
def tinP (l : List JT) (i : Int) (v : List JT) : Prop := 0 ≤ i ∧ i ≤ (l.length : Int) ∧ l.length ≤ 1000000 ∧ v.length = 1
theorem tin_F (l : List JT) (i : Int) (v : List JT) (hp : tinP l i v) : tinF l i v (fun r => r = tinS l i v) := by
 obtain ⟨h0, h1, h2, h3⟩ := hp
 intro c hc hm cv hcv hmv
 have hw1 : w6 ((l.length : Int) + (v.length : Int)) = (l.length : Int) + 1 := by rw [h3, w64 (by omega)]; rfl
 have hw2 : w6 (i + (v.length : Int)) = i + 1 := by rw [h3, w64 (by omega)]; rfl
 rw [maxLen_eq] at hm
 refine ⟨h0, h1, by omega, fun h => ?_, fun _ => ⟨fun h => ⟨?_, ?_⟩, fun h => ?_⟩⟩
 ·rw [h3] at h; cases h
 ·rw [List.length_append]; omega
 ·have := eq_of_beq h
  show l ++ v = _
  unfold tinS
  rw [this, Int.toNat_natCast, List.take_length, List.drop_length, List.append_nil]
 have hne : i ≠ (l.length : Int) := by rw [beq_eq_false_iff_ne] at h; exact h
 rw [hw1, hw2]
 refine ⟨fun h => ?_, fun h => ?_⟩
 ·have h := of_decide_eq_true h
  have hw3 : w6 ((l.length : Int) + 1 - i) = (l.length : Int) + 1 - i := w64 (by omega)
  rw [hw3]
  refine ⟨h0, by omega, by omega, by omega, by omega, by omega, by omega, fun L7 hL7 c7 hc7 hm7 => ?_⟩
  have e7 : L7.length = l.length + 1 := by rw [hL7, List.length_append, List.length_take, List.length_replicate]; omega
  refine ⟨h0, by omega, by omega, by omega, fun L9 hL9 => ?_⟩
  have e9 : L9.length = l.length + 1 := by rw [hL9, List.length_append, List.length_append, List.length_take, List.length_drop]; omega
  refine ⟨by omega, by omega, by omega, by omega, h0, h1, by omega, by omega, by rw [List.length_drop]; omega, fun L12 hL12 => ⟨?_, ?_⟩⟩
  ·rw [hL12, List.length_append, List.length_append, List.length_take, List.length_drop, List.length_drop]; omega
  ·show L12 = tinS l i v
   have t1 : L9.take (i + 1).toNat = l.take i.toNat ++ v := by
    rw [hL9, List.take_append_of_le_length (by rw [List.length_append, List.length_take]; omega), List.take_of_length_le (by rw [List.length_append, List.length_take]; omega), hL7, List.take_append_of_le_length (by rw [List.length_take]; omega), List.take_take, Nat.min_self]
   have t2 : L9.drop ((i + 1).toNat + (l.drop i.toNat).length) = [] := List.drop_of_length_le (by rw [List.length_drop]; omega)
   rw [hL12, t1, t2, List.append_nil]; rfl
 ·have h := of_decide_eq_false h
  refine ⟨by omega, by omega, by omega, by omega, by omega, by omega, by omega, by omega, by omega, by omega, h0, by omega, by omega, by omega, by omega, by omega, by omega, by omega, fun L18 hL18 => ?_⟩
  have e18 : L18.length = l.length + 1 := by rw [hL18, List.length_append, List.length_take, List.length_drop]; omega
  refine ⟨by omega, h0, by omega, by omega, by omega, fun L20 hL20 => ⟨?_, ?_⟩⟩
  ·rw [hL20, List.length_append, List.length_append, List.length_take, List.length_drop]; omega
  ·show L20 = tinS l i v
   have t1 : L18.take i.toNat = l.take i.toNat := by
    rw [hL18, List.take_append_of_le_length (by rw [List.length_take]; omega), List.take_take, Nat.min_eq_left (by omega)]
   have t2 : L18.drop (i.toNat + v.length) = l.drop i.toNat := by
    rw [hL18, List.drop_append_of_le_length (by rw [List.length_take]; omega), List.drop_of_length_le (by rw [List.length_take]; omega), List.nil_append]
   rw [hL20, t1, t2]; rfl
theorem tin_c {g : Ghost} {axs : Option Addr} {cxs : Nat} {xsxs : List Value} (xs : List (Int × Int × Int × Int × Bs)) (xi : Int) {axv : Option Addr} {cxv : Nat} {xsxv : List Value} (xv : List (Int × Int × Int × Int × Bs)) (hLxs : RepL g (.pair (.int .i64) (.pair (.int .i64) (.pair (.int .i64) (.pair (.int .i64) (.str))))) xsxs xs) (hLxv : RepL g (.pair (.int .i64) (.pair (.int .i64) (.pair (.int .i64) (.pair (.int .i64) (.str))))) xsxv xv)  (hp : tinP xs xi xv) : CallsH Try.prog 107 #[.slice axs xs.length cxs, .int .i64 xi, .slice axv xv.length cxv] g [.own (.slice axs xs.length cxs) 93 5 xs.length xsxs, .own (.slice axv xv.length cxv) 93 5 xv.length xsxv] (fun g' H' v => ∃ (ar0 : Option Addr) (cr0 : Nat) (xsr0 : List Value), v = .slice ar0 (tinS xs xi xv).length cr0 ∧ RepL g' (.pair (.int .i64) (.pair (.int .i64) (.pair (.int .i64) (.pair (.int .i64) (.str))))) xsr0 (tinS xs xi xv) ∧ H' = [.own (.slice ar0 (tinS xs xi xv).length cr0) 93 5 (tinS xs xi xv).length xsr0]) :=
 (tin_ok xs xi xv hLxs hLxv _ (tin_F xs xi xv hp)).mono (by rintro g' H' v _ ⟨r0, ar0, cr0, xsr0, rfl, hLr0, rfl, hK⟩; subst hK; exact ⟨ar0, cr0, xsr0, rfl, hLr0, rfl⟩)
theorem mem_getD {α : Type} {l : List α} {i : Nat} (d : α) (h : i < l.length) : l.getD i d ∈ l := by
 rw [List.getD_eq_getElem?_getD, List.getElem?_eq_getElem h, Option.getD_some]; exact List.getElem_mem h
def idxN {α : Type} (f : α → Bool) : List α → Nat → Int
 | [], _ => -1
 | x :: l, i => if f x = true then (i : Int) else idxN f l (i + 1)

theorem idxN_any {α : Type} (f : α → Bool) : ∀ (l : List α) (i : Nat), decide (idxN f l i ≥ 0) = l.any f
 | [], _ => rfl
 | x :: l, i => by
  rw [idxN, List.any_cons, ← idxN_any f l (i + 1)]
  cases f x
  ·rfl
  ·rw [if_t rfl, decide_eq_true (by omega)]; rfl

def jixl7b (xs : List (JJ)) (xf : (JJ) → Bool) (pxf : (JJ) → Prop) (K : Int → Prop) (x8l7 : Int) (C7 : Int → Prop) : Prop :=
 ((decide (x8l7 < (xs.length : Int))) = true → (0 : Int) ≤ x8l7 ∧ Int.toNat x8l7 < xs.length ∧ pxf (xs.getD (Int.toNat x8l7) default) ∧ (((xf (xs.getD (Int.toNat x8l7) default))) = true → K x8l7) ∧ (((xf (xs.getD (Int.toNat x8l7) default))) = false → C7 (w6 (x8l7 + 1)))) ∧ ((decide (x8l7 < (xs.length : Int))) = false → K (-1))
def jixl7 (xs : List (JJ)) (xf : (JJ) → Bool) (pxf : (JJ) → Prop) (K : Int → Prop) : Nat → Int → Prop
 | 0, _ => False
 | k + 1, x8l7 => jixl7b xs xf pxf K x8l7 (jixl7 xs xf pxf K k)
def jixF (xs : List (JJ)) (xf : (JJ) → Bool) (pxf : (JJ) → Prop) (K : Int → Prop) : Prop :=
 ∃ k, jixl7 xs xf pxf K k 0
theorem jix_ok {g : Ghost} {axs_0 : Option Addr} {cxs_0 : Nat} (xs : List (JJ)) {vxf : Value} (xf : (JJ) → Bool) (pxf : (JJ) → Prop) (hRxs_0 : Rep g (.slice (.pair (.int .i64) (.pair (.int .i64) (.pair (.bool) (.pair (.str) (.pair (.int .i64) (.pair (.int .i64) (.str)))))))) [.slice axs_0 xs.length cxs_0] xs) (hfxf : ∀ (y0 : JJ), pxf y0 → FnG Try.prog vxf #[.agg #[.int .i64 y0.1, .int .i64 y0.2.1, .bool y0.2.2.1, sv y0.2.2.2.1, .int .i64 y0.2.2.2.2.1, .int .i64 y0.2.2.2.2.2.1, sv y0.2.2.2.2.2.2]] g (.bool (xf y0))) (K : Int → Prop)
  (hF : jixF xs xf pxf K) : CallsH Try.prog 77 #[.slice axs_0 xs.length cxs_0, vxf] g [] (fun g' H' v => ∃ (r0 : Int), v = .int .i64 r0 ∧ H' = [] ∧ K r0) := by
 refine CallsH.enter 19 [(0, .slice axs_0 xs.length cxs_0), (1, vxf)] Try.func77 rfl (by kernel_rfl) (by kernel_rfl) (by kernel_rfl) fun w0 => ?_
 refine Ok.seq (Ok.region (Ok.batch 1 [(0, .slice axs_0 xs.length cxs_0), (1, vxf)] (by kernel_rfl) (Ok.nil (Ok.thenN (Ok.seq (Ok.seq (Ok.region (Ok.bat 3 [0, 1] [(7, .int .i64 (xs.length : Int)), (8, .int .i64 0)] ?_))))))))
 refine Ok.nil (Ok.thenN (Ok.block ?_))
 obtain ⟨k, hF⟩ := hF
 refine Ok.loop (fun k a W => ∃ (x8l7 : Int), StA 19 [(0, .slice axs_0 xs.length cxs_0), (1, vxf), (7, .int .i64 (xs.length : Int)), (8, .int .i64 x8l7)] a ∧ StW w0 [] g W ∧ jixl7 xs xf pxf K k x8l7) k ?_ ?_
 ·
  exact fun a W hA hW => ⟨0, hA.sub (by kernel_rfl), hW, hF⟩
 ·
  clear hF
  rintro k7 a W ⟨x8l7, hA, hW, hF⟩
  cases k7 with
  | zero => exact (hF : False).elim
  | succ k7 =>
   refine (?_ : Ok _ _ _ _ _ _) a W hA hW
   clear hA hW
   refine Ok.seq (Ok.region (Ok.bat 1 [0, 1, 7, 8] [(9, .bool (decide (x8l7 < (xs.length : Int))))] ?_))
   refine Ok.nil (Ok.thenN (Ok.seq (Ok.cond (b := decide (x8l7 < (xs.length : Int))) rfl (fun hc1 => ?_) (fun hc1 => ?_))))
   ·replace hF := hF.1 hc1
    refine Ok.skip (Ok.thenN (Ok.seq (Ok.block (Ok.seq (Ok.region (Ok.bat 2 [0, 1, 7, 8] [(5, .int .i64 x8l7)] ?_))))))
    refine Ok.nil (Ok.thenN (Ok.seq (Ok.region (Ok.bat 3 [0, 1, 5, 7, 8] [(11, vxf), (12, .slice axs_0 xs.length cxs_0), (13, .int .i64 x8l7)] ?_))))
    obtain ⟨h03, h13, hF⟩ := hF
    have he3 := get_of (l := xs) (default : JJ) h13
    generalize hg3 : (xs.getD (Int.toNat x8l7) default) = e3 at he3 hF ⊢
    refine Ok.op rfl (OpOk.indexRo (e := .pair (.int .i64) (.pair (.int .i64) (.pair (.bool) (.pair (.str) (.pair (.int .i64) (.pair (.int .i64) (.str))))))) (i := x8l7) (el := e3) rfl rfl Try.underlying34 (by kernel_rfl) hRxs_0 h03 he3 rfl fun q2 o2 cs2 _ hat2 hr2 => ?_)
    obtain ⟨_, _, rfl, rfl, ⟨_, _, rfl, rfl, ⟨_, _, rfl, rfl, ⟨_, _, rfl, rfl, ⟨_, _, rfl, rfl, ⟨_, _, rfl, rfl, rfl⟩⟩⟩⟩⟩⟩ := hr2
    replace hat2 : At g q2 o2 [.int .i64 e3.1, .int .i64 e3.2.1, .bool e3.2.2.1, sv e3.2.2.2.1, .int .i64 e3.2.2.2.2.1, .int .i64 e3.2.2.2.2.2.1, sv e3.2.2.2.2.2.2] := hat2
    refine Ok.op rfl (OpOk.step (v := .agg #[.int .i64 e3.1, .int .i64 e3.2.1, .bool e3.2.2.1, sv e3.2.2.2.1, .int .i64 e3.2.2.2.2.1, .int .i64 e3.2.2.2.2.2.1, sv e3.2.2.2.2.2.2]) (Yields.loadAggRo 0 7 #[.int .i64 e3.1, .int .i64 e3.2.1, .bool e3.2.2.1, sv e3.2.2.2.1, .int .i64 e3.2.2.2.2.1, .int .i64 e3.2.2.2.2.2.1, sv e3.2.2.2.2.2.2] hat2 (by kernel_rfl) Try.underlying43 rfl (by kernel_rfl) (by kernel_rfl) (by kernel_rfl)) rfl rfl ?_)
    obtain ⟨hq4, hF⟩ := hF
    refine Ok.op rfl (OpOk.apply (args := #[.agg #[.int .i64 e3.1, .int .i64 e3.2.1, .bool e3.2.2.1, sv e3.2.2.2.1, .int .i64 e3.2.2.2.2.1, .int .i64 e3.2.2.2.2.2.1, sv e3.2.2.2.2.2.2]]) (v := .bool (xf e3)) rfl (by kernel_rfl) (by kernel_rfl) (hfxf e3 hq4) rfl (Ok.nil (Ok.thenN (Ok.cond (b := (xf e3)) rfl (fun hc5 => ?_) (fun hc5 => ?_)))))
    ·replace hF := hF.1 hc5
     refine Ok.seq (Ok.region (Ok.batch 2 [(4, .int .i64 x8l7)] (by kernel_rfl) (Ok.nil (Ok.thenN (Ok.ret (Ok.blockR (Ok.thenR (Ok.thenR (Ok.blockR (Ok.thenR ?_))))))))))
     exact Ok.resH (vs := [.int .i64 x8l7]) (.inl rfl) rfl (.cons (.tmp rfl) .nil) (Gext.refl w0 g) ⟨x8l7, rfl, rfl, hF⟩
    ·replace hF := hF.2 hc5
     refine Ok.skip (Ok.blockN (Ok.thenN (Ok.region (Ok.bat 2 [0, 1, 7] [(8, .int .i64 (w6 (x8l7 + 1)))] ?_))))
     refine Ok.nil (Ok.thenN ?_)
     subst hg3
     exact fun a W hA hW => ⟨k7, Nat.lt_succ_self _, w6 (x8l7 + 1), hA.sub (by kernel_rfl), hW, hF⟩
   ·replace hF := hF.2 hc1
    refine Ok.exit (Ok.thenE (Ok.thenE (Ok.blockHit (Ok.thenN (Ok.seq (Ok.region (Ok.batch 1 [(4, .int .i64 (-1))] (by kernel_rfl) (Ok.nil (Ok.thenN (Ok.ret ?_))))))))))
    exact Ok.resH (vs := [.int .i64 (-1)]) (.inl rfl) rfl (.cons (.tmp rfl) .nil) (Gext.refl w0 g) ⟨(-1), rfl, rfl, hF⟩
def jixS (l : List (JJ)) (f : JJ → Bool) : Int := idxN f l 0
def jixP (l : List (JJ)) (_ : JJ → Bool) (p : JJ → Prop) : Prop := l.length ≤ 1000000 ∧ ∀ y ∈ l, p y
theorem jix_F (l : List (JJ)) (f : JJ → Bool) (p : JJ → Prop) (hp : jixP l f p) : jixF l f p (fun r => r = jixS l f) := by
 obtain ⟨hl, hp⟩ := hp
 have loop : ∀ (k i : Nat), i + k = l.length → jixS l f = idxN f (l.drop i) i → jixl7 l f p (fun r => r = jixS l f) (k + 1) (i : Int) := by
  intro k
  induction k with
  | zero =>
   intro i h h2
   rw [List.drop_of_length_le (by omega)] at h2
   exact ⟨fun h => by have := of_decide_eq_true h; omega, fun _ => h2.symm⟩
  | succ k ih =>
   intro i h h2
   rw [drop_get (l := l) default (by omega), idxN] at h2
   refine ⟨fun _ => ⟨by omega, by rw [Int.toNat_natCast]; omega, hp _ (mem_getD default (by rw [Int.toNat_natCast]; omega)), fun hc => ?_, fun hc => ?_⟩, fun h => by have := of_decide_eq_false h; omega⟩
   ·rw [Int.toNat_natCast] at hc
    rw [h2, if_t hc]
   ·rw [Int.toNat_natCast] at hc
    rw [if_f hc] at h2
    rw [w64 (by omega)]
    exact ih (i + 1) (by omega) h2
 exact ⟨_, loop l.length 0 (by omega) rfl⟩
theorem jix_c {g : Ghost} {axs_0 : Option Addr} {cxs_0 : Nat} (xs : List (Int × Int × Bool × Bs × Int × Int × Bs)) {vxf : Value} (xf : (Int × Int × Bool × Bs × Int × Int × Bs) → Bool) (pxf : (Int × Int × Bool × Bs × Int × Int × Bs) → Prop) (hRxs_0 : Rep g (.slice (.pair (.int .i64) (.pair (.int .i64) (.pair (.bool) (.pair (.str) (.pair (.int .i64) (.pair (.int .i64) (.str)))))))) [.slice axs_0 xs.length cxs_0] xs) (hfxf : ∀ (y0 : Int × Int × Bool × Bs × Int × Int × Bs), pxf y0 → FnG Try.prog vxf #[.agg #[.int .i64 y0.1, .int .i64 y0.2.1, .bool y0.2.2.1, sv y0.2.2.2.1, .int .i64 y0.2.2.2.2.1, .int .i64 y0.2.2.2.2.2.1, sv y0.2.2.2.2.2.2]] g (.bool (xf y0)))  (hp : jixP xs xf pxf) : CallsG Try.prog 77 #[.slice axs_0 xs.length cxs_0, vxf] g (.int .i64 (jixS xs xf)) :=
 (jix_ok xs xf pxf hRxs_0 hfxf _ (jix_F xs xf pxf hp)).gives (by rintro g' H' v _ ⟨r0, rfl, rfl, hK⟩; subst hK; rfl)

def jcoF (xs : List (JJ)) (xf : (JJ) → Bool) (pxf : (JJ) → Prop) (K : Bool → Prop) : Prop :=
 jixP xs xf pxf ∧ K (decide ((jixS xs xf) ≥ 0))
theorem jco_ok {g : Ghost} {axs_0 : Option Addr} {cxs_0 : Nat} (xs : List (JJ)) {vxf : Value} (xf : (JJ) → Bool) (pxf : (JJ) → Prop) (hRxs_0 : Rep g (.slice (.pair (.int .i64) (.pair (.int .i64) (.pair (.bool) (.pair (.str) (.pair (.int .i64) (.pair (.int .i64) (.str)))))))) [.slice axs_0 xs.length cxs_0] xs) (hfxf : ∀ (y0 : JJ), pxf y0 → FnG Try.prog vxf #[.agg #[.int .i64 y0.1, .int .i64 y0.2.1, .bool y0.2.2.1, sv y0.2.2.2.1, .int .i64 y0.2.2.2.2.1, .int .i64 y0.2.2.2.2.2.1, sv y0.2.2.2.2.2.2]] g (.bool (xf y0))) (K : Bool → Prop)
  (hF : jcoF xs xf pxf K) : CallsH Try.prog 47 #[.slice axs_0 xs.length cxs_0, vxf] g [] (fun g' H' v => ∃ (r0 : Bool), v = .bool r0 ∧ H' = [] ∧ K r0) := by
 refine CallsH.enter 9 [(0, .slice axs_0 xs.length cxs_0), (1, vxf)] Try.func47 rfl (by kernel_rfl) (by kernel_rfl) (by kernel_rfl) fun w0 => ?_
 refine Ok.seq (Ok.region (Ok.batch 1 [(0, .slice axs_0 xs.length cxs_0), (1, vxf)] (by kernel_rfl) (Ok.nil (Ok.thenN (Ok.seq (Ok.region (Ok.batch 2 [(5, .slice axs_0 xs.length cxs_0), (6, vxf)] (by kernel_rfl) ?_)))))))
 obtain ⟨hp1, hF⟩ := hF
 refine Ok.op rfl (OpOk.callG (v := .int .i64 (jixS xs xf)) enr (fun W hW => jix_c xs xf pxf (hRxs_0.mono hW.sees) (fun y0 hq => (hfxf y0 hq).mono hW.sees) hp1) rfl ?_)
 refine Ok.batch 2 [(4, .bool (decide ((jixS xs xf) ≥ 0)))] (by kernel_rfl) (Ok.nil (Ok.thenN (Ok.ret ?_)))
 exact Ok.resH (vs := [.bool (decide ((jixS xs xf) ≥ 0))]) (.inl rfl) rfl (.cons (.tmp rfl) .nil) (Gext.refl w0 g) ⟨(decide ((jixS xs xf) ≥ 0)), rfl, rfl, hF⟩
def jcoS (l : List (JJ)) (f : JJ → Bool) : Bool := l.any f
def jcoP (l : List (JJ)) (_ : JJ → Bool) (p : JJ → Prop) : Prop := l.length ≤ 1000000 ∧ ∀ y ∈ l, p y
theorem jco_F (l : List (JJ)) (f : JJ → Bool) (p : JJ → Prop) (hp : jcoP l f p) : jcoF l f p (fun r => r = jcoS l f) := ⟨hp, idxN_any f l 0⟩
theorem jco_c {g : Ghost} {axs_0 : Option Addr} {cxs_0 : Nat} (xs : List (Int × Int × Bool × Bs × Int × Int × Bs)) {vxf : Value} (xf : (Int × Int × Bool × Bs × Int × Int × Bs) → Bool) (pxf : (Int × Int × Bool × Bs × Int × Int × Bs) → Prop) (hRxs_0 : Rep g (.slice (.pair (.int .i64) (.pair (.int .i64) (.pair (.bool) (.pair (.str) (.pair (.int .i64) (.pair (.int .i64) (.str)))))))) [.slice axs_0 xs.length cxs_0] xs) (hfxf : ∀ (y0 : Int × Int × Bool × Bs × Int × Int × Bs), pxf y0 → FnG Try.prog vxf #[.agg #[.int .i64 y0.1, .int .i64 y0.2.1, .bool y0.2.2.1, sv y0.2.2.2.1, .int .i64 y0.2.2.2.2.1, .int .i64 y0.2.2.2.2.2.1, sv y0.2.2.2.2.2.2]] g (.bool (xf y0)))  (hp : jcoP xs xf pxf) : CallsG Try.prog 47 #[.slice axs_0 xs.length cxs_0, vxf] g (.bool (jcoS xs xf)) :=
 (jco_ok xs xf pxf hRxs_0 hfxf _ (jco_F xs xf pxf hp)).gives (by rintro g' H' v _ ⟨r0, rfl, rfl, hK⟩; subst hK; rfl)

def tixl7b (xs : List (JT)) (xf : (JT) → Bool) (pxf : (JT) → Prop) (K : Int → Prop) (x8l7 : Int) (C7 : Int → Prop) : Prop :=
 ((decide (x8l7 < (xs.length : Int))) = true → (0 : Int) ≤ x8l7 ∧ Int.toNat x8l7 < xs.length ∧ pxf (xs.getD (Int.toNat x8l7) default) ∧ (((xf (xs.getD (Int.toNat x8l7) default))) = true → K x8l7) ∧ (((xf (xs.getD (Int.toNat x8l7) default))) = false → C7 (w6 (x8l7 + 1)))) ∧ ((decide (x8l7 < (xs.length : Int))) = false → K (-1))
def tixl7 (xs : List (JT)) (xf : (JT) → Bool) (pxf : (JT) → Prop) (K : Int → Prop) : Nat → Int → Prop
 | 0, _ => False
 | k + 1, x8l7 => tixl7b xs xf pxf K x8l7 (tixl7 xs xf pxf K k)
def tixF (xs : List (JT)) (xf : (JT) → Bool) (pxf : (JT) → Prop) (K : Int → Prop) : Prop :=
 ∃ k, tixl7 xs xf pxf K k 0
theorem tix_ok {g : Ghost} {axs_0 : Option Addr} {cxs_0 : Nat} (xs : List (JT)) {vxf : Value} (xf : (JT) → Bool) (pxf : (JT) → Prop) (hRxs_0 : Rep g (.slice (.pair (.int .i64) (.pair (.int .i64) (.pair (.int .i64) (.pair (.int .i64) (.str)))))) [.slice axs_0 xs.length cxs_0] xs) (hfxf : ∀ (y0 : JT), pxf y0 → FnG Try.prog vxf #[.agg #[.int .i64 y0.1, .int .i64 y0.2.1, .int .i64 y0.2.2.1, .int .i64 y0.2.2.2.1, sv y0.2.2.2.2]] g (.bool (xf y0))) (K : Int → Prop)
  (hF : tixF xs xf pxf K) : CallsH Try.prog 72 #[.slice axs_0 xs.length cxs_0, vxf] g [] (fun g' H' v => ∃ (r0 : Int), v = .int .i64 r0 ∧ H' = [] ∧ K r0) := by
 refine CallsH.enter 19 [(0, .slice axs_0 xs.length cxs_0), (1, vxf)] Try.func72 rfl (by kernel_rfl) (by kernel_rfl) (by kernel_rfl) fun w0 => ?_
 refine Ok.seq (Ok.region (Ok.batch 1 [(0, .slice axs_0 xs.length cxs_0), (1, vxf)] (by kernel_rfl) (Ok.nil (Ok.thenN (Ok.seq (Ok.seq (Ok.region (Ok.bat 3 [0, 1] [(7, .int .i64 (xs.length : Int)), (8, .int .i64 0)] ?_))))))))
 refine Ok.nil (Ok.thenN (Ok.block ?_))
 obtain ⟨k, hF⟩ := hF
 refine Ok.loop (fun k a W => ∃ (x8l7 : Int), StA 19 [(0, .slice axs_0 xs.length cxs_0), (1, vxf), (7, .int .i64 (xs.length : Int)), (8, .int .i64 x8l7)] a ∧ StW w0 [] g W ∧ tixl7 xs xf pxf K k x8l7) k ?_ ?_
 ·
  exact fun a W hA hW => ⟨0, hA.sub (by kernel_rfl), hW, hF⟩
 ·
  clear hF
  rintro k7 a W ⟨x8l7, hA, hW, hF⟩
  cases k7 with
  | zero => exact (hF : False).elim
  | succ k7 =>
   refine (?_ : Ok _ _ _ _ _ _) a W hA hW
   clear hA hW
   refine Ok.seq (Ok.region (Ok.bat 1 [0, 1, 7, 8] [(9, .bool (decide (x8l7 < (xs.length : Int))))] ?_))
   refine Ok.nil (Ok.thenN (Ok.seq (Ok.cond (b := decide (x8l7 < (xs.length : Int))) rfl (fun hc1 => ?_) (fun hc1 => ?_))))
   ·replace hF := hF.1 hc1
    refine Ok.skip (Ok.thenN (Ok.seq (Ok.block (Ok.seq (Ok.region (Ok.bat 2 [0, 1, 7, 8] [(5, .int .i64 x8l7)] ?_))))))
    refine Ok.nil (Ok.thenN (Ok.seq (Ok.region (Ok.bat 3 [0, 1, 5, 7, 8] [(11, vxf), (12, .slice axs_0 xs.length cxs_0), (13, .int .i64 x8l7)] ?_))))
    obtain ⟨h03, h13, hF⟩ := hF
    have he3 := get_of (l := xs) (default : JT) h13
    generalize hg3 : (xs.getD (Int.toNat x8l7) default) = e3 at he3 hF ⊢
    refine Ok.op rfl (OpOk.indexRo (e := .pair (.int .i64) (.pair (.int .i64) (.pair (.int .i64) (.pair (.int .i64) (.str))))) (i := x8l7) (el := e3) rfl rfl Try.underlying35 (by kernel_rfl) hRxs_0 h03 he3 rfl fun q2 o2 cs2 _ hat2 hr2 => ?_)
    obtain ⟨_, _, rfl, rfl, ⟨_, _, rfl, rfl, ⟨_, _, rfl, rfl, ⟨_, _, rfl, rfl, rfl⟩⟩⟩⟩ := hr2
    replace hat2 : At g q2 o2 [.int .i64 e3.1, .int .i64 e3.2.1, .int .i64 e3.2.2.1, .int .i64 e3.2.2.2.1, sv e3.2.2.2.2] := hat2
    refine Ok.op rfl (OpOk.step (v := .agg #[.int .i64 e3.1, .int .i64 e3.2.1, .int .i64 e3.2.2.1, .int .i64 e3.2.2.2.1, sv e3.2.2.2.2]) (Yields.loadAggRo 0 5 #[.int .i64 e3.1, .int .i64 e3.2.1, .int .i64 e3.2.2.1, .int .i64 e3.2.2.2.1, sv e3.2.2.2.2] hat2 (by kernel_rfl) Try.underlying93 rfl (by kernel_rfl) (by kernel_rfl) (by kernel_rfl)) rfl rfl ?_)
    obtain ⟨hq4, hF⟩ := hF
    refine Ok.op rfl (OpOk.apply (args := #[.agg #[.int .i64 e3.1, .int .i64 e3.2.1, .int .i64 e3.2.2.1, .int .i64 e3.2.2.2.1, sv e3.2.2.2.2]]) (v := .bool (xf e3)) rfl (by kernel_rfl) (by kernel_rfl) (hfxf e3 hq4) rfl (Ok.nil (Ok.thenN (Ok.cond (b := (xf e3)) rfl (fun hc5 => ?_) (fun hc5 => ?_)))))
    ·replace hF := hF.1 hc5
     refine Ok.seq (Ok.region (Ok.batch 2 [(4, .int .i64 x8l7)] (by kernel_rfl) (Ok.nil (Ok.thenN (Ok.ret (Ok.blockR (Ok.thenR (Ok.thenR (Ok.blockR (Ok.thenR ?_))))))))))
     exact Ok.resH (vs := [.int .i64 x8l7]) (.inl rfl) rfl (.cons (.tmp rfl) .nil) (Gext.refl w0 g) ⟨x8l7, rfl, rfl, hF⟩
    ·replace hF := hF.2 hc5
     refine Ok.skip (Ok.blockN (Ok.thenN (Ok.region (Ok.bat 2 [0, 1, 7] [(8, .int .i64 (w6 (x8l7 + 1)))] ?_))))
     refine Ok.nil (Ok.thenN ?_)
     subst hg3
     exact fun a W hA hW => ⟨k7, Nat.lt_succ_self _, w6 (x8l7 + 1), hA.sub (by kernel_rfl), hW, hF⟩
   ·replace hF := hF.2 hc1
    refine Ok.exit (Ok.thenE (Ok.thenE (Ok.blockHit (Ok.thenN (Ok.seq (Ok.region (Ok.batch 1 [(4, .int .i64 (-1))] (by kernel_rfl) (Ok.nil (Ok.thenN (Ok.ret ?_))))))))))
    exact Ok.resH (vs := [.int .i64 (-1)]) (.inl rfl) rfl (.cons (.tmp rfl) .nil) (Gext.refl w0 g) ⟨(-1), rfl, rfl, hF⟩
def tixS (l : List (JT)) (f : JT → Bool) : Int := idxN f l 0
def tixP (l : List (JT)) (_ : JT → Bool) (p : JT → Prop) : Prop := l.length ≤ 1000000 ∧ ∀ y ∈ l, p y
theorem tix_F (l : List (JT)) (f : JT → Bool) (p : JT → Prop) (hp : tixP l f p) : tixF l f p (fun r => r = tixS l f) := by
 obtain ⟨hl, hp⟩ := hp
 have loop : ∀ (k i : Nat), i + k = l.length → tixS l f = idxN f (l.drop i) i → tixl7 l f p (fun r => r = tixS l f) (k + 1) (i : Int) := by
  intro k
  induction k with
  | zero =>
   intro i h h2
   rw [List.drop_of_length_le (by omega)] at h2
   exact ⟨fun h => by have := of_decide_eq_true h; omega, fun _ => h2.symm⟩
  | succ k ih =>
   intro i h h2
   rw [drop_get (l := l) default (by omega), idxN] at h2
   refine ⟨fun _ => ⟨by omega, by rw [Int.toNat_natCast]; omega, hp _ (mem_getD default (by rw [Int.toNat_natCast]; omega)), fun hc => ?_, fun hc => ?_⟩, fun h => by have := of_decide_eq_false h; omega⟩
   ·rw [Int.toNat_natCast] at hc
    rw [h2, if_t hc]
   ·rw [Int.toNat_natCast] at hc
    rw [if_f hc] at h2
    rw [w64 (by omega)]
    exact ih (i + 1) (by omega) h2
 exact ⟨_, loop l.length 0 (by omega) rfl⟩
theorem tix_c {g : Ghost} {axs_0 : Option Addr} {cxs_0 : Nat} (xs : List (Int × Int × Int × Int × Bs)) {vxf : Value} (xf : (Int × Int × Int × Int × Bs) → Bool) (pxf : (Int × Int × Int × Int × Bs) → Prop) (hRxs_0 : Rep g (.slice (.pair (.int .i64) (.pair (.int .i64) (.pair (.int .i64) (.pair (.int .i64) (.str)))))) [.slice axs_0 xs.length cxs_0] xs) (hfxf : ∀ (y0 : Int × Int × Int × Int × Bs), pxf y0 → FnG Try.prog vxf #[.agg #[.int .i64 y0.1, .int .i64 y0.2.1, .int .i64 y0.2.2.1, .int .i64 y0.2.2.2.1, sv y0.2.2.2.2]] g (.bool (xf y0)))  (hp : tixP xs xf pxf) : CallsG Try.prog 72 #[.slice axs_0 xs.length cxs_0, vxf] g (.int .i64 (tixS xs xf)) :=
 (tix_ok xs xf pxf hRxs_0 hfxf _ (tix_F xs xf pxf hp)).gives (by rintro g' H' v _ ⟨r0, rfl, rfl, hK⟩; subst hK; rfl)

def jclj4 (K : (List (JJ)) → Prop) (x0j4 : List (JJ)) (x4j4 : Bool) : Prop :=
 ((x4j4) = true → K ([] : List (JJ))) ∧ ((x4j4) = false → (([] : List (JJ)) ++ x0j4).length ≤ 1954687338268 ∧ K (([] : List (JJ)) ++ x0j4))
def jclF (xs : List (JJ)) (K : (List (JJ)) → Prop) : Prop :=
 (xs = [] → jclj4 K xs true) ∧ (jclj4 K xs false)
theorem jcl_ok {g : Ghost} {axs_0 : Option Addr} {cxs_0 : Nat} (xs : List (JJ)) (hRxs_0 : Rep g (.slice (.pair (.int .i64) (.pair (.int .i64) (.pair (.bool) (.pair (.str) (.pair (.int .i64) (.pair (.int .i64) (.str)))))))) [.slice axs_0 xs.length cxs_0] xs) (K : (List (JJ)) → Prop)
  (hF : jclF xs K) : CallsH Try.prog 54 #[.slice axs_0 xs.length cxs_0] g [] (fun g' H' v => ∃ (r0 : List (JJ)), ∃ (ar0 : Option Addr) (cr0 : Nat) (xsr0 : List Value), v = .slice ar0 r0.length cr0 ∧ RepL g' (.pair (.int .i64) (.pair (.int .i64) (.pair (.bool) (.pair (.str) (.pair (.int .i64) (.pair (.int .i64) (.str))))))) xsr0 r0 ∧ H' = [.own (.slice ar0 r0.length cr0) 43 7 r0.length xsr0] ∧ K r0) := by
 refine CallsH.enter 8 [(0, .slice axs_0 xs.length cxs_0)] Try.func54 rfl (by kernel_rfl) (by kernel_rfl) (by kernel_rfl) fun w0 => ?_
 refine Ok.seq (Ok.region (Ok.batch 1 [(0, .slice axs_0 xs.length cxs_0)] (by kernel_rfl) (Ok.nil (Ok.thenN (Ok.seq (Ok.cut (fun a W => ∃ gj4 : Ghost, Gext w0 g gj4 ∧ ∃ (ax0j4 : Option Addr) (cx0j4 : Nat) (x0j4 : List (JJ)) (x4j4 : Bool), Rep gj4 (.slice (.pair (.int .i64) (.pair (.int .i64) (.pair (.bool) (.pair (.str) (.pair (.int .i64) (.pair (.int .i64) (.str)))))))) [.slice ax0j4 x0j4.length cx0j4] x0j4 ∧ StA 8 [(0, .slice ax0j4 x0j4.length cx0j4), (4, .bool x4j4)] a ∧ StW w0 [] gj4 W ∧ jclj4 K x0j4 x4j4) ?_ ?_))))))
 ·
  refine Ok.region (Ok.bat 1 [0] [(3, .slice axs_0 xs.length cxs_0)] ?_)
  rcases optCases axs_0 with rfl | ⟨ad5, rfl⟩
  ·have hz5 := Rep.none_nil hRxs_0
   replace hF := hF.1 hz5
   refine Ok.op rfl (OpOk.step (v := .bool true) (Yields.eqNilAt rfl rfl Try.underlying34 (by kernel_rfl) rfl) rfl rfl (Ok.nil (Ok.thenN ?_)))
   exact fun a W hA hW => ⟨g, (Gext.refl w0 g), none, cxs_0, xs, true, hRxs_0, hA.sub (by kernel_rfl), hW, hF⟩
  ·replace hF := hF.2
   refine Ok.op rfl (OpOk.step (v := .bool false) (Yields.eqNilAt rfl rfl Try.underlying34 (by kernel_rfl) rfl) rfl rfl (Ok.nil (Ok.thenN ?_)))
   exact fun a W hA hW => ⟨g, (Gext.refl w0 g), (some ad5), cxs_0, xs, false, hRxs_0, hA.sub (by kernel_rfl), hW, hF⟩
 ·
  clear hF
  rintro a W ⟨gj4, hxj4, ax0j4, cx0j4, x0j4, x4j4, hRx0j4, hA, hW, hF⟩
  refine (?_ : Ok _ _ _ _ _ _) a W hA hW
  clear hA hW
  refine Ok.cond (b := x4j4) rfl (fun hc1 => ?_) (fun hc1 => ?_)
  ·replace hF := hF.1 hc1
   refine Ok.seq (Ok.region (Ok.batch 1 [(2, .slice none 0 0)] (by kernel_rfl) ?_))
   have hL2 : RepL gj4 (.pair (.int .i64) (.pair (.int .i64) (.pair (.bool) (.pair (.str) (.pair (.int .i64) (.pair (.int .i64) (.str))))))) [] [] := rfl
   refine Ok.ownNil 43 7 (Ok.nil (Ok.thenN (Ok.ret (Ok.thenR ?_))))
   exact Ok.resH (vs := [.slice none ([] : List (JJ)).length 0]) (.inl rfl) rfl (.cons (.tmp rfl) .nil) hxj4 ⟨([] : List (JJ)), none, 0, [], rfl, hL2, rfl, hF⟩
  ·replace hF := hF.2 hc1
   refine Ok.skip (Ok.thenN (Ok.seq (Ok.region ?_)))
   have hL3 : RepL gj4 (.pair (.int .i64) (.pair (.int .i64) (.pair (.bool) (.pair (.str) (.pair (.int .i64) (.pair (.int .i64) (.str))))))) ([] : List Value) ([] : List (JJ)) := rfl
   refine Ok.op rfl (OpOk.lit (E := 43) (.pair (.int .i64) (.pair (.int .i64) (.pair (.bool) (.pair (.str) (.pair (.int .i64) (.pair (.int .i64) (.str))))))) ([] : List (JJ)) ([] : List Value) (by kernel_rfl) (by kernel_rfl) rfl (by kernel_rfl) hL3 rfl fun b3 => ?_)
   refine Ok.batch 1 [(5, .slice (some ⟨b3, 0, none⟩) ([] : List (JJ)).length 0), (6, .slice ax0j4 x0j4.length cx0j4)] (by kernel_rfl) ?_
   obtain ⟨hb4, hF⟩ := hF
   refine Ok.op rfl (OpOk.appendRo (e := .pair (.int .i64) (.pair (.int .i64) (.pair (.bool) (.pair (.str) (.pair (.int .i64) (.pair (.int .i64) (.str))))))) 72 1954687338268 0 rfl rfl rfl hL3 hRx0j4 Try.underlying34 (by kernel_rfl) (by kernel_rfl) (by kernel_rfl) hb4 rfl fun a4 c4 xs4 hL4 => ?_)
   refine Ok.batch 1 [(2, .slice a4 (([] : List (JJ)) ++ x0j4).length c4)] (by kernel_rfl) (Ok.nil (Ok.thenN (Ok.ret ?_)))
   exact Ok.resH (vs := [.slice a4 (([] : List (JJ)) ++ x0j4).length c4]) (.inl rfl) rfl (.cons (.tmp rfl) .nil) hxj4 ⟨(([] : List (JJ)) ++ x0j4), a4, c4, xs4, rfl, hL4, rfl, hF⟩
def jclS (l : List (JJ)) : List (JJ) := l
def jclP (l : List (JJ)) : Prop := l.length ≤ 1000000
theorem jcl_F (l : List (JJ)) (hp : jclP l) : jclF l (fun r => r = jclS l) := by
 unfold jclP at hp
 refine ⟨fun h => ⟨fun _ => by rw [h]; rfl, (fun h => by cases h)⟩, ⟨(fun h => by cases h), fun _ => ⟨by rw [List.nil_append]; omega, by rw [List.nil_append]; rfl⟩⟩⟩
theorem jcl_c {g : Ghost} {axs_0 : Option Addr} {cxs_0 : Nat} (xs : List (Int × Int × Bool × Bs × Int × Int × Bs)) (hRxs_0 : Rep g (.slice (.pair (.int .i64) (.pair (.int .i64) (.pair (.bool) (.pair (.str) (.pair (.int .i64) (.pair (.int .i64) (.str)))))))) [.slice axs_0 xs.length cxs_0] xs)  (hp : jclP xs) : CallsH Try.prog 54 #[.slice axs_0 xs.length cxs_0] g [] (fun g' H' v => ∃ (ar0 : Option Addr) (cr0 : Nat) (xsr0 : List Value), v = .slice ar0 (jclS xs).length cr0 ∧ RepL g' (.pair (.int .i64) (.pair (.int .i64) (.pair (.bool) (.pair (.str) (.pair (.int .i64) (.pair (.int .i64) (.str))))))) xsr0 (jclS xs) ∧ H' = [.own (.slice ar0 (jclS xs).length cr0) 43 7 (jclS xs).length xsr0]) :=
 (jcl_ok xs hRxs_0 _ (jcl_F xs hp)).mono (by rintro g' H' v _ ⟨r0, ar0, cr0, xsr0, rfl, hLr0, rfl, hK⟩; subst hK; exact ⟨ar0, cr0, xsr0, rfl, hLr0, rfl⟩)

def tclj4 (K : (List (JT)) → Prop) (x0j4 : List (JT)) (x4j4 : Bool) : Prop :=
 ((x4j4) = true → K ([] : List (JT))) ∧ ((x4j4) = false → (([] : List (JT)) ++ x0j4).length ≤ 2932031007402 ∧ K (([] : List (JT)) ++ x0j4))
def tclF (xs : List (JT)) (K : (List (JT)) → Prop) : Prop :=
 (xs = [] → tclj4 K xs true) ∧ (tclj4 K xs false)
theorem tcl_ok {g : Ghost} {axs_0 : Option Addr} {cxs_0 : Nat} (xs : List (JT)) (hRxs_0 : Rep g (.slice (.pair (.int .i64) (.pair (.int .i64) (.pair (.int .i64) (.pair (.int .i64) (.str)))))) [.slice axs_0 xs.length cxs_0] xs) (K : (List (JT)) → Prop)
  (hF : tclF xs K) : CallsH Try.prog 69 #[.slice axs_0 xs.length cxs_0] g [] (fun g' H' v => ∃ (r0 : List (JT)), ∃ (ar0 : Option Addr) (cr0 : Nat) (xsr0 : List Value), v = .slice ar0 r0.length cr0 ∧ RepL g' (.pair (.int .i64) (.pair (.int .i64) (.pair (.int .i64) (.pair (.int .i64) (.str))))) xsr0 r0 ∧ H' = [.own (.slice ar0 r0.length cr0) 93 5 r0.length xsr0] ∧ K r0) := by
 refine CallsH.enter 8 [(0, .slice axs_0 xs.length cxs_0)] Try.func69 rfl (by kernel_rfl) (by kernel_rfl) (by kernel_rfl) fun w0 => ?_
 refine Ok.seq (Ok.region (Ok.batch 1 [(0, .slice axs_0 xs.length cxs_0)] (by kernel_rfl) (Ok.nil (Ok.thenN (Ok.seq (Ok.cut (fun a W => ∃ gj4 : Ghost, Gext w0 g gj4 ∧ ∃ (ax0j4 : Option Addr) (cx0j4 : Nat) (x0j4 : List (JT)) (x4j4 : Bool), Rep gj4 (.slice (.pair (.int .i64) (.pair (.int .i64) (.pair (.int .i64) (.pair (.int .i64) (.str)))))) [.slice ax0j4 x0j4.length cx0j4] x0j4 ∧ StA 8 [(0, .slice ax0j4 x0j4.length cx0j4), (4, .bool x4j4)] a ∧ StW w0 [] gj4 W ∧ tclj4 K x0j4 x4j4) ?_ ?_))))))
 ·
  refine Ok.region (Ok.bat 1 [0] [(3, .slice axs_0 xs.length cxs_0)] ?_)
  rcases optCases axs_0 with rfl | ⟨ad5, rfl⟩
  ·have hz5 := Rep.none_nil hRxs_0
   replace hF := hF.1 hz5
   refine Ok.op rfl (OpOk.step (v := .bool true) (Yields.eqNilAt rfl rfl Try.underlying35 (by kernel_rfl) rfl) rfl rfl (Ok.nil (Ok.thenN ?_)))
   exact fun a W hA hW => ⟨g, (Gext.refl w0 g), none, cxs_0, xs, true, hRxs_0, hA.sub (by kernel_rfl), hW, hF⟩
  ·replace hF := hF.2
   refine Ok.op rfl (OpOk.step (v := .bool false) (Yields.eqNilAt rfl rfl Try.underlying35 (by kernel_rfl) rfl) rfl rfl (Ok.nil (Ok.thenN ?_)))
   exact fun a W hA hW => ⟨g, (Gext.refl w0 g), (some ad5), cxs_0, xs, false, hRxs_0, hA.sub (by kernel_rfl), hW, hF⟩
 ·
  clear hF
  rintro a W ⟨gj4, hxj4, ax0j4, cx0j4, x0j4, x4j4, hRx0j4, hA, hW, hF⟩
  refine (?_ : Ok _ _ _ _ _ _) a W hA hW
  clear hA hW
  refine Ok.cond (b := x4j4) rfl (fun hc1 => ?_) (fun hc1 => ?_)
  ·replace hF := hF.1 hc1
   refine Ok.seq (Ok.region (Ok.batch 1 [(2, .slice none 0 0)] (by kernel_rfl) ?_))
   have hL2 : RepL gj4 (.pair (.int .i64) (.pair (.int .i64) (.pair (.int .i64) (.pair (.int .i64) (.str))))) [] [] := rfl
   refine Ok.ownNil 93 5 (Ok.nil (Ok.thenN (Ok.ret (Ok.thenR ?_))))
   exact Ok.resH (vs := [.slice none ([] : List (JT)).length 0]) (.inl rfl) rfl (.cons (.tmp rfl) .nil) hxj4 ⟨([] : List (JT)), none, 0, [], rfl, hL2, rfl, hF⟩
  ·replace hF := hF.2 hc1
   refine Ok.skip (Ok.thenN (Ok.seq (Ok.region ?_)))
   have hL3 : RepL gj4 (.pair (.int .i64) (.pair (.int .i64) (.pair (.int .i64) (.pair (.int .i64) (.str))))) ([] : List Value) ([] : List (JT)) := rfl
   refine Ok.op rfl (OpOk.lit (E := 93) (.pair (.int .i64) (.pair (.int .i64) (.pair (.int .i64) (.pair (.int .i64) (.str))))) ([] : List (JT)) ([] : List Value) (by kernel_rfl) (by kernel_rfl) rfl (by kernel_rfl) hL3 rfl fun b3 => ?_)
   refine Ok.batch 1 [(5, .slice (some ⟨b3, 0, none⟩) ([] : List (JT)).length 0), (6, .slice ax0j4 x0j4.length cx0j4)] (by kernel_rfl) ?_
   obtain ⟨hb4, hF⟩ := hF
   refine Ok.op rfl (OpOk.appendRo (e := .pair (.int .i64) (.pair (.int .i64) (.pair (.int .i64) (.pair (.int .i64) (.str))))) 48 2932031007402 0 rfl rfl rfl hL3 hRx0j4 Try.underlying35 (by kernel_rfl) (by kernel_rfl) (by kernel_rfl) hb4 rfl fun a4 c4 xs4 hL4 => ?_)
   refine Ok.batch 1 [(2, .slice a4 (([] : List (JT)) ++ x0j4).length c4)] (by kernel_rfl) (Ok.nil (Ok.thenN (Ok.ret ?_)))
   exact Ok.resH (vs := [.slice a4 (([] : List (JT)) ++ x0j4).length c4]) (.inl rfl) rfl (.cons (.tmp rfl) .nil) hxj4 ⟨(([] : List (JT)) ++ x0j4), a4, c4, xs4, rfl, hL4, rfl, hF⟩
def tclS (l : List (JT)) : List (JT) := l
def tclP (l : List (JT)) : Prop := l.length ≤ 1000000
theorem tcl_F (l : List (JT)) (hp : tclP l) : tclF l (fun r => r = tclS l) := by
 unfold tclP at hp
 refine ⟨fun h => ⟨fun _ => by rw [h]; rfl, (fun h => by cases h)⟩, ⟨(fun h => by cases h), fun _ => ⟨by rw [List.nil_append]; omega, by rw [List.nil_append]; rfl⟩⟩⟩
theorem tcl_c {g : Ghost} {axs_0 : Option Addr} {cxs_0 : Nat} (xs : List (Int × Int × Int × Int × Bs)) (hRxs_0 : Rep g (.slice (.pair (.int .i64) (.pair (.int .i64) (.pair (.int .i64) (.pair (.int .i64) (.str)))))) [.slice axs_0 xs.length cxs_0] xs)  (hp : tclP xs) : CallsH Try.prog 69 #[.slice axs_0 xs.length cxs_0] g [] (fun g' H' v => ∃ (ar0 : Option Addr) (cr0 : Nat) (xsr0 : List Value), v = .slice ar0 (tclS xs).length cr0 ∧ RepL g' (.pair (.int .i64) (.pair (.int .i64) (.pair (.int .i64) (.pair (.int .i64) (.str))))) xsr0 (tclS xs) ∧ H' = [.own (.slice ar0 (tclS xs).length cr0) 93 5 (tclS xs).length xsr0]) :=
 (tcl_ok xs hRxs_0 _ (tcl_F xs hp)).mono (by rintro g' H' v _ ⟨r0, ar0, cr0, xsr0, rfl, hLr0, rfl, hK⟩; subst hK; exact ⟨ar0, cr0, xsr0, rfl, hLr0, rfl⟩)

def jeql15b (xs1 : List (JJ)) (xs2 : List (JJ)) (K : Bool → Prop) (x13l15 : Int) (C15 : Int → Prop) : Prop :=
 ((decide (x13l15 < (xs1.length : Int))) = true → (0 : Int) ≤ x13l15 ∧ Int.toNat x13l15 < xs1.length ∧ (0 : Int) ≤ x13l15 ∧ Int.toNat x13l15 < xs2.length ∧ ((!([((xs1.getD (Int.toNat x13l15) default).1 == (xs2.getD (Int.toNat x13l15) default).1), ((xs1.getD (Int.toNat x13l15) default).2.1 == (xs2.getD (Int.toNat x13l15) default).2.1), ((xs1.getD (Int.toNat x13l15) default).2.2.1 == (xs2.getD (Int.toNat x13l15) default).2.2.1), ((xs1.getD (Int.toNat x13l15) default).2.2.2.1 == (xs2.getD (Int.toNat x13l15) default).2.2.2.1), ([((xs1.getD (Int.toNat x13l15) default).2.2.2.2.1 == (xs2.getD (Int.toNat x13l15) default).2.2.2.2.1), ((xs1.getD (Int.toNat x13l15) default).2.2.2.2.2.1 == (xs2.getD (Int.toNat x13l15) default).2.2.2.2.2.1), ((xs1.getD (Int.toNat x13l15) default).2.2.2.2.2.2 == (xs2.getD (Int.toNat x13l15) default).2.2.2.2.2.2)].all id)].all id)) = true → K false) ∧ ((!([((xs1.getD (Int.toNat x13l15) default).1 == (xs2.getD (Int.toNat x13l15) default).1), ((xs1.getD (Int.toNat x13l15) default).2.1 == (xs2.getD (Int.toNat x13l15) default).2.1), ((xs1.getD (Int.toNat x13l15) default).2.2.1 == (xs2.getD (Int.toNat x13l15) default).2.2.1), ((xs1.getD (Int.toNat x13l15) default).2.2.2.1 == (xs2.getD (Int.toNat x13l15) default).2.2.2.1), ([((xs1.getD (Int.toNat x13l15) default).2.2.2.2.1 == (xs2.getD (Int.toNat x13l15) default).2.2.2.2.1), ((xs1.getD (Int.toNat x13l15) default).2.2.2.2.2.1 == (xs2.getD (Int.toNat x13l15) default).2.2.2.2.2.1), ((xs1.getD (Int.toNat x13l15) default).2.2.2.2.2.2 == (xs2.getD (Int.toNat x13l15) default).2.2.2.2.2.2)].all id)].all id)) = false → C15 (w6 (x13l15 + 1)))) ∧ ((decide (x13l15 < (xs1.length : Int))) = false → K true)
def jeql15 (xs1 : List (JJ)) (xs2 : List (JJ)) (K : Bool → Prop) : Nat → Int → Prop
 | 0, _ => False
 | k + 1, x13l15 => jeql15b xs1 xs2 K x13l15 (jeql15 xs1 xs2 K k)
def jeqF (xs1 : List (JJ)) (xs2 : List (JJ)) (K : Bool → Prop) : Prop :=
 ((((xs1.length : Int) != (xs2.length : Int))) = true → K false) ∧ ((((xs1.length : Int) != (xs2.length : Int))) = false → ∃ k, jeql15 xs1 xs2 K k 0)
theorem jeq_ok {g : Ghost} {axs1_0 : Option Addr} {cxs1_0 : Nat} (xs1 : List (JJ)) {axs2_0 : Option Addr} {cxs2_0 : Nat} (xs2 : List (JJ)) (hRxs1_0 : Rep g (.slice (.pair (.int .i64) (.pair (.int .i64) (.pair (.bool) (.pair (.str) (.pair (.int .i64) (.pair (.int .i64) (.str)))))))) [.slice axs1_0 xs1.length cxs1_0] xs1) (hRxs2_0 : Rep g (.slice (.pair (.int .i64) (.pair (.int .i64) (.pair (.bool) (.pair (.str) (.pair (.int .i64) (.pair (.int .i64) (.str)))))))) [.slice axs2_0 xs2.length cxs2_0] xs2) (K : Bool → Prop)
  (hF : jeqF xs1 xs2 K) : CallsH Try.prog 23 #[.slice axs1_0 xs1.length cxs1_0, .slice axs2_0 xs2.length cxs2_0] g [] (fun g' H' v => ∃ (r0 : Bool), v = .bool r0 ∧ H' = [] ∧ K r0) := by
 refine CallsH.enter 26 [(0, .slice axs1_0 xs1.length cxs1_0), (1, .slice axs2_0 xs2.length cxs2_0)] Try.func23 rfl (by kernel_rfl) (by kernel_rfl) (by kernel_rfl) fun w0 => ?_
 refine Ok.seq (Ok.region (Ok.batch 1 [(0, .slice axs1_0 xs1.length cxs1_0), (1, .slice axs2_0 xs2.length cxs2_0)] (by kernel_rfl) (Ok.nil (Ok.thenN (Ok.seq (Ok.seq (Ok.region (Ok.bat 5 [0, 1] [(10, .bool ((xs1.length : Int) != (xs2.length : Int)))] ?_))))))))
 refine Ok.nil (Ok.thenN (Ok.cond (b := ((xs1.length : Int) != (xs2.length : Int))) rfl (fun hc1 => ?_) (fun hc1 => ?_)))
 ·replace hF := hF.1 hc1
  refine Ok.seq (Ok.region (Ok.batch 1 [(4, .bool false)] (by kernel_rfl) (Ok.nil (Ok.thenN (Ok.ret (Ok.thenR ?_))))))
  exact Ok.resH (vs := [.bool false]) (.inl rfl) rfl (.cons (.tmp rfl) .nil) (Gext.refl w0 g) ⟨false, rfl, rfl, hF⟩
 ·replace hF := hF.2 hc1
  refine Ok.skip (Ok.thenN (Ok.seq (Ok.seq (Ok.region (Ok.bat 3 [0, 1] [(12, .int .i64 (xs1.length : Int)), (13, .int .i64 0)] ?_)))))
  refine Ok.nil (Ok.thenN (Ok.block ?_))
  obtain ⟨k, hF⟩ := hF
  refine Ok.loop (fun k a W => ∃ (x13l15 : Int), StA 26 [(0, .slice axs1_0 xs1.length cxs1_0), (1, .slice axs2_0 xs2.length cxs2_0), (12, .int .i64 (xs1.length : Int)), (13, .int .i64 x13l15)] a ∧ StW w0 [] g W ∧ jeql15 xs1 xs2 K k x13l15) k ?_ ?_
  ·
   exact fun a W hA hW => ⟨0, hA.sub (by kernel_rfl), hW, hF⟩
  ·
   clear hF
   rintro k15 a W ⟨x13l15, hA, hW, hF⟩
   cases k15 with
   | zero => exact (hF : False).elim
   | succ k15 =>
    refine (?_ : Ok _ _ _ _ _ _) a W hA hW
    clear hA hW
    refine Ok.seq (Ok.region (Ok.bat 1 [0, 1, 12, 13] [(14, .bool (decide (x13l15 < (xs1.length : Int))))] ?_))
    refine Ok.nil (Ok.thenN (Ok.seq (Ok.cond (b := decide (x13l15 < (xs1.length : Int))) rfl (fun hc2 => ?_) (fun hc2 => ?_))))
    ·replace hF := hF.1 hc2
     refine Ok.skip (Ok.thenN (Ok.seq (Ok.block (Ok.seq (Ok.region (Ok.bat 2 [0, 1, 12, 13] [(5, .int .i64 x13l15)] ?_))))))
     refine Ok.nil (Ok.thenN (Ok.seq (Ok.quiet' (by kernel_rfl) (by kernel_rfl) (OkQ.bat 2 [0, 1, 5, 12, 13] [(16, .slice axs1_0 xs1.length cxs1_0), (17, .int .i64 x13l15)] ?_))))
     obtain ⟨h04, h14, hF⟩ := hF
     have he4 := get_of (l := xs1) (default : JJ) h14
     generalize hg4 : (xs1.getD (Int.toNat x13l15) default) = e4 at he4 hF ⊢
     refine OkQ.op rfl (OpQ.indexRo (e := .pair (.int .i64) (.pair (.int .i64) (.pair (.bool) (.pair (.str) (.pair (.int .i64) (.pair (.int .i64) (.str))))))) (i := x13l15) (el := e4) rfl rfl Try.underlying34 (by kernel_rfl) hRxs1_0 h04 he4 rfl fun q3 o3 cs3 _ hat3 hr3 => ?_)
     obtain ⟨_, _, rfl, rfl, ⟨_, _, rfl, rfl, ⟨_, _, rfl, rfl, ⟨_, _, rfl, rfl, ⟨_, _, rfl, rfl, ⟨_, _, rfl, rfl, rfl⟩⟩⟩⟩⟩⟩ := hr3
     replace hat3 : At g q3 o3 [.int .i64 e4.1, .int .i64 e4.2.1, .bool e4.2.2.1, sv e4.2.2.2.1, .int .i64 e4.2.2.2.2.1, .int .i64 e4.2.2.2.2.2.1, sv e4.2.2.2.2.2.2] := hat3
     refine OkQ.op rfl (OpQ.step (v := .agg #[.int .i64 e4.1, .int .i64 e4.2.1, .bool e4.2.2.1, sv e4.2.2.2.1, .int .i64 e4.2.2.2.2.1, .int .i64 e4.2.2.2.2.2.1, sv e4.2.2.2.2.2.2]) (Yields.loadAggRo 0 7 #[.int .i64 e4.1, .int .i64 e4.2.1, .bool e4.2.2.1, sv e4.2.2.2.1, .int .i64 e4.2.2.2.2.1, .int .i64 e4.2.2.2.2.2.1, sv e4.2.2.2.2.2.2] hat3 (by kernel_rfl) Try.underlying43 rfl (by kernel_rfl) (by kernel_rfl) (by kernel_rfl)) rfl rfl (OkQ.bat 2 [0, 1, 12, 13] [(19, .agg #[.int .i64 e4.1, .int .i64 e4.2.1, .bool e4.2.2.1, sv e4.2.2.2.1, .int .i64 e4.2.2.2.2.1, .int .i64 e4.2.2.2.2.2.1, sv e4.2.2.2.2.2.2]), (20, .slice axs2_0 xs2.length cxs2_0), (21, .int .i64 x13l15)] ?_))
     obtain ⟨h06, h16, hF⟩ := hF
     have he6 := get_of (l := xs2) (default : JJ) h16
     generalize hg6 : (xs2.getD (Int.toNat x13l15) default) = e6 at he6 hF ⊢
     refine OkQ.op rfl (OpQ.indexRo (e := .pair (.int .i64) (.pair (.int .i64) (.pair (.bool) (.pair (.str) (.pair (.int .i64) (.pair (.int .i64) (.str))))))) (i := x13l15) (el := e6) rfl rfl Try.underlying34 (by kernel_rfl) hRxs2_0 h06 he6 rfl fun q5 o5 cs5 _ hat5 hr5 => ?_)
     obtain ⟨_, _, rfl, rfl, ⟨_, _, rfl, rfl, ⟨_, _, rfl, rfl, ⟨_, _, rfl, rfl, ⟨_, _, rfl, rfl, ⟨_, _, rfl, rfl, rfl⟩⟩⟩⟩⟩⟩ := hr5
     replace hat5 : At g q5 o5 [.int .i64 e6.1, .int .i64 e6.2.1, .bool e6.2.2.1, sv e6.2.2.2.1, .int .i64 e6.2.2.2.2.1, .int .i64 e6.2.2.2.2.2.1, sv e6.2.2.2.2.2.2] := hat5
     refine OkQ.op rfl (OpQ.step (v := .agg #[.int .i64 e6.1, .int .i64 e6.2.1, .bool e6.2.2.1, sv e6.2.2.2.1, .int .i64 e6.2.2.2.2.1, .int .i64 e6.2.2.2.2.2.1, sv e6.2.2.2.2.2.2]) (Yields.loadAggRo 0 7 #[.int .i64 e6.1, .int .i64 e6.2.1, .bool e6.2.2.1, sv e6.2.2.2.1, .int .i64 e6.2.2.2.2.1, .int .i64 e6.2.2.2.2.2.1, sv e6.2.2.2.2.2.2] hat5 (by kernel_rfl) Try.underlying43 rfl (by kernel_rfl) (by kernel_rfl) (by kernel_rfl)) rfl rfl (OkQ.op rfl (OpQ.step (v := .bool (!([(e4.1 == e6.1), (e4.2.1 == e6.2.1), (e4.2.2.1 == e6.2.2.1), (e4.2.2.2.1 == e6.2.2.2.1), ([(e4.2.2.2.2.1 == e6.2.2.2.2.1), (e4.2.2.2.2.2.1 == e6.2.2.2.2.2.1), (e4.2.2.2.2.2.2 == e6.2.2.2.2.2.2)].all id)].all id))) (Yields.neAgg (k := 3) rfl rfl (.struct (k := 2) Try.underlying43 (by kernel_rfl) ⟨by decide, ⟨.int .i64 e4.1, .int .i64 e6.1, fun _ => by kernel_rfl, fun _ => by kernel_rfl, EqR.mono (k := 1) (.int Try.underlying3) (by decide)⟩, ⟨by decide, ⟨.int .i64 e4.2.1, .int .i64 e6.2.1, fun _ => by kernel_rfl, fun _ => by kernel_rfl, EqR.mono (k := 1) (.int Try.underlying3) (by decide)⟩, ⟨by decide, ⟨.bool e4.2.2.1, .bool e6.2.2.1, fun _ => by kernel_rfl, fun _ => by kernel_rfl, EqR.mono (k := 1) (.bool Try.underlying4) (by decide)⟩, ⟨by decide, ⟨sv e4.2.2.2.1, sv e6.2.2.2.1, fun _ => by kernel_rfl, fun _ => by kernel_rfl, EqR.mono (k := 1) (.str Try.underlying9) (by decide)⟩, ⟨by decide, ⟨.agg #[.int .i64 e4.2.2.2.2.1, .int .i64 e4.2.2.2.2.2.1, sv e4.2.2.2.2.2.2], .agg #[.int .i64 e6.2.2.2.2.1, .int .i64 e6.2.2.2.2.2.1, sv e6.2.2.2.2.2.2], fun _ => by kernel_rfl, fun _ => by kernel_rfl, EqR.mono (k := 2) (.struct (k := 1) Try.underlying24 (by kernel_rfl) ⟨by decide, ⟨.int .i64 e4.2.2.2.2.1, .int .i64 e6.2.2.2.2.1, fun _ => by kernel_rfl, fun _ => by kernel_rfl, EqR.mono (k := 1) (.int Try.underlying3) (by decide)⟩, ⟨by decide, ⟨.int .i64 e4.2.2.2.2.2.1, .int .i64 e6.2.2.2.2.2.1, fun _ => by kernel_rfl, fun _ => by kernel_rfl, EqR.mono (k := 1) (.int Try.underlying3) (by decide)⟩, ⟨by decide, ⟨sv e4.2.2.2.2.2.2, sv e6.2.2.2.2.2.2, fun _ => by kernel_rfl, fun _ => by kernel_rfl, EqR.mono (k := 1) (.str Try.underlying9) (by decide)⟩, trivial⟩⟩⟩) (by decide)⟩, trivial⟩⟩⟩⟩⟩) rfl (by kernel_rfl)) rfl rfl ?_)))
     refine OkQ.nil (Ok.thenN (Ok.cond (b := !([(e4.1 == e6.1), (e4.2.1 == e6.2.1), (e4.2.2.1 == e6.2.2.1), (e4.2.2.2.1 == e6.2.2.2.1), ([(e4.2.2.2.2.1 == e6.2.2.2.2.1), (e4.2.2.2.2.2.1 == e6.2.2.2.2.2.1), (e4.2.2.2.2.2.2 == e6.2.2.2.2.2.2)].all id)].all id)) rfl (fun hc7 => ?_) (fun hc7 => ?_)))
     ·replace hF := hF.1 hc7
      refine Ok.seq (Ok.region (Ok.batch 1 [(4, .bool false)] (by kernel_rfl) (Ok.nil (Ok.thenN (Ok.ret (Ok.blockR (Ok.thenR (Ok.thenR (Ok.blockR (Ok.thenR ?_))))))))))
      exact Ok.resH (vs := [.bool false]) (.inl rfl) rfl (.cons (.tmp rfl) .nil) (Gext.refl w0 g) ⟨false, rfl, rfl, hF⟩
     ·replace hF := hF.2 hc7
      refine Ok.skip (Ok.blockN (Ok.thenN (Ok.region (Ok.bat 2 [0, 1, 12] [(13, .int .i64 (w6 (x13l15 + 1)))] ?_))))
      refine Ok.nil (Ok.thenN ?_)
      subst hg6
      subst hg4
      exact fun a W hA hW => ⟨k15, Nat.lt_succ_self _, w6 (x13l15 + 1), hA.sub (by kernel_rfl), hW, hF⟩
    ·replace hF := hF.2 hc2
     refine Ok.exit (Ok.thenE (Ok.thenE (Ok.blockHit (Ok.thenN (Ok.seq (Ok.region (Ok.batch 1 [(4, .bool true)] (by kernel_rfl) (Ok.nil (Ok.thenN (Ok.ret ?_))))))))))
     exact Ok.resH (vs := [.bool true]) (.inl rfl) rfl (.cons (.tmp rfl) .nil) (Gext.refl w0 g) ⟨true, rfl, rfl, hF⟩
def jeqS (a b : List (JJ)) : Bool := a == b
def jeqP (a b : List (JJ)) : Prop := a.length ≤ 1000000 ∧ b.length ≤ 1000000
theorem jeq_F (p q : List (JJ)) (hp : jeqP p q) : jeqF p q (fun r => r = jeqS p q) := by
 obtain ⟨hp1, hp2⟩ := hp
 unfold jeqS
 refine ⟨fun h => ?_, fun h => ?_⟩
 ·have h : p.length ≠ q.length := by rw [bne_iff_ne] at h; omega
  have : (p == q) = false := by
   rw [beq_eq_false_iff_ne]
   intro h2; exact h (congrArg List.length h2)
  rw [this]
 ·have hlen : p.length = q.length := by
   rw [bne_eq_false_iff_eq] at h; omega
  have loop : ∀ (k i : Nat), i + k = p.length → (p == q) = (p.drop i == q.drop i) → jeql15 p q (fun r => r = (p == q)) (k + 1) (i : Int) := by
   intro k
   induction k with
   | zero =>
    intro i h1 he
    rw [List.drop_of_length_le (by omega), List.drop_of_length_le (by omega)] at he
    exact ⟨fun h => by have := of_decide_eq_true h; omega, fun _ => by rw [he]; rfl⟩
   | succ k ih =>
    intro i h1 he
    have hi : i < p.length := by omega
    rw [drop_get (l := p) default hi, drop_get (l := q) default (by omega)] at he
    refine ⟨fun _ => ?_, fun h => by have := of_decide_eq_false h; omega⟩
    rw [Int.toNat_natCast]
    have hd : ∀ x y : JJ, [x.1 == y.1, x.2.1 == y.2.1, x.2.2.1 == y.2.2.1, x.2.2.2.1 == y.2.2.2.1, ([x.2.2.2.2.1 == y.2.2.2.2.1, x.2.2.2.2.2.1 == y.2.2.2.2.2.1, x.2.2.2.2.2.2 == y.2.2.2.2.2.2].all id)].all id = (x == y) := fun x y => by
     simp only [List.all_cons, List.all_nil, id, Bool.and_true]; rfl
    rw [hd]
    refine ⟨by omega, by omega, by omega, by omega, fun h => ?_, fun h => ?_⟩
    ·have h : (p.getD i default == q.getD i default) = false := by rw [Bool.not_eq_true'] at h; exact h
     rw [he, List.cons_beq_cons, h]; rfl
    ·have h : (p.getD i default == q.getD i default) = true := by rw [Bool.not_eq_false'] at h; exact h
     rw [w64 (by omega)]
     refine ih (i + 1) (by omega) ?_
     rw [he, List.cons_beq_cons, h]; rfl
  exact ⟨_, loop p.length 0 (by omega) rfl⟩
theorem jeq_c {g : Ghost} {axs1_0 : Option Addr} {cxs1_0 : Nat} (xs1 : List (Int × Int × Bool × Bs × Int × Int × Bs)) {axs2_0 : Option Addr} {cxs2_0 : Nat} (xs2 : List (Int × Int × Bool × Bs × Int × Int × Bs)) (hRxs1_0 : Rep g (.slice (.pair (.int .i64) (.pair (.int .i64) (.pair (.bool) (.pair (.str) (.pair (.int .i64) (.pair (.int .i64) (.str)))))))) [.slice axs1_0 xs1.length cxs1_0] xs1) (hRxs2_0 : Rep g (.slice (.pair (.int .i64) (.pair (.int .i64) (.pair (.bool) (.pair (.str) (.pair (.int .i64) (.pair (.int .i64) (.str)))))))) [.slice axs2_0 xs2.length cxs2_0] xs2)  (hp : jeqP xs1 xs2) : CallsG Try.prog 23 #[.slice axs1_0 xs1.length cxs1_0, .slice axs2_0 xs2.length cxs2_0] g (.bool (jeqS xs1 xs2)) :=
 (jeq_ok xs1 xs2 hRxs1_0 hRxs2_0 _ (jeq_F xs1 xs2 hp)).gives (by rintro g' H' v _ ⟨r0, rfl, rfl, hK⟩; subst hK; rfl)

def teql15b (xs1 : List (JT)) (xs2 : List (JT)) (K : Bool → Prop) (x13l15 : Int) (C15 : Int → Prop) : Prop :=
 ((decide (x13l15 < (xs1.length : Int))) = true → (0 : Int) ≤ x13l15 ∧ Int.toNat x13l15 < xs1.length ∧ (0 : Int) ≤ x13l15 ∧ Int.toNat x13l15 < xs2.length ∧ ((!([((xs1.getD (Int.toNat x13l15) default).1 == (xs2.getD (Int.toNat x13l15) default).1), ((xs1.getD (Int.toNat x13l15) default).2.1 == (xs2.getD (Int.toNat x13l15) default).2.1), ((xs1.getD (Int.toNat x13l15) default).2.2.1 == (xs2.getD (Int.toNat x13l15) default).2.2.1), ((xs1.getD (Int.toNat x13l15) default).2.2.2.1 == (xs2.getD (Int.toNat x13l15) default).2.2.2.1), ((xs1.getD (Int.toNat x13l15) default).2.2.2.2 == (xs2.getD (Int.toNat x13l15) default).2.2.2.2)].all id)) = true → K false) ∧ ((!([((xs1.getD (Int.toNat x13l15) default).1 == (xs2.getD (Int.toNat x13l15) default).1), ((xs1.getD (Int.toNat x13l15) default).2.1 == (xs2.getD (Int.toNat x13l15) default).2.1), ((xs1.getD (Int.toNat x13l15) default).2.2.1 == (xs2.getD (Int.toNat x13l15) default).2.2.1), ((xs1.getD (Int.toNat x13l15) default).2.2.2.1 == (xs2.getD (Int.toNat x13l15) default).2.2.2.1), ((xs1.getD (Int.toNat x13l15) default).2.2.2.2 == (xs2.getD (Int.toNat x13l15) default).2.2.2.2)].all id)) = false → C15 (w6 (x13l15 + 1)))) ∧ ((decide (x13l15 < (xs1.length : Int))) = false → K true)
def teql15 (xs1 : List (JT)) (xs2 : List (JT)) (K : Bool → Prop) : Nat → Int → Prop
 | 0, _ => False
 | k + 1, x13l15 => teql15b xs1 xs2 K x13l15 (teql15 xs1 xs2 K k)
def teqF (xs1 : List (JT)) (xs2 : List (JT)) (K : Bool → Prop) : Prop :=
 ((((xs1.length : Int) != (xs2.length : Int))) = true → K false) ∧ ((((xs1.length : Int) != (xs2.length : Int))) = false → ∃ k, teql15 xs1 xs2 K k 0)
theorem teq_ok {g : Ghost} {axs1_0 : Option Addr} {cxs1_0 : Nat} (xs1 : List (JT)) {axs2_0 : Option Addr} {cxs2_0 : Nat} (xs2 : List (JT)) (hRxs1_0 : Rep g (.slice (.pair (.int .i64) (.pair (.int .i64) (.pair (.int .i64) (.pair (.int .i64) (.str)))))) [.slice axs1_0 xs1.length cxs1_0] xs1) (hRxs2_0 : Rep g (.slice (.pair (.int .i64) (.pair (.int .i64) (.pair (.int .i64) (.pair (.int .i64) (.str)))))) [.slice axs2_0 xs2.length cxs2_0] xs2) (K : Bool → Prop)
  (hF : teqF xs1 xs2 K) : CallsH Try.prog 51 #[.slice axs1_0 xs1.length cxs1_0, .slice axs2_0 xs2.length cxs2_0] g [] (fun g' H' v => ∃ (r0 : Bool), v = .bool r0 ∧ H' = [] ∧ K r0) := by
 refine CallsH.enter 26 [(0, .slice axs1_0 xs1.length cxs1_0), (1, .slice axs2_0 xs2.length cxs2_0)] Try.func51 rfl (by kernel_rfl) (by kernel_rfl) (by kernel_rfl) fun w0 => ?_
 refine Ok.seq (Ok.region (Ok.batch 1 [(0, .slice axs1_0 xs1.length cxs1_0), (1, .slice axs2_0 xs2.length cxs2_0)] (by kernel_rfl) (Ok.nil (Ok.thenN (Ok.seq (Ok.seq (Ok.region (Ok.bat 5 [0, 1] [(10, .bool ((xs1.length : Int) != (xs2.length : Int)))] ?_))))))))
 refine Ok.nil (Ok.thenN (Ok.cond (b := ((xs1.length : Int) != (xs2.length : Int))) rfl (fun hc1 => ?_) (fun hc1 => ?_)))
 ·replace hF := hF.1 hc1
  refine Ok.seq (Ok.region (Ok.batch 1 [(4, .bool false)] (by kernel_rfl) (Ok.nil (Ok.thenN (Ok.ret (Ok.thenR ?_))))))
  exact Ok.resH (vs := [.bool false]) (.inl rfl) rfl (.cons (.tmp rfl) .nil) (Gext.refl w0 g) ⟨false, rfl, rfl, hF⟩
 ·replace hF := hF.2 hc1
  refine Ok.skip (Ok.thenN (Ok.seq (Ok.seq (Ok.region (Ok.bat 3 [0, 1] [(12, .int .i64 (xs1.length : Int)), (13, .int .i64 0)] ?_)))))
  refine Ok.nil (Ok.thenN (Ok.block ?_))
  obtain ⟨k, hF⟩ := hF
  refine Ok.loop (fun k a W => ∃ (x13l15 : Int), StA 26 [(0, .slice axs1_0 xs1.length cxs1_0), (1, .slice axs2_0 xs2.length cxs2_0), (12, .int .i64 (xs1.length : Int)), (13, .int .i64 x13l15)] a ∧ StW w0 [] g W ∧ teql15 xs1 xs2 K k x13l15) k ?_ ?_
  ·
   exact fun a W hA hW => ⟨0, hA.sub (by kernel_rfl), hW, hF⟩
  ·
   clear hF
   rintro k15 a W ⟨x13l15, hA, hW, hF⟩
   cases k15 with
   | zero => exact (hF : False).elim
   | succ k15 =>
    refine (?_ : Ok _ _ _ _ _ _) a W hA hW
    clear hA hW
    refine Ok.seq (Ok.region (Ok.bat 1 [0, 1, 12, 13] [(14, .bool (decide (x13l15 < (xs1.length : Int))))] ?_))
    refine Ok.nil (Ok.thenN (Ok.seq (Ok.cond (b := decide (x13l15 < (xs1.length : Int))) rfl (fun hc2 => ?_) (fun hc2 => ?_))))
    ·replace hF := hF.1 hc2
     refine Ok.skip (Ok.thenN (Ok.seq (Ok.block (Ok.seq (Ok.region (Ok.bat 2 [0, 1, 12, 13] [(5, .int .i64 x13l15)] ?_))))))
     refine Ok.nil (Ok.thenN (Ok.seq (Ok.quiet' (by kernel_rfl) (by kernel_rfl) (OkQ.bat 2 [0, 1, 5, 12, 13] [(16, .slice axs1_0 xs1.length cxs1_0), (17, .int .i64 x13l15)] ?_))))
     obtain ⟨h04, h14, hF⟩ := hF
     have he4 := get_of (l := xs1) (default : JT) h14
     generalize hg4 : (xs1.getD (Int.toNat x13l15) default) = e4 at he4 hF ⊢
     refine OkQ.op rfl (OpQ.indexRo (e := .pair (.int .i64) (.pair (.int .i64) (.pair (.int .i64) (.pair (.int .i64) (.str))))) (i := x13l15) (el := e4) rfl rfl Try.underlying35 (by kernel_rfl) hRxs1_0 h04 he4 rfl fun q3 o3 cs3 _ hat3 hr3 => ?_)
     obtain ⟨_, _, rfl, rfl, ⟨_, _, rfl, rfl, ⟨_, _, rfl, rfl, ⟨_, _, rfl, rfl, rfl⟩⟩⟩⟩ := hr3
     replace hat3 : At g q3 o3 [.int .i64 e4.1, .int .i64 e4.2.1, .int .i64 e4.2.2.1, .int .i64 e4.2.2.2.1, sv e4.2.2.2.2] := hat3
     refine OkQ.op rfl (OpQ.step (v := .agg #[.int .i64 e4.1, .int .i64 e4.2.1, .int .i64 e4.2.2.1, .int .i64 e4.2.2.2.1, sv e4.2.2.2.2]) (Yields.loadAggRo 0 5 #[.int .i64 e4.1, .int .i64 e4.2.1, .int .i64 e4.2.2.1, .int .i64 e4.2.2.2.1, sv e4.2.2.2.2] hat3 (by kernel_rfl) Try.underlying93 rfl (by kernel_rfl) (by kernel_rfl) (by kernel_rfl)) rfl rfl (OkQ.bat 2 [0, 1, 12, 13] [(19, .agg #[.int .i64 e4.1, .int .i64 e4.2.1, .int .i64 e4.2.2.1, .int .i64 e4.2.2.2.1, sv e4.2.2.2.2]), (20, .slice axs2_0 xs2.length cxs2_0), (21, .int .i64 x13l15)] ?_))
     obtain ⟨h06, h16, hF⟩ := hF
     have he6 := get_of (l := xs2) (default : JT) h16
     generalize hg6 : (xs2.getD (Int.toNat x13l15) default) = e6 at he6 hF ⊢
     refine OkQ.op rfl (OpQ.indexRo (e := .pair (.int .i64) (.pair (.int .i64) (.pair (.int .i64) (.pair (.int .i64) (.str))))) (i := x13l15) (el := e6) rfl rfl Try.underlying35 (by kernel_rfl) hRxs2_0 h06 he6 rfl fun q5 o5 cs5 _ hat5 hr5 => ?_)
     obtain ⟨_, _, rfl, rfl, ⟨_, _, rfl, rfl, ⟨_, _, rfl, rfl, ⟨_, _, rfl, rfl, rfl⟩⟩⟩⟩ := hr5
     replace hat5 : At g q5 o5 [.int .i64 e6.1, .int .i64 e6.2.1, .int .i64 e6.2.2.1, .int .i64 e6.2.2.2.1, sv e6.2.2.2.2] := hat5
     refine OkQ.op rfl (OpQ.step (v := .agg #[.int .i64 e6.1, .int .i64 e6.2.1, .int .i64 e6.2.2.1, .int .i64 e6.2.2.2.1, sv e6.2.2.2.2]) (Yields.loadAggRo 0 5 #[.int .i64 e6.1, .int .i64 e6.2.1, .int .i64 e6.2.2.1, .int .i64 e6.2.2.2.1, sv e6.2.2.2.2] hat5 (by kernel_rfl) Try.underlying93 rfl (by kernel_rfl) (by kernel_rfl) (by kernel_rfl)) rfl rfl (OkQ.op rfl (OpQ.step (v := .bool (!([(e4.1 == e6.1), (e4.2.1 == e6.2.1), (e4.2.2.1 == e6.2.2.1), (e4.2.2.2.1 == e6.2.2.2.1), (e4.2.2.2.2 == e6.2.2.2.2)].all id))) (Yields.neAgg (k := 2) rfl rfl (.struct (k := 1) Try.underlying93 (by kernel_rfl) ⟨by decide, ⟨.int .i64 e4.1, .int .i64 e6.1, fun _ => by kernel_rfl, fun _ => by kernel_rfl, EqR.mono (k := 1) (.int Try.underlying3) (by decide)⟩, ⟨by decide, ⟨.int .i64 e4.2.1, .int .i64 e6.2.1, fun _ => by kernel_rfl, fun _ => by kernel_rfl, EqR.mono (k := 1) (.int Try.underlying3) (by decide)⟩, ⟨by decide, ⟨.int .i64 e4.2.2.1, .int .i64 e6.2.2.1, fun _ => by kernel_rfl, fun _ => by kernel_rfl, EqR.mono (k := 1) (.int Try.underlying3) (by decide)⟩, ⟨by decide, ⟨.int .i64 e4.2.2.2.1, .int .i64 e6.2.2.2.1, fun _ => by kernel_rfl, fun _ => by kernel_rfl, EqR.mono (k := 1) (.int Try.underlying3) (by decide)⟩, ⟨by decide, ⟨sv e4.2.2.2.2, sv e6.2.2.2.2, fun _ => by kernel_rfl, fun _ => by kernel_rfl, EqR.mono (k := 1) (.str Try.underlying9) (by decide)⟩, trivial⟩⟩⟩⟩⟩) rfl (by kernel_rfl)) rfl rfl ?_)))
     refine OkQ.nil (Ok.thenN (Ok.cond (b := !([(e4.1 == e6.1), (e4.2.1 == e6.2.1), (e4.2.2.1 == e6.2.2.1), (e4.2.2.2.1 == e6.2.2.2.1), (e4.2.2.2.2 == e6.2.2.2.2)].all id)) rfl (fun hc7 => ?_) (fun hc7 => ?_)))
     ·replace hF := hF.1 hc7
      refine Ok.seq (Ok.region (Ok.batch 1 [(4, .bool false)] (by kernel_rfl) (Ok.nil (Ok.thenN (Ok.ret (Ok.blockR (Ok.thenR (Ok.thenR (Ok.blockR (Ok.thenR ?_))))))))))
      exact Ok.resH (vs := [.bool false]) (.inl rfl) rfl (.cons (.tmp rfl) .nil) (Gext.refl w0 g) ⟨false, rfl, rfl, hF⟩
     ·replace hF := hF.2 hc7
      refine Ok.skip (Ok.blockN (Ok.thenN (Ok.region (Ok.bat 2 [0, 1, 12] [(13, .int .i64 (w6 (x13l15 + 1)))] ?_))))
      refine Ok.nil (Ok.thenN ?_)
      subst hg6
      subst hg4
      exact fun a W hA hW => ⟨k15, Nat.lt_succ_self _, w6 (x13l15 + 1), hA.sub (by kernel_rfl), hW, hF⟩
    ·replace hF := hF.2 hc2
     refine Ok.exit (Ok.thenE (Ok.thenE (Ok.blockHit (Ok.thenN (Ok.seq (Ok.region (Ok.batch 1 [(4, .bool true)] (by kernel_rfl) (Ok.nil (Ok.thenN (Ok.ret ?_))))))))))
     exact Ok.resH (vs := [.bool true]) (.inl rfl) rfl (.cons (.tmp rfl) .nil) (Gext.refl w0 g) ⟨true, rfl, rfl, hF⟩
def teqS (a b : List (JT)) : Bool := a == b
def teqP (a b : List (JT)) : Prop := a.length ≤ 1000000 ∧ b.length ≤ 1000000
theorem teq_F (p q : List (JT)) (hp : teqP p q) : teqF p q (fun r => r = teqS p q) := by
 obtain ⟨hp1, hp2⟩ := hp
 unfold teqS
 refine ⟨fun h => ?_, fun h => ?_⟩
 ·have h : p.length ≠ q.length := by rw [bne_iff_ne] at h; omega
  have : (p == q) = false := by
   rw [beq_eq_false_iff_ne]
   intro h2; exact h (congrArg List.length h2)
  rw [this]
 ·have hlen : p.length = q.length := by
   rw [bne_eq_false_iff_eq] at h; omega
  have loop : ∀ (k i : Nat), i + k = p.length → (p == q) = (p.drop i == q.drop i) → teql15 p q (fun r => r = (p == q)) (k + 1) (i : Int) := by
   intro k
   induction k with
   | zero =>
    intro i h1 he
    rw [List.drop_of_length_le (by omega), List.drop_of_length_le (by omega)] at he
    exact ⟨fun h => by have := of_decide_eq_true h; omega, fun _ => by rw [he]; rfl⟩
   | succ k ih =>
    intro i h1 he
    have hi : i < p.length := by omega
    rw [drop_get (l := p) default hi, drop_get (l := q) default (by omega)] at he
    refine ⟨fun _ => ?_, fun h => by have := of_decide_eq_false h; omega⟩
    rw [Int.toNat_natCast]
    have hd : ∀ x y : JT, [x.1 == y.1, x.2.1 == y.2.1, x.2.2.1 == y.2.2.1, x.2.2.2.1 == y.2.2.2.1, x.2.2.2.2 == y.2.2.2.2].all id = (x == y) := fun x y => by
     simp only [List.all_cons, List.all_nil, id, Bool.and_true]; rfl
    rw [hd]
    refine ⟨by omega, by omega, by omega, by omega, fun h => ?_, fun h => ?_⟩
    ·have h : (p.getD i default == q.getD i default) = false := by rw [Bool.not_eq_true'] at h; exact h
     rw [he, List.cons_beq_cons, h]; rfl
    ·have h : (p.getD i default == q.getD i default) = true := by rw [Bool.not_eq_false'] at h; exact h
     rw [w64 (by omega)]
     refine ih (i + 1) (by omega) ?_
     rw [he, List.cons_beq_cons, h]; rfl
  exact ⟨_, loop p.length 0 (by omega) rfl⟩
theorem teq_c {g : Ghost} {axs1_0 : Option Addr} {cxs1_0 : Nat} (xs1 : List (Int × Int × Int × Int × Bs)) {axs2_0 : Option Addr} {cxs2_0 : Nat} (xs2 : List (Int × Int × Int × Int × Bs)) (hRxs1_0 : Rep g (.slice (.pair (.int .i64) (.pair (.int .i64) (.pair (.int .i64) (.pair (.int .i64) (.str)))))) [.slice axs1_0 xs1.length cxs1_0] xs1) (hRxs2_0 : Rep g (.slice (.pair (.int .i64) (.pair (.int .i64) (.pair (.int .i64) (.pair (.int .i64) (.str)))))) [.slice axs2_0 xs2.length cxs2_0] xs2)  (hp : teqP xs1 xs2) : CallsG Try.prog 51 #[.slice axs1_0 xs1.length cxs1_0, .slice axs2_0 xs2.length cxs2_0] g (.bool (teqS xs1 xs2)) :=
 (teq_ok xs1 xs2 hRxs1_0 hRxs2_0 _ (teq_F xs1 xs2 hp)).gives (by rintro g' H' v _ ⟨r0, rfl, rfl, hK⟩; subst hK; rfl)

def kixl7b (xs : List (Int × Int × Int × Bs × Int × Int × Bs)) (xf : (Int × Int × Int × Bs × Int × Int × Bs) → Bool) (pxf : (Int × Int × Int × Bs × Int × Int × Bs) → Prop) (K : Int → Prop) (x8l7 : Int) (C7 : Int → Prop) : Prop :=
 ((decide (x8l7 < (xs.length : Int))) = true → (0 : Int) ≤ x8l7 ∧ Int.toNat x8l7 < xs.length ∧ pxf (xs.getD (Int.toNat x8l7) default) ∧ (((xf (xs.getD (Int.toNat x8l7) default))) = true → K x8l7) ∧ (((xf (xs.getD (Int.toNat x8l7) default))) = false → C7 (w6 (x8l7 + 1)))) ∧ ((decide (x8l7 < (xs.length : Int))) = false → K (-1))
def kixl7 (xs : List (Int × Int × Int × Bs × Int × Int × Bs)) (xf : (Int × Int × Int × Bs × Int × Int × Bs) → Bool) (pxf : (Int × Int × Int × Bs × Int × Int × Bs) → Prop) (K : Int → Prop) : Nat → Int → Prop
 | 0, _ => False
 | k + 1, x8l7 => kixl7b xs xf pxf K x8l7 (kixl7 xs xf pxf K k)
def kixF (xs : List (Int × Int × Int × Bs × Int × Int × Bs)) (xf : (Int × Int × Int × Bs × Int × Int × Bs) → Bool) (pxf : (Int × Int × Int × Bs × Int × Int × Bs) → Prop) (K : Int → Prop) : Prop :=
 ∃ k, kixl7 xs xf pxf K k 0
theorem kix_ok {g : Ghost} {axs_0 : Option Addr} {cxs_0 : Nat} (xs : List (Int × Int × Int × Bs × Int × Int × Bs)) {vxf : Value} (xf : (Int × Int × Int × Bs × Int × Int × Bs) → Bool) (pxf : (Int × Int × Int × Bs × Int × Int × Bs) → Prop) (hRxs_0 : Rep g (.slice (.pair (.int .i64) (.pair (.int .i64) (.pair (.int .i64) (.pair (.str) (.pair (.int .i64) (.pair (.int .i64) (.str)))))))) [.slice axs_0 xs.length cxs_0] xs) (hfxf : ∀ (y0 : Int × Int × Int × Bs × Int × Int × Bs), pxf y0 → FnG Try.prog vxf #[.agg #[.int .i64 y0.1, .int .i64 y0.2.1, .int .i64 y0.2.2.1, sv y0.2.2.2.1, .int .i64 y0.2.2.2.2.1, .int .i64 y0.2.2.2.2.2.1, sv y0.2.2.2.2.2.2]] g (.bool (xf y0))) (K : Int → Prop)
  (hF : kixF xs xf pxf K) : CallsH Try.prog 56 #[.slice axs_0 xs.length cxs_0, vxf] g [] (fun g' H' v => ∃ (r0 : Int), v = .int .i64 r0 ∧ H' = [] ∧ K r0) := by
 refine CallsH.enter 19 [(0, .slice axs_0 xs.length cxs_0), (1, vxf)] Try.func56 rfl (by kernel_rfl) (by kernel_rfl) (by kernel_rfl) fun w0 => ?_
 refine Ok.seq (Ok.region (Ok.batch 1 [(0, .slice axs_0 xs.length cxs_0), (1, vxf)] (by kernel_rfl) (Ok.nil (Ok.thenN (Ok.seq (Ok.seq (Ok.region (Ok.bat 3 [0, 1] [(7, .int .i64 (xs.length : Int)), (8, .int .i64 0)] ?_))))))))
 refine Ok.nil (Ok.thenN (Ok.block ?_))
 obtain ⟨k, hF⟩ := hF
 refine Ok.loop (fun k a W => ∃ (x8l7 : Int), StA 19 [(0, .slice axs_0 xs.length cxs_0), (1, vxf), (7, .int .i64 (xs.length : Int)), (8, .int .i64 x8l7)] a ∧ StW w0 [] g W ∧ kixl7 xs xf pxf K k x8l7) k ?_ ?_
 ·
  exact fun a W hA hW => ⟨0, hA.sub (by kernel_rfl), hW, hF⟩
 ·
  clear hF
  rintro k7 a W ⟨x8l7, hA, hW, hF⟩
  cases k7 with
  | zero => exact (hF : False).elim
  | succ k7 =>
   refine (?_ : Ok _ _ _ _ _ _) a W hA hW
   clear hA hW
   refine Ok.seq (Ok.region (Ok.bat 1 [0, 1, 7, 8] [(9, .bool (decide (x8l7 < (xs.length : Int))))] ?_))
   refine Ok.nil (Ok.thenN (Ok.seq (Ok.cond (b := decide (x8l7 < (xs.length : Int))) rfl (fun hc1 => ?_) (fun hc1 => ?_))))
   ·replace hF := hF.1 hc1
    refine Ok.skip (Ok.thenN (Ok.seq (Ok.block (Ok.seq (Ok.region (Ok.bat 2 [0, 1, 7, 8] [(5, .int .i64 x8l7)] ?_))))))
    refine Ok.nil (Ok.thenN (Ok.seq (Ok.region (Ok.bat 3 [0, 1, 5, 7, 8] [(11, vxf), (12, .slice axs_0 xs.length cxs_0), (13, .int .i64 x8l7)] ?_))))
    obtain ⟨h03, h13, hF⟩ := hF
    have he3 := get_of (l := xs) (default : Int × Int × Int × Bs × Int × Int × Bs) h13
    generalize hg3 : (xs.getD (Int.toNat x8l7) default) = e3 at he3 hF ⊢
    refine Ok.op rfl (OpOk.indexRo (e := .pair (.int .i64) (.pair (.int .i64) (.pair (.int .i64) (.pair (.str) (.pair (.int .i64) (.pair (.int .i64) (.str))))))) (i := x8l7) (el := e3) rfl rfl Try.underlying52 (by kernel_rfl) hRxs_0 h03 he3 rfl fun q2 o2 cs2 _ hat2 hr2 => ?_)
    obtain ⟨_, _, rfl, rfl, ⟨_, _, rfl, rfl, ⟨_, _, rfl, rfl, ⟨_, _, rfl, rfl, ⟨_, _, rfl, rfl, ⟨_, _, rfl, rfl, rfl⟩⟩⟩⟩⟩⟩ := hr2
    replace hat2 : At g q2 o2 [.int .i64 e3.1, .int .i64 e3.2.1, .int .i64 e3.2.2.1, sv e3.2.2.2.1, .int .i64 e3.2.2.2.2.1, .int .i64 e3.2.2.2.2.2.1, sv e3.2.2.2.2.2.2] := hat2
    refine Ok.op rfl (OpOk.step (v := .agg #[.int .i64 e3.1, .int .i64 e3.2.1, .int .i64 e3.2.2.1, sv e3.2.2.2.1, .int .i64 e3.2.2.2.2.1, .int .i64 e3.2.2.2.2.2.1, sv e3.2.2.2.2.2.2]) (Yields.loadAggRo 0 7 #[.int .i64 e3.1, .int .i64 e3.2.1, .int .i64 e3.2.2.1, sv e3.2.2.2.1, .int .i64 e3.2.2.2.2.1, .int .i64 e3.2.2.2.2.2.1, sv e3.2.2.2.2.2.2] hat2 (by kernel_rfl) Try.underlying39 rfl (by kernel_rfl) (by kernel_rfl) (by kernel_rfl)) rfl rfl ?_)
    obtain ⟨hq4, hF⟩ := hF
    refine Ok.op rfl (OpOk.apply (args := #[.agg #[.int .i64 e3.1, .int .i64 e3.2.1, .int .i64 e3.2.2.1, sv e3.2.2.2.1, .int .i64 e3.2.2.2.2.1, .int .i64 e3.2.2.2.2.2.1, sv e3.2.2.2.2.2.2]]) (v := .bool (xf e3)) rfl (by kernel_rfl) (by kernel_rfl) (hfxf e3 hq4) rfl (Ok.nil (Ok.thenN (Ok.cond (b := (xf e3)) rfl (fun hc5 => ?_) (fun hc5 => ?_)))))
    ·replace hF := hF.1 hc5
     refine Ok.seq (Ok.region (Ok.batch 2 [(4, .int .i64 x8l7)] (by kernel_rfl) (Ok.nil (Ok.thenN (Ok.ret (Ok.blockR (Ok.thenR (Ok.thenR (Ok.blockR (Ok.thenR ?_))))))))))
     exact Ok.resH (vs := [.int .i64 x8l7]) (.inl rfl) rfl (.cons (.tmp rfl) .nil) (Gext.refl w0 g) ⟨x8l7, rfl, rfl, hF⟩
    ·replace hF := hF.2 hc5
     refine Ok.skip (Ok.blockN (Ok.thenN (Ok.region (Ok.bat 2 [0, 1, 7] [(8, .int .i64 (w6 (x8l7 + 1)))] ?_))))
     refine Ok.nil (Ok.thenN ?_)
     subst hg3
     exact fun a W hA hW => ⟨k7, Nat.lt_succ_self _, w6 (x8l7 + 1), hA.sub (by kernel_rfl), hW, hF⟩
   ·replace hF := hF.2 hc1
    refine Ok.exit (Ok.thenE (Ok.thenE (Ok.blockHit (Ok.thenN (Ok.seq (Ok.region (Ok.batch 1 [(4, .int .i64 (-1))] (by kernel_rfl) (Ok.nil (Ok.thenN (Ok.ret ?_))))))))))
    exact Ok.resH (vs := [.int .i64 (-1)]) (.inl rfl) rfl (.cons (.tmp rfl) .nil) (Gext.refl w0 g) ⟨(-1), rfl, rfl, hF⟩
def kixS (l : List (JK)) (f : JK → Bool) : Int := idxN f l 0
def kixP (l : List (JK)) (_ : JK → Bool) (p : JK → Prop) : Prop := l.length ≤ 1000000 ∧ ∀ y ∈ l, p y
theorem kix_F (l : List (JK)) (f : JK → Bool) (p : JK → Prop) (hp : kixP l f p) : kixF l f p (fun r => r = kixS l f) := by
 obtain ⟨hl, hp⟩ := hp
 have loop : ∀ (k i : Nat), i + k = l.length → kixS l f = idxN f (l.drop i) i → kixl7 l f p (fun r => r = kixS l f) (k + 1) (i : Int) := by
  intro k
  induction k with
  | zero =>
   intro i h h2
   rw [List.drop_of_length_le (by omega)] at h2
   exact ⟨fun h => by have := of_decide_eq_true h; omega, fun _ => h2.symm⟩
  | succ k ih =>
   intro i h h2
   rw [drop_get (l := l) default (by omega), idxN] at h2
   refine ⟨fun _ => ⟨by omega, by rw [Int.toNat_natCast]; omega, hp _ (mem_getD default (by rw [Int.toNat_natCast]; omega)), fun hc => ?_, fun hc => ?_⟩, fun h => by have := of_decide_eq_false h; omega⟩
   ·rw [Int.toNat_natCast] at hc
    rw [h2, if_t hc]
   ·rw [Int.toNat_natCast] at hc
    rw [if_f hc] at h2
    rw [w64 (by omega)]
    exact ih (i + 1) (by omega) h2
 exact ⟨_, loop l.length 0 (by omega) rfl⟩
theorem kix_c {g : Ghost} {axs_0 : Option Addr} {cxs_0 : Nat} (xs : List (Int × Int × Int × Bs × Int × Int × Bs)) {vxf : Value} (xf : (Int × Int × Int × Bs × Int × Int × Bs) → Bool) (pxf : (Int × Int × Int × Bs × Int × Int × Bs) → Prop) (hRxs_0 : Rep g (.slice (.pair (.int .i64) (.pair (.int .i64) (.pair (.int .i64) (.pair (.str) (.pair (.int .i64) (.pair (.int .i64) (.str)))))))) [.slice axs_0 xs.length cxs_0] xs) (hfxf : ∀ (y0 : Int × Int × Int × Bs × Int × Int × Bs), pxf y0 → FnG Try.prog vxf #[.agg #[.int .i64 y0.1, .int .i64 y0.2.1, .int .i64 y0.2.2.1, sv y0.2.2.2.1, .int .i64 y0.2.2.2.2.1, .int .i64 y0.2.2.2.2.2.1, sv y0.2.2.2.2.2.2]] g (.bool (xf y0)))  (hp : kixP xs xf pxf) : CallsG Try.prog 56 #[.slice axs_0 xs.length cxs_0, vxf] g (.int .i64 (kixS xs xf)) :=
 (kix_ok xs xf pxf hRxs_0 hfxf _ (kix_F xs xf pxf hp)).gives (by rintro g' H' v _ ⟨r0, rfl, rfl, hK⟩; subst hK; rfl)

def kcoF (xs : List (Int × Int × Int × Bs × Int × Int × Bs)) (xf : (Int × Int × Int × Bs × Int × Int × Bs) → Bool) (pxf : (Int × Int × Int × Bs × Int × Int × Bs) → Prop) (K : Bool → Prop) : Prop :=
 kixP xs xf pxf ∧ K (decide ((kixS xs xf) ≥ 0))
theorem kco_ok {g : Ghost} {axs_0 : Option Addr} {cxs_0 : Nat} (xs : List (Int × Int × Int × Bs × Int × Int × Bs)) {vxf : Value} (xf : (Int × Int × Int × Bs × Int × Int × Bs) → Bool) (pxf : (Int × Int × Int × Bs × Int × Int × Bs) → Prop) (hRxs_0 : Rep g (.slice (.pair (.int .i64) (.pair (.int .i64) (.pair (.int .i64) (.pair (.str) (.pair (.int .i64) (.pair (.int .i64) (.str)))))))) [.slice axs_0 xs.length cxs_0] xs) (hfxf : ∀ (y0 : Int × Int × Int × Bs × Int × Int × Bs), pxf y0 → FnG Try.prog vxf #[.agg #[.int .i64 y0.1, .int .i64 y0.2.1, .int .i64 y0.2.2.1, sv y0.2.2.2.1, .int .i64 y0.2.2.2.2.1, .int .i64 y0.2.2.2.2.2.1, sv y0.2.2.2.2.2.2]] g (.bool (xf y0))) (K : Bool → Prop)
  (hF : kcoF xs xf pxf K) : CallsH Try.prog 20 #[.slice axs_0 xs.length cxs_0, vxf] g [] (fun g' H' v => ∃ (r0 : Bool), v = .bool r0 ∧ H' = [] ∧ K r0) := by
 refine CallsH.enter 9 [(0, .slice axs_0 xs.length cxs_0), (1, vxf)] Try.func20 rfl (by kernel_rfl) (by kernel_rfl) (by kernel_rfl) fun w0 => ?_
 refine Ok.seq (Ok.region (Ok.batch 1 [(0, .slice axs_0 xs.length cxs_0), (1, vxf)] (by kernel_rfl) (Ok.nil (Ok.thenN (Ok.seq (Ok.region (Ok.batch 2 [(5, .slice axs_0 xs.length cxs_0), (6, vxf)] (by kernel_rfl) ?_)))))))
 obtain ⟨hp1, hF⟩ := hF
 refine Ok.op rfl (OpOk.callG (v := .int .i64 (kixS xs xf)) enr (fun W hW => kix_c xs xf pxf (hRxs_0.mono hW.sees) (fun y0 hq => (hfxf y0 hq).mono hW.sees) hp1) rfl ?_)
 refine Ok.batch 2 [(4, .bool (decide ((kixS xs xf) ≥ 0)))] (by kernel_rfl) (Ok.nil (Ok.thenN (Ok.ret ?_)))
 exact Ok.resH (vs := [.bool (decide ((kixS xs xf) ≥ 0))]) (.inl rfl) rfl (.cons (.tmp rfl) .nil) (Gext.refl w0 g) ⟨(decide ((kixS xs xf) ≥ 0)), rfl, rfl, hF⟩
def kcoS (l : List (JK)) (f : JK → Bool) : Bool := l.any f
def kcoP (l : List (JK)) (_ : JK → Bool) (p : JK → Prop) : Prop := l.length ≤ 1000000 ∧ ∀ y ∈ l, p y
theorem kco_F (l : List (JK)) (f : JK → Bool) (p : JK → Prop) (hp : kcoP l f p) : kcoF l f p (fun r => r = kcoS l f) := ⟨hp, idxN_any f l 0⟩
theorem kco_c {g : Ghost} {axs_0 : Option Addr} {cxs_0 : Nat} (xs : List (Int × Int × Int × Bs × Int × Int × Bs)) {vxf : Value} (xf : (Int × Int × Int × Bs × Int × Int × Bs) → Bool) (pxf : (Int × Int × Int × Bs × Int × Int × Bs) → Prop) (hRxs_0 : Rep g (.slice (.pair (.int .i64) (.pair (.int .i64) (.pair (.int .i64) (.pair (.str) (.pair (.int .i64) (.pair (.int .i64) (.str)))))))) [.slice axs_0 xs.length cxs_0] xs) (hfxf : ∀ (y0 : Int × Int × Int × Bs × Int × Int × Bs), pxf y0 → FnG Try.prog vxf #[.agg #[.int .i64 y0.1, .int .i64 y0.2.1, .int .i64 y0.2.2.1, sv y0.2.2.2.1, .int .i64 y0.2.2.2.2.1, .int .i64 y0.2.2.2.2.2.1, sv y0.2.2.2.2.2.2]] g (.bool (xf y0)))  (hp : kcoP xs xf pxf) : CallsG Try.prog 20 #[.slice axs_0 xs.length cxs_0, vxf] g (.bool (kcoS xs xf)) :=
 (kco_ok xs xf pxf hRxs_0 hfxf _ (kco_F xs xf pxf hp)).gives (by rintro g' H' v _ ⟨r0, rfl, rfl, hK⟩; subst hK; rfl)

end Go.Proofs.Ytbifbljdmndjbaa.Lo
