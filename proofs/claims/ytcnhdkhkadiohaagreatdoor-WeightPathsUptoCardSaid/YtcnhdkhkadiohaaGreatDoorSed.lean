/- selector: how many tests there are, by the program and by the document. -/
import Derived.Test.YtcnhdkhkadiohaaGreatDoorSec
import Derived.Test.YtcnhdkhkadiohaaGreatDoorSfa
namespace Go.Proofs.YtcnhdkhkadiohaaGreatDoor.Se
open Go Go.Eng Go.RowKit Bld Trm Css Tk Ti
set_option maxHeartbeats 4000000
set_option maxRecDepth 100000
set_option linter.unusedSimpArgs false
set_option linter.unusedVariables false
def tssS (l : List Ph) (d : Int) : Int × Bool := ts3 l d 0
def tssP (N : Nat) (l : List Ph) (d : Int) : Prop := b3 l < N ∧ b3 l ≤ 1048600 ∧ 0 ≤ d ∧ d + b3 l ≤ 1000000000
theorem tssP_in {N : Nat} {l : List Ph} {d : Int} (h : tssP (N + 1) l d) {q : Ph} (hq : q ∈ l) {s : List Ts} (hs : s ∈ q.1) {t : Ts} (ht : t ∈ s) : tssP N t.kids (d + 1) := by
 have h1 := w3_in hq
 have h2 := w2_in hs
 have h3 := w1_in ht
 have h4 := bT_kids t
 have h5 := b3_eq l
 obtain ⟨a, b, c, e⟩ := h
 exact ⟨by omega, by omega, by omega, by omega⟩
def tss_C (N : Nat) : Prop := ∀ (g : Ghost) {axl_0 : Option Addr} {cxl_0 : Nat} (xl : List ((List (List (Tst (Int × Bs × Int × Bs × Int × Int)))) × List (Int))) (xdeep : Int) (hRxl_0 : Rep g (.slice (.pair (.slice (.slice (.tst (.pair (.int .i64) (.pair (.str) (.pair (.int .u8) (.pair (.str) (.pair (.int .i64) (.int .i64))))))))) (.slice (.int .u8)))) [.slice axl_0 xl.length cxl_0] xl)  (hp : tssP N xl xdeep), CallsG Tryz.prog 31 #[.slice axl_0 xl.length cxl_0, .int .i64 xdeep] g (.tuple #[.int .i64 (tssS xl xdeep).1, .bool (tssS xl xdeep).2])
def tssV4 (xdeep : Int) (e7 : List (Tst (Int × Bs × Int × Bs × Int × Int))) (x6l39 : Int) (x34l39 : Int) : Int :=
 (if (((e7.getD (Int.toNat x34l39) default).kids.length : Int) == 0) = true then x6l39 else w6 (x6l39 + (tssS (e7.getD (Int.toNat x34l39) default).kids (w6 (xdeep + 1))).1))
def tssj46 (xdeep : Int) (e7 : List (Tst (Int × Bs × Int × Bs × Int × Int))) (x6l39 : Int) (x34l39 : Int) (C39 : Int → Int → Prop) : Prop :=
 C39 (tssV4 xdeep e7 x6l39 x34l39) (w6 (x34l39 + 1))
def tssl39b (N : Nat) (xdeep : Int) (K : Int → Bool → Prop) (e7 : List (Tst (Int × Bs × Int × Bs × Int × Int))) (x24l23 : Int) (C23 : Int → Int → Prop) (x6l39 : Int) (x34l39 : Int) (C39 : Int → Int → Prop) : Prop :=
 ((decide (x34l39 < (e7.length : Int))) = true → (0 : Int) ≤ x34l39 ∧ Int.toNat x34l39 < e7.length ∧ (((((e7.getD (Int.toNat x34l39) default).kids.length : Int) == 0)) = true → tssj46 xdeep e7 x6l39 x34l39 C39) ∧ (((((e7.getD (Int.toNat x34l39) default).kids.length : Int) == 0)) = false → tssP N (e7.getD (Int.toNat x34l39) default).kids (w6 (xdeep + 1)) ∧ (((((!((tssS (e7.getD (Int.toNat x34l39) default).kids (w6 (xdeep + 1))).2)) || (decide (xdeep ≥ 3))) || (decide ((w6 (x6l39 + (tssS (e7.getD (Int.toNat x34l39) default).kids (w6 (xdeep + 1))).1)) > 40)))) = true → K (w6 (x6l39 + (tssS (e7.getD (Int.toNat x34l39) default).kids (w6 (xdeep + 1))).1)) false) ∧ (((((!((tssS (e7.getD (Int.toNat x34l39) default).kids (w6 (xdeep + 1))).2)) || (decide (xdeep ≥ 3))) || (decide ((w6 (x6l39 + (tssS (e7.getD (Int.toNat x34l39) default).kids (w6 (xdeep + 1))).1)) > 40)))) = false → tssj46 xdeep e7 x6l39 x34l39 C39))) ∧ ((decide (x34l39 < (e7.length : Int))) = false → C23 x6l39 (w6 (x24l23 + 1)))
def tssl39 (N : Nat) (xdeep : Int) (K : Int → Bool → Prop) (e7 : List (Tst (Int × Bs × Int × Bs × Int × Int))) (x24l23 : Int) (C23 : Int → Int → Prop) : Nat → Int → Int → Prop
 | 0, _, _ => False
 | k + 1, x6l39, x34l39 => tssl39b N xdeep K e7 x24l23 C23 x6l39 x34l39 (tssl39 N xdeep K e7 x24l23 C23 k)
def tssl23b (N : Nat) (xdeep : Int) (K : Int → Bool → Prop) (e3 : (List (List (Tst (Int × Bs × Int × Bs × Int × Int)))) × List (Int)) (x17l9 : Int) (C9 : Int → Int → Prop) (x6l23 : Int) (x24l23 : Int) (C23 : Int → Int → Prop) : Prop :=
 ((decide (x24l23 < (e3.1.length : Int))) = true → (0 : Int) ≤ x24l23 ∧ Int.toNat x24l23 < e3.1.length ∧ ∃ k, tssl39 N xdeep K (e3.1.getD (Int.toNat x24l23) default) x24l23 C23 k (w6 (x6l23 + ((e3.1.getD (Int.toNat x24l23) default).length : Int))) 0) ∧ ((decide (x24l23 < (e3.1.length : Int))) = false → C9 x6l23 (w6 (x17l9 + 1)))
def tssl23 (N : Nat) (xdeep : Int) (K : Int → Bool → Prop) (e3 : (List (List (Tst (Int × Bs × Int × Bs × Int × Int)))) × List (Int)) (x17l9 : Int) (C9 : Int → Int → Prop) : Nat → Int → Int → Prop
 | 0, _, _ => False
 | k + 1, x6l23, x24l23 => tssl23b N xdeep K e3 x17l9 C9 x6l23 x24l23 (tssl23 N xdeep K e3 x17l9 C9 k)
def tssl9b (N : Nat) (xl : List ((List (List (Tst (Int × Bs × Int × Bs × Int × Int)))) × List (Int))) (xdeep : Int) (K : Int → Bool → Prop) (x6l9 : Int) (x17l9 : Int) (C9 : Int → Int → Prop) : Prop :=
 ((decide (x17l9 < (xl.length : Int))) = true → (0 : Int) ≤ x17l9 ∧ Int.toNat x17l9 < xl.length ∧ ∃ k, tssl23 N xdeep K (xl.getD (Int.toNat x17l9) default) x17l9 C9 k x6l9 0) ∧ ((decide (x17l9 < (xl.length : Int))) = false → K x6l9 (decide (x6l9 ≤ 40)))
def tssl9 (N : Nat) (xl : List ((List (List (Tst (Int × Bs × Int × Bs × Int × Int)))) × List (Int))) (xdeep : Int) (K : Int → Bool → Prop) : Nat → Int → Int → Prop
 | 0, _, _ => False
 | k + 1, x6l9, x17l9 => tssl9b N xl xdeep K x6l9 x17l9 (tssl9 N xl xdeep K k)
def tssF (N : Nat) (xl : List ((List (List (Tst (Int × Bs × Int × Bs × Int × Int)))) × List (Int))) (xdeep : Int) (K : Int → Bool → Prop) : Prop :=
 ∃ k, tssl9 N xl xdeep K k 0 0
theorem tss_ok {g : Ghost} (N : Nat) (ih_tss : tss_C N) {axl_0 : Option Addr} {cxl_0 : Nat} (xl : List ((List (List (Tst (Int × Bs × Int × Bs × Int × Int)))) × List (Int))) (xdeep : Int) (hRxl_0 : Rep g (.slice (.pair (.slice (.slice (.tst (.pair (.int .i64) (.pair (.str) (.pair (.int .u8) (.pair (.str) (.pair (.int .i64) (.int .i64))))))))) (.slice (.int .u8)))) [.slice axl_0 xl.length cxl_0] xl) (K : Int → Bool → Prop)
  (hF : tssF N xl xdeep K) : CallsH Tryz.prog 31 #[.slice axl_0 xl.length cxl_0, .int .i64 xdeep] g [] (fun g' H' v => ∃ (r0 : Int), ∃ (r1 : Bool), v = .tuple #[.int .i64 r0, .bool r1] ∧ H' = [] ∧ K r0 r1) := by
 refine CallsH.enter 70 [(0, .slice axl_0 xl.length cxl_0), (1, .int .i64 xdeep)] Tryz.func31 rfl (by kernel_rfl) (by kernel_rfl) (by kernel_rfl) fun w0 => ?_
 refine Ok.seq (Ok.region (Ok.batch 2 [(0, .slice axl_0 xl.length cxl_0), (1, .int .i64 xdeep)] (by kernel_rfl) (Ok.nil (Ok.thenN (Ok.seq (Ok.region (Ok.bat 1 [0, 1] [(6, .int .i64 0)] ?_)))))))
 refine Ok.nil (Ok.thenN (Ok.seq (Ok.seq (Ok.region (Ok.bat 3 [1, 6] [(15, .slice axl_0 xl.length cxl_0), (16, .int .i64 (xl.length : Int)), (17, .int .i64 0)] ?_)))))
 refine Ok.nil (Ok.thenN (Ok.block ?_))
 obtain ⟨k, hF⟩ := hF
 refine Ok.loop (fun k a W => ∃ (x6l9 : Int) (x17l9 : Int), StA 70 [(1, .int .i64 xdeep), (6, .int .i64 x6l9), (15, .slice axl_0 xl.length cxl_0), (16, .int .i64 (xl.length : Int)), (17, .int .i64 x17l9)] a ∧ StW w0 [] g W ∧ tssl9 N xl xdeep K k x6l9 x17l9) k ?_ ?_
 ·
  exact fun a W hA hW => ⟨0, 0, hA.sub (by kernel_rfl), hW, hF⟩
 ·
  clear hF
  rintro k9 a W ⟨x6l9, x17l9, hA, hW, hF⟩
  cases k9 with
  | zero => exact (hF : False).elim
  | succ k9 =>
   refine (?_ : Ok _ _ _ _ _ _) a W hA hW
   clear hA hW
   refine Ok.seq (Ok.region (Ok.bat 1 [1, 6, 15, 16, 17] [(18, .bool (decide (x17l9 < (xl.length : Int))))] ?_))
   refine Ok.nil (Ok.thenN (Ok.seq (Ok.cond (b := decide (x17l9 < (xl.length : Int))) rfl (fun hc1 => ?_) (fun hc1 => ?_))))
   ·replace hF := hF.1 hc1
    refine Ok.skip (Ok.thenN (Ok.seq (Ok.block (Ok.seq (Ok.region ?_)))))
    obtain ⟨h03, h13, hF⟩ := hF
    have he3 := get_of (l := xl) (default : (List (List (Tst (Int × Bs × Int × Bs × Int × Int)))) × List (Int)) h13
    generalize hg3 : (xl.getD (Int.toNat x17l9) default) = e3 at he3 hF ⊢
    refine Ok.op rfl (OpOk.indexRo (e := .pair (.slice (.slice (.tst (.pair (.int .i64) (.pair (.str) (.pair (.int .u8) (.pair (.str) (.pair (.int .i64) (.int .i64))))))))) (.slice (.int .u8))) (i := x17l9) (el := e3) rfl rfl Tryz.underlying29 (by kernel_rfl) hRxl_0 h03 he3 rfl fun q2 o2 cs2 _ hat2 hr2 => ?_)
    obtain ⟨_, _, rfl, ⟨a2_0, c2_0, rfl, hm2_0, hr2_0⟩, ⟨a2_1, c2_1, rfl, hm2_1, hr2_1⟩⟩ := hr2
    have hR2_0 : Rep g (.slice (.slice (.tst (.pair (.int .i64) (.pair (.str) (.pair (.int .u8) (.pair (.str) (.pair (.int .i64) (.int .i64))))))))) [.slice a2_0 e3.1.length c2_0] e3.1 := ⟨a2_0, c2_0, rfl, hm2_0, hr2_0⟩
    have hR2_1 : Rep g (.slice (.int .u8)) [.slice a2_1 e3.2.length c2_1] e3.2 := ⟨a2_1, c2_1, rfl, hm2_1, hr2_1⟩
    replace hat2 : At g q2 o2 [.slice a2_0 e3.1.length c2_0, .slice a2_1 e3.2.length c2_1] := hat2
    refine Ok.op rfl (OpOk.step (v := .agg #[.slice a2_0 e3.1.length c2_0, .slice a2_1 e3.2.length c2_1]) (Yields.loadAggRo 0 2 #[.slice a2_0 e3.1.length c2_0, .slice a2_1 e3.2.length c2_1] hat2 (by kernel_rfl) Tryz.underlying25 rfl (by kernel_rfl) (by kernel_rfl) (by kernel_rfl)) rfl rfl (Ok.op rfl (OpOk.alloc (z := .agg #[.slice none 0 0, .slice none 0 0]) (cs := #[.slice none 0 0, .slice none 0 0]) (by kernel_rfl) (by kernel_rfl) rfl fun bs8 => ?_)))
    refine Ok.op rfl (OpOk.sto (k := 2) (v := .agg #[.slice a2_0 e3.1.length c2_0, .slice a2_1 e3.2.length c2_1]) 0 #[.slice a2_0 e3.1.length c2_0, .slice a2_1 e3.2.length c2_1] rfl rfl rfl ?_)
    refine Ok.nil (Ok.thenN (Ok.seq (Ok.region (Ok.bat 1 [1, 6, 15, 16, 17] [(21, pv bs8 0)] ?_))))
    refine Ok.op rfl (OpOk.step (v := .slice a2_0 e3.1.length c2_0) (Yields.load 0 rfl rfl Tryz.underlying22 rfl (by kernel_rfl)) rfl rfl (Ok.bat 2 [1, 6, 15, 16, 17] [(22, .slice a2_0 e3.1.length c2_0), (23, .int .i64 (e3.1.length : Int)), (24, .int .i64 0)] ?_))
    refine Ok.nil (Ok.thenN (Ok.block ?_))
    obtain ⟨k, hF⟩ := hF
    refine Ok.loop (fun k a W => ∃ (x6l23 : Int) (x24l23 : Int), StA 70 [(1, .int .i64 xdeep), (6, .int .i64 x6l23), (15, .slice axl_0 xl.length cxl_0), (16, .int .i64 (xl.length : Int)), (17, .int .i64 x17l9), (22, .slice a2_0 e3.1.length c2_0), (23, .int .i64 (e3.1.length : Int)), (24, .int .i64 x24l23)] a ∧ StW w0 [] g W ∧ tssl23 N xdeep K e3 x17l9 (tssl9 N xl xdeep K k9) k x6l23 x24l23) k ?_ ?_
    ·
     exact fun a W hA hW => ⟨x6l9, 0, hA.sub (by kernel_rfl), hW.sub (.cons _ .slnil), hF⟩
    ·
     clear hF
     rintro k23 a W ⟨x6l23, x24l23, hA, hW, hF⟩
     cases k23 with
     | zero => exact (hF : False).elim
     | succ k23 =>
      refine (?_ : Ok _ _ _ _ _ _) a W hA hW
      clear hA hW
      refine Ok.seq (Ok.region (Ok.bat 1 [1, 6, 15, 16, 17, 22, 23, 24] [(25, .bool (decide (x24l23 < (e3.1.length : Int))))] ?_))
      refine Ok.nil (Ok.thenN (Ok.seq (Ok.cond (b := decide (x24l23 < (e3.1.length : Int))) rfl (fun hc5 => ?_) (fun hc5 => ?_))))
      ·replace hF := hF.1 hc5
       refine Ok.skip (Ok.thenN (Ok.seq (Ok.block (Ok.seq (Ok.region ?_)))))
       obtain ⟨h07, h17, hF⟩ := hF
       have he7 := get_of (l := e3.1) (default : List (Tst (Int × Bs × Int × Bs × Int × Int))) h17
       generalize hg7 : (e3.1.getD (Int.toNat x24l23) default) = e7 at he7 hF ⊢
       refine Ok.op rfl (OpOk.indexRo (e := .slice (.tst (.pair (.int .i64) (.pair (.str) (.pair (.int .u8) (.pair (.str) (.pair (.int .i64) (.int .i64)))))))) (i := x24l23) (el := e7) rfl rfl Tryz.underlying22 (by kernel_rfl) hR2_0 h07 he7 rfl fun q6 o6 cs6 _ hat6 hr6 => ?_)
       obtain ⟨a6_0, c6_0, rfl, hm6_0, hr6_0⟩ := hr6
       have hR6_0 : Rep g (.slice (.tst (.pair (.int .i64) (.pair (.str) (.pair (.int .u8) (.pair (.str) (.pair (.int .i64) (.int .i64)))))))) [.slice a6_0 e7.length c6_0] e7 := ⟨a6_0, c6_0, rfl, hm6_0, hr6_0⟩
       replace hat6 : At g q6 o6 [.slice a6_0 e7.length c6_0] := hat6
       refine Ok.op rfl (OpOk.step (v := .slice a6_0 e7.length c6_0) (Yields.loadRo 0 hat6 (by kernel_rfl) Tryz.underlying41 rfl (by kernel_rfl)) rfl rfl (Ok.bat 1 [1, 6, 15, 16, 17, 22, 23, 24] [(10, .slice a6_0 e7.length c6_0)] ?_))
       refine Ok.nil (Ok.thenN (Ok.seq (Ok.region (Ok.bat 5 [1, 10, 15, 16, 17, 22, 23, 24] [(6, .int .i64 (w6 (x6l23 + (e7.length : Int))))] ?_))))
       refine Ok.nil (Ok.thenN (Ok.seq (Ok.region (Ok.bat 3 [1, 6, 15, 16, 17, 22, 23, 24] [(32, .slice a6_0 e7.length c6_0), (33, .int .i64 (e7.length : Int)), (34, .int .i64 0)] ?_))))
       refine Ok.nil (Ok.thenN (Ok.block ?_))
       obtain ⟨k, hF⟩ := hF
       refine Ok.loop (fun k a W => ∃ (x6l39 : Int) (x34l39 : Int), StA 70 [(1, .int .i64 xdeep), (6, .int .i64 x6l39), (15, .slice axl_0 xl.length cxl_0), (16, .int .i64 (xl.length : Int)), (17, .int .i64 x17l9), (22, .slice a2_0 e3.1.length c2_0), (23, .int .i64 (e3.1.length : Int)), (24, .int .i64 x24l23), (32, .slice a6_0 e7.length c6_0), (33, .int .i64 (e7.length : Int)), (34, .int .i64 x34l39)] a ∧ StW w0 [] g W ∧ tssl39 N xdeep K e7 x24l23 (tssl23 N xdeep K e3 x17l9 (tssl9 N xl xdeep K k9) k23) k x6l39 x34l39) k ?_ ?_
       ·
        exact fun a W hA hW => ⟨w6 (x6l23 + (e7.length : Int)), 0, hA.sub (by kernel_rfl), hW, hF⟩
       ·
        clear hF
        rintro k39 a W ⟨x6l39, x34l39, hA, hW, hF⟩
        cases k39 with
        | zero => exact (hF : False).elim
        | succ k39 =>
         refine (?_ : Ok _ _ _ _ _ _) a W hA hW
         clear hA hW
         refine Ok.seq (Ok.region (Ok.bat 1 [1, 6, 15, 16, 17, 22, 23, 24, 32, 33, 34] [(35, .bool (decide (x34l39 < (e7.length : Int))))] ?_))
         refine Ok.nil (Ok.thenN (Ok.seq (Ok.cond (b := decide (x34l39 < (e7.length : Int))) rfl (fun hc8 => ?_) (fun hc8 => ?_))))
         ·replace hF := hF.1 hc8
          refine Ok.skip (Ok.thenN (Ok.cut (fun a W => StA 70 [(1, .int .i64 xdeep), (6, .int .i64 (tssV4 xdeep e7 x6l39 x34l39)), (15, .slice axl_0 xl.length cxl_0), (16, .int .i64 (xl.length : Int)), (17, .int .i64 x17l9), (22, .slice a2_0 e3.1.length c2_0), (23, .int .i64 (e3.1.length : Int)), (24, .int .i64 x24l23), (32, .slice a6_0 e7.length c6_0), (33, .int .i64 (e7.length : Int)), (34, .int .i64 x34l39)] a ∧ StW w0 [] g W ∧ tssj46 xdeep e7 x6l39 x34l39 (tssl39 N xdeep K e7 x24l23 (tssl23 N xdeep K e3 x17l9 (tssl9 N xl xdeep K k9) k23) k39)) ?_ ?_))
          ·
           refine Ok.block (Ok.seq (Ok.region ?_))
           obtain ⟨h010, h110, hF⟩ := hF
           have he10 := get_of (l := e7) (default : Tst (Int × Bs × Int × Bs × Int × Int)) h110
           generalize hg10 : (e7.getD (Int.toNat x34l39) default) = e10 at he10 hF ⊢
           refine Ok.op rfl (OpOk.indexRo (e := .tst (.pair (.int .i64) (.pair (.str) (.pair (.int .u8) (.pair (.str) (.pair (.int .i64) (.int .i64))))))) (i := x34l39) (el := e10) rfl rfl Tryz.underlying41 (by kernel_rfl) hR6_0 h010 he10 rfl fun q9 o9 cs9 _ hat9 hr9 => ?_)
           have hT9_0 := hr9
           replace hT9_0 := Rep.tst.1 hT9_0
           obtain ⟨_, _, rfl, ⟨_, _, rfl, rfl, ⟨_, _, rfl, rfl, ⟨_, _, rfl, rfl, ⟨_, _, rfl, rfl, ⟨_, _, rfl, rfl, rfl⟩⟩⟩⟩⟩, ⟨a9_6, c9_6, rfl, hm9_6, hr9_6⟩⟩ := hT9_0
           have hR9_6 : Rep g (.slice (.pair (.slice (.slice (.tst (.pair (.int .i64) (.pair (.str) (.pair (.int .u8) (.pair (.str) (.pair (.int .i64) (.int .i64))))))))) (.slice (.int .u8)))) [.slice a9_6 e10.kids.length c9_6] e10.kids := ⟨a9_6, c9_6, rfl, hm9_6, hr9_6⟩
           replace hat9 : At g q9 o9 [.int .i64 e10.lab.1, sv e10.lab.2.1, .int .u8 e10.lab.2.2.1, sv e10.lab.2.2.2.1, .int .i64 e10.lab.2.2.2.2.1, .int .i64 e10.lab.2.2.2.2.2, .slice a9_6 e10.kids.length c9_6] := hat9
           refine Ok.op rfl (OpOk.step (v := .agg #[.int .i64 e10.lab.1, sv e10.lab.2.1, .int .u8 e10.lab.2.2.1, sv e10.lab.2.2.2.1, .int .i64 e10.lab.2.2.2.2.1, .int .i64 e10.lab.2.2.2.2.2, .slice a9_6 e10.kids.length c9_6]) (Yields.loadAggRo 0 7 #[.int .i64 e10.lab.1, sv e10.lab.2.1, .int .u8 e10.lab.2.2.1, sv e10.lab.2.2.2.1, .int .i64 e10.lab.2.2.2.2.1, .int .i64 e10.lab.2.2.2.2.2, .slice a9_6 e10.kids.length c9_6] hat9 (by kernel_rfl) Tryz.underlying48 rfl (by kernel_rfl) (by kernel_rfl) (by kernel_rfl)) rfl rfl (Ok.op rfl (OpOk.alloc (z := .agg #[.int .i64 0, sv ([] : Bs), .int .u8 0, sv ([] : Bs), .int .i64 0, .int .i64 0, .slice none 0 0]) (cs := #[.int .i64 0, sv ([] : Bs), .int .u8 0, sv ([] : Bs), .int .i64 0, .int .i64 0, .slice none 0 0]) (by kernel_rfl) (by kernel_rfl) rfl fun bs12 => ?_)))
           refine Ok.op rfl (OpOk.sto (k := 7) (v := .agg #[.int .i64 e10.lab.1, sv e10.lab.2.1, .int .u8 e10.lab.2.2.1, sv e10.lab.2.2.2.1, .int .i64 e10.lab.2.2.2.2.1, .int .i64 e10.lab.2.2.2.2.2, .slice a9_6 e10.kids.length c9_6]) 0 #[.int .i64 e10.lab.1, sv e10.lab.2.1, .int .u8 e10.lab.2.2.1, sv e10.lab.2.2.2.1, .int .i64 e10.lab.2.2.2.2.1, .int .i64 e10.lab.2.2.2.2.2, .slice a9_6 e10.kids.length c9_6] rfl rfl rfl ?_)
           refine Ok.nil (Ok.thenN (Ok.seq (Ok.seq (Ok.region (Ok.bat 1 [1, 6, 15, 16, 17, 22, 23, 24, 32, 33, 34] [(12, pv bs12 0), (38, pv bs12 6)] ?_)))))
           refine Ok.op rfl (OpOk.step (v := .slice a9_6 e10.kids.length c9_6) (Yields.load 0 rfl rfl Tryz.underlying29 rfl (by kernel_rfl)) rfl rfl (Ok.bat 2 [1, 6, 12, 15, 16, 17, 22, 23, 24, 32, 33, 34] [(41, .bool ((e10.kids.length : Int) == 0))] ?_))
           refine Ok.nil (Ok.thenN (Ok.cond (b := ((e10.kids.length : Int) == 0)) rfl (fun hc12 => ?_) (fun hc12 => ?_)))
           ·replace hF := hF.1 hc12
            refine Ok.exit (Ok.thenE (Ok.blockHit (Ok.thenN ?_)))
            subst hg10
            refine Ok.reval 6 rfl (show (.int .i64 x6l39 : Value) = .int .i64 (tssV4 xdeep e7 x6l39 x34l39) from congrArg (Value.int .i64) ((if_t hc12).symm)) ?_
            exact fun a W hA hW => ⟨hA.sub (by kernel_rfl), hW.sub (.cons _ .slnil), hF⟩
           ·replace hF := hF.2 hc12
            refine Ok.skip (Ok.thenN (Ok.seq (Ok.region (Ok.bat 1 [1, 6, 15, 16, 17, 22, 23, 24, 32, 33, 34] [(43, pv bs12 6)] ?_))))
            refine Ok.op rfl (OpOk.step (v := .slice a9_6 e10.kids.length c9_6) (Yields.load 0 rfl rfl Tryz.underlying29 rfl (by kernel_rfl)) rfl rfl (Ok.bat 2 [1, 6, 15, 16, 17, 22, 23, 24, 32, 33, 34] [(44, .slice a9_6 e10.kids.length c9_6), (46, .int .i64 (w6 (xdeep + 1)))] ?_))
            obtain ⟨hp13, hF⟩ := hF
            refine Ok.op rfl (OpOk.callG (v := .tuple #[.int .i64 (tssS e10.kids (w6 (xdeep + 1))).1, .bool (tssS e10.kids (w6 (xdeep + 1))).2]) enr (fun W hW => ih_tss _ e10.kids (w6 (xdeep + 1)) (hR9_6.mono hW.sees) hp13) rfl ?_)
            refine Ok.bat 5 [1, 6, 15, 16, 17, 22, 23, 24, 32, 33, 34] [(13, .int .i64 (tssS e10.kids (w6 (xdeep + 1))).1), (14, .bool (tssS e10.kids (w6 (xdeep + 1))).2)] ?_
            refine Ok.nil (Ok.thenN (Ok.seq (Ok.region (Ok.bat 4 [1, 14, 15, 16, 17, 22, 23, 24, 32, 33, 34] [(6, .int .i64 (w6 (x6l39 + (tssS e10.kids (w6 (xdeep + 1))).1)))] ?_))))
            refine Ok.nil (Ok.thenN (Ok.seq (Ok.region (Ok.bat 3 [1, 6, 15, 16, 17, 22, 23, 24, 32, 33, 34] [(55, .bool (!((tssS e10.kids (w6 (xdeep + 1))).2)))] ?_))))
            refine Ok.midway 3 [(1, .int .i64 xdeep), (6, .int .i64 (w6 (x6l39 + (tssS e10.kids (w6 (xdeep + 1))).1))), (15, .slice axl_0 xl.length cxl_0), (16, .int .i64 (xl.length : Int)), (17, .int .i64 x17l9), (22, .slice a2_0 e3.1.length c2_0), (23, .int .i64 (e3.1.length : Int)), (24, .int .i64 x24l23), (32, .slice a6_0 e7.length c6_0), (33, .int .i64 (e7.length : Int)), (34, .int .i64 x34l39), (58, .bool ((!((tssS e10.kids (w6 (xdeep + 1))).2)) || (decide (xdeep ≥ 3))))] (fun hR14 => ?_) ?_
            ·refine Ok.boolAt 55 (!((tssS e10.kids (w6 (xdeep + 1))).2)) rfl (fun hc15 => ?_) (fun hc15 => ?_)
             ·skip
              refine Ok.bat 3 [1, 6, 15, 16, 17, 22, 23, 24, 32, 33, 34] [(58, .bool true)] ?_
              refine Ok.reval 58 rfl (show (.bool true : Value) = .bool ((!((tssS e10.kids (w6 (xdeep + 1))).2)) || (decide (xdeep ≥ 3))) from congrArg Value.bool (mor_t hc15)) (Ok.bat 0 [1, 6, 15, 16, 17, 22, 23, 24, 32, 33, 34] [(58, .bool ((!((tssS e10.kids (w6 (xdeep + 1))).2)) || (decide (xdeep ≥ 3))))] ?_)
              exact hR14
             ·skip
              refine Ok.bat 3 [1, 6, 15, 16, 17, 22, 23, 24, 32, 33, 34] [(58, .bool (decide (xdeep ≥ 3)))] ?_
              refine Ok.reval 58 rfl (show (.bool (decide (xdeep ≥ 3)) : Value) = .bool ((!((tssS e10.kids (w6 (xdeep + 1))).2)) || (decide (xdeep ≥ 3))) from congrArg Value.bool (mor_f hc15)) (Ok.bat 0 [1, 6, 15, 16, 17, 22, 23, 24, 32, 33, 34] [(58, .bool ((!((tssS e10.kids (w6 (xdeep + 1))).2)) || (decide (xdeep ≥ 3))))] ?_)
              exact hR14
            refine Ok.bat 1 [1, 6, 15, 16, 17, 22, 23, 24, 32, 33, 34] [(59, .bool ((!((tssS e10.kids (w6 (xdeep + 1))).2)) || (decide (xdeep ≥ 3))))] ?_
            refine Ok.midway 3 [(1, .int .i64 xdeep), (6, .int .i64 (w6 (x6l39 + (tssS e10.kids (w6 (xdeep + 1))).1))), (15, .slice axl_0 xl.length cxl_0), (16, .int .i64 (xl.length : Int)), (17, .int .i64 x17l9), (22, .slice a2_0 e3.1.length c2_0), (23, .int .i64 (e3.1.length : Int)), (24, .int .i64 x24l23), (32, .slice a6_0 e7.length c6_0), (33, .int .i64 (e7.length : Int)), (34, .int .i64 x34l39), (62, .bool (((!((tssS e10.kids (w6 (xdeep + 1))).2)) || (decide (xdeep ≥ 3))) || (decide ((w6 (x6l39 + (tssS e10.kids (w6 (xdeep + 1))).1)) > 40))))] (fun hR16 => ?_) ?_
            ·refine Ok.boolAt 59 (((!((tssS e10.kids (w6 (xdeep + 1))).2)) || (decide (xdeep ≥ 3)))) rfl (fun hc17 => ?_) (fun hc17 => ?_)
             ·skip
              refine Ok.bat 3 [1, 6, 15, 16, 17, 22, 23, 24, 32, 33, 34] [(62, .bool true)] ?_
              refine Ok.reval 62 rfl (show (.bool true : Value) = .bool (((!((tssS e10.kids (w6 (xdeep + 1))).2)) || (decide (xdeep ≥ 3))) || (decide ((w6 (x6l39 + (tssS e10.kids (w6 (xdeep + 1))).1)) > 40))) from congrArg Value.bool (mor_t hc17)) (Ok.bat 0 [1, 6, 15, 16, 17, 22, 23, 24, 32, 33, 34] [(62, .bool (((!((tssS e10.kids (w6 (xdeep + 1))).2)) || (decide (xdeep ≥ 3))) || (decide ((w6 (x6l39 + (tssS e10.kids (w6 (xdeep + 1))).1)) > 40))))] ?_)
              exact hR16
             ·skip
              refine Ok.bat 3 [1, 6, 15, 16, 17, 22, 23, 24, 32, 33, 34] [(62, .bool (decide ((w6 (x6l39 + (tssS e10.kids (w6 (xdeep + 1))).1)) > 40)))] ?_
              refine Ok.reval 62 rfl (show (.bool (decide ((w6 (x6l39 + (tssS e10.kids (w6 (xdeep + 1))).1)) > 40)) : Value) = .bool (((!((tssS e10.kids (w6 (xdeep + 1))).2)) || (decide (xdeep ≥ 3))) || (decide ((w6 (x6l39 + (tssS e10.kids (w6 (xdeep + 1))).1)) > 40))) from congrArg Value.bool (mor_f hc17)) (Ok.bat 0 [1, 6, 15, 16, 17, 22, 23, 24, 32, 33, 34] [(62, .bool (((!((tssS e10.kids (w6 (xdeep + 1))).2)) || (decide (xdeep ≥ 3))) || (decide ((w6 (x6l39 + (tssS e10.kids (w6 (xdeep + 1))).1)) > 40))))] ?_)
              exact hR16
            refine Ok.nil (Ok.thenN (Ok.cond (b := (((!((tssS e10.kids (w6 (xdeep + 1))).2)) || (decide (xdeep ≥ 3))) || (decide ((w6 (x6l39 + (tssS e10.kids (w6 (xdeep + 1))).1)) > 40)))) rfl (fun hc18 => ?_) (fun hc18 => ?_)))
            ·replace hF := hF.1 hc18
             refine Ok.seq (Ok.region (Ok.batch 3 [(4, .int .i64 (w6 (x6l39 + (tssS e10.kids (w6 (xdeep + 1))).1))), (5, .bool false)] (by kernel_rfl) (Ok.nil (Ok.thenN (Ok.ret (Ok.blockR (Ok.thenR (Ok.thenR (Ok.blockR (Ok.blockR (Ok.thenR (Ok.thenR (Ok.blockR (Ok.blockR (Ok.thenR (Ok.thenR (Ok.blockR (Ok.thenR ?_))))))))))))))))))
             exact Ok.resP (vs := [.int .i64 (w6 (x6l39 + (tssS e10.kids (w6 (xdeep + 1))).1)), .bool false]) [] [] (by decide) rfl (.inl rfl) rfl (.cons (.tmp rfl) (.cons (.tmp rfl) .nil)) (Gext.refl w0 g) ⟨(w6 (x6l39 + (tssS e10.kids (w6 (xdeep + 1))).1)), false, rfl, rfl, hF⟩
            ·replace hF := hF.2 hc18
             refine Ok.skip (Ok.blockN (Ok.thenN ?_))
             subst hg10
             refine Ok.reval 6 rfl (show (.int .i64 (w6 (x6l39 + (tssS (e7.getD (Int.toNat x34l39) default).kids (w6 (xdeep + 1))).1)) : Value) = .int .i64 (tssV4 xdeep e7 x6l39 x34l39) from congrArg (Value.int .i64) ((if_f hc12).symm)) ?_
             exact fun a W hA hW => ⟨hA.sub (by kernel_rfl), hW.sub (.cons _ .slnil), hF⟩
          ·
           clear hF
           rintro a W ⟨hA, hW, hF⟩
           refine (?_ : Ok _ _ _ _ _ _) a W hA hW
           clear hA hW
           refine Ok.region (Ok.bat 2 [1, 6, 15, 16, 17, 22, 23, 24, 32, 33] [(34, .int .i64 (w6 (x34l39 + 1)))] ?_)
           refine Ok.nil (Ok.thenN ?_)
           exact fun a W hA hW => ⟨k39, Nat.lt_succ_self _, (tssV4 xdeep e7 x6l39 x34l39), w6 (x34l39 + 1), hA.sub (by kernel_rfl), hW, hF⟩
         ·replace hF := hF.2 hc8
          refine Ok.exit (Ok.thenE (Ok.thenE (Ok.blockHit (Ok.blockN (Ok.thenN (Ok.region (Ok.bat 2 [1, 6, 15, 16, 17, 22, 23] [(24, .int .i64 (w6 (x24l23 + 1)))] ?_)))))))
          refine Ok.nil (Ok.thenN ?_)
          subst hg7
          exact fun a W hA hW => ⟨k23, Nat.lt_succ_self _, x6l39, w6 (x24l23 + 1), hA.sub (by kernel_rfl), hW, hF⟩
      ·replace hF := hF.2 hc5
       refine Ok.exit (Ok.thenE (Ok.thenE (Ok.blockHit (Ok.blockN (Ok.thenN (Ok.region (Ok.bat 2 [1, 6, 15, 16] [(17, .int .i64 (w6 (x17l9 + 1)))] ?_)))))))
       refine Ok.nil (Ok.thenN ?_)
       subst hg3
       exact fun a W hA hW => ⟨k9, Nat.lt_succ_self _, x6l23, w6 (x17l9 + 1), hA.sub (by kernel_rfl), hW, hF⟩
   ·replace hF := hF.2 hc1
    refine Ok.exit (Ok.thenE (Ok.thenE (Ok.blockHit (Ok.thenN (Ok.seq (Ok.region (Ok.batch 5 [(4, .int .i64 x6l9), (5, .bool (decide (x6l9 ≤ 40)))] (by kernel_rfl) (Ok.nil (Ok.thenN (Ok.ret ?_))))))))))
    exact Ok.resH (vs := [.int .i64 x6l9, .bool (decide (x6l9 ≤ 40))]) (.inl rfl) rfl (.cons (.tmp rfl) (.cons (.tmp rfl) .nil)) (Gext.refl w0 g) ⟨x6l9, (decide (x6l9 ≤ 40)), rfl, rfl, hF⟩
theorem tss_0 (l : List Ph) (d : Int) : ¬ tssP 0 l d := fun h => absurd h.1 (Nat.not_lt_zero _)
theorem tss39 {N : Nat} {d : Int} {r : Int × Bool} (hd : 0 ≤ d ∧ d ≤ 1000000000) (s : List Ts) (hs : ∀ t ∈ s, tssP N t.kids (d + 1)) (hl : s.length ≤ 1048600) (k : Int) (C : Int → Int → Prop) (F : Int → Int × Bool) (U : Int) (hU : U ≤ 4000000)
  (hC : ∀ n, 0 ≤ n → n ≤ U → r = F n → C n (w6 (k + 1))) : ∀ (m i : Nat) (n : Int), i + m = s.length → 0 ≤ n → n + w1 (s.drop i) ≤ U + m →
  r = (if (ts1 (s.drop i) d n).2 = true then F (ts1 (s.drop i) d n).1 else ((ts1 (s.drop i) d n).1, false)) → tssl39 N d (fun a b => (a, b) = r) s k C (m + 1) n (i : Int) := by
 intro m
 induction m with
 | zero =>
  intro i n hi hn hu he
  rw [List.drop_of_length_le (by omega)] at he
  exact ⟨fun hc => absurd (of_decide_eq_true hc) (by omega), fun _ => hC n hn (by omega) (by rw [he, ts1, if_pos rfl])⟩
 | succ m ih =>
  intro i n hi hn hu he
  have hi' : i < s.length := by omega
  have ht := hs _ (get_in default hi')
  have hb := bT_kids (s.getD i default)
  have hbd := (bdT (s.getD i default) (d + 1)).1
  rw [drop_get (l := s) default hi', ts1, tsT_eq] at he
  rw [drop_get (l := s) default hi', w1] at hu
  rw [tsT_eq] at hbd
  refine ⟨fun _ => ⟨by omega, by rw [Int.toNat_natCast]; omega, ?_⟩, fun hc => absurd (of_decide_eq_false hc) (by omega)⟩
  have key : ∀ n', tssV4 d s n (i : Int) = n' → 0 ≤ n' → n' + w1 (s.drop (i + 1)) ≤ U + m → r = (if (ts1 (s.drop (i + 1)) d n').2 = true then F (ts1 (s.drop (i + 1)) d n').1 else ((ts1 (s.drop (i + 1)) d n').1, false)) → tssj46 d s n (i : Int) (tssl39 N d (fun a b => (a, b) = r) s k C (m + 1)) := by
   intro n' hn' h0 h1 h2
   unfold tssj46
   rw [hn', w64 (by omega), show (i : Int) + 1 = ((i + 1 : Nat) : Int) by omega]
   exact ih (i + 1) n' (by omega) h0 h1 h2
  unfold tssV4 at key
  rw [Int.toNat_natCast] at key ⊢
  generalize s.getD i default = t at *
  rw [w64 (x := d + 1) (by omega)] at key ⊢
  have hcn : (((t.kids.length : Int) == 0) = true) = (t.kids.length = 0) := by simp
  refine ⟨fun hc => ?_, fun hc => ⟨ht, fun hb2 => ?_, fun hb2 => ?_⟩⟩
  ·rw [if_t hc] at key
   rw [hcn] at hc
   rw [if_pos hc] at he
   exact key n rfl hn (by omega) he
  ·have hc2 : ¬ t.kids.length = 0 := by rw [← hcn, hc]; simp
   rw [if_neg hc2] at he
   unfold tssS at hb2 ⊢
   rw [w64 (x := n + _) (by omega)] at hb2 ⊢
   rw [Bool.or_assoc] at hb2
   rw [hb2] at he
   simp only [Bool.false_eq_true, ↓reduceIte] at he
   exact he.symm
  ·have hc2 : ¬ t.kids.length = 0 := by rw [← hcn, hc]; simp
   rw [if_neg hc2] at he
   rw [if_f hc] at key
   unfold tssS at hb2 key
   rw [w64 (x := n + _) (by omega)] at hb2 key
   rw [Bool.or_assoc] at hb2
   rw [hb2] at he
   simp only [Bool.false_eq_true, ↓reduceIte] at he
   exact key _ rfl (by omega) (by omega) he
theorem tss23 {N : Nat} {d : Int} {r : Int × Bool} (hd : 0 ≤ d ∧ d ≤ 1000000000) (q : Ph) (hs : ∀ s ∈ q.1, ∀ t ∈ s, tssP N t.kids (d + 1)) (hw : w2 q.1 ≤ 1048600) (k : Int) (C : Int → Int → Prop) (F : Int → Int × Bool) (U : Int) (hU : U ≤ 2000000)
  (hC : ∀ n, 0 ≤ n → n ≤ U → r = F n → C n (w6 (k + 1))) : ∀ (m i : Nat) (n : Int), i + m = q.1.length → 0 ≤ n → n + w2 (q.1.drop i) ≤ U →
  r = (if (ts2 (q.1.drop i) d n).2 = true then F (ts2 (q.1.drop i) d n).1 else ((ts2 (q.1.drop i) d n).1, false)) → tssl23 N d (fun a b => (a, b) = r) q k C (m + 1) n (i : Int) := by
 intro m
 induction m with
 | zero =>
  intro i n hi hn hu he
  rw [List.drop_of_length_le (by omega)] at he
  exact ⟨fun hc => absurd (of_decide_eq_true hc) (by omega), fun _ => hC n hn (by omega) (by rw [he, ts2, if_pos rfl])⟩
 | succ m ih =>
  intro i n hi hn hu he
  have hi' : i < q.1.length := by omega
  have ht := hs _ (get_in default hi')
  have hl := w1_len (q.1.getD i default)
  have hw2 := w2_in (get_in default hi')
  have hql := w2_len q.1
  rw [drop_get (l := q.1) default hi', ts2] at he
  rw [drop_get (l := q.1) default hi', w2] at hu
  refine ⟨fun _ => ⟨by omega, by rw [Int.toNat_natCast]; omega, ?_⟩, fun hc => absurd (of_decide_eq_false hc) (by omega)⟩
  rw [Int.toNat_natCast]
  generalize q.1.getD i default = s at *
  rw [w64 (by omega)]
  refine ⟨_, tss39 hd s ht (by omega) (i : Int) _ (fun n => if (ts2 (q.1.drop (i + 1)) d n).2 = true then F (ts2 (q.1.drop (i + 1)) d n).1 else ((ts2 (q.1.drop (i + 1)) d n).1, false)) (n + w1 s) (by omega) (fun n' h0 h1 h2 => ?_) s.length 0 (n + s.length) (by omega) (by omega) (by rw [List.drop_zero]; omega) ?_⟩
  ·rw [w64 (by omega), show (i : Int) + 1 = ((i + 1 : Nat) : Int) by omega]
   exact ih (i + 1) n' (by omega) h0 (by omega) h2
  ·rw [List.drop_zero, he]
   cases hb : (ts1 s d (n + s.length)).2
   ·rw [if_neg (by simp), if_neg (by simp), if_neg (by simp)]
   ·rw [if_pos rfl, if_pos rfl]
theorem tss_F (N : Nat) (l : List Ph) (d : Int) (h : tssP (N + 1) l d) : tssF N l d (fun a b => (a, b) = tssS l d) := by
 have h5 := b3_eq l
 have hlen := w3_len l
 have hin := fun q hq s hs t ht => tssP_in h (q := q) hq (s := s) hs (t := t) ht
 obtain ⟨_, hb, hd0, hd1⟩ := h
 have loop : ∀ (m i : Nat) (n : Int), i + m = l.length → 0 ≤ n → n + w3 (l.drop i) ≤ 1048600 → tssS l d = ts3 (l.drop i) d n → tssl9 N l d (fun a b => (a, b) = tssS l d) (m + 1) n (i : Int) := by
  intro m
  induction m with
  | zero =>
   intro i n hi hn hu he
   rw [List.drop_of_length_le (by omega), ts3] at he
   exact ⟨fun hc => absurd (of_decide_eq_true hc) (by omega), fun _ => he.symm⟩
  | succ m ih =>
   intro i n hi hn hu he
   have hi' : i < l.length := by omega
   have hq := get_in default hi'
   have hwq := w3_in hq
   rw [drop_get (l := l) default hi'] at he hu
   rw [w3] at hu
   refine ⟨fun _ => ⟨by omega, by rw [Int.toNat_natCast]; omega, ?_⟩, fun hc => absurd (of_decide_eq_false hc) (by omega)⟩
   rw [Int.toNat_natCast]
   have hin2 := hin _ hq
   generalize l.getD i default = q at *
   obtain ⟨p, js⟩ := q
   rw [ts3] at he
   have hu : n + ((w2 p + js.length + 2 + w3 (l.drop (i + 1)) : Nat) : Int) ≤ 1048600 := hu
   have hwq : w2 p + js.length + 2 ≤ w3 l := hwq
   refine ⟨_, tss23 ⟨hd0, by omega⟩ (p, js) hin2 (by show w2 p ≤ _; omega) (i : Int) _ (fun n => ts3 (l.drop (i + 1)) d n) (n + w2 p) (by omega) (fun n' h0 h1 h2 => ?_) p.length 0 n (by show 0 + p.length = p.length; omega) hn (by show n + w2 (p.drop 0) ≤ _; rw [List.drop_zero]; omega) ?_⟩
   ·rw [w64 (by omega), show (i : Int) + 1 = ((i + 1 : Nat) : Int) by omega]
    exact ih (i + 1) n' (by omega) h0 (by omega) h2
   ·show tssS l d = (if (ts2 (p.drop 0) d n).2 = true then _ else _)
    rw [List.drop_zero]
    exact he
 exact ⟨_, loop l.length 0 0 (by omega) (by omega) (by rw [List.drop_zero]; omega) (by rw [List.drop_zero]; rfl)⟩
theorem tss_rec : ∀ N, tss_C N
 | 0 => (by intro g axl_0 cxl_0 xl xdeep hRxl_0 hp; exact (tss_0 xl xdeep hp).elim)
 | N + 1 =>
  have ih := tss_rec N
  (by intro g axl_0 cxl_0 xl xdeep hRxl_0 hp; exact (tss_ok N ih xl xdeep hRxl_0 _ (tss_F N xl xdeep hp)).gives (by rintro g' H' v _ ⟨r0, r1, rfl, rfl, hK⟩; obtain ⟨rfl, rfl⟩ : r0 = (tssS xl xdeep).1 ∧ r1 = (tssS xl xdeep).2 := ⟨congrArg (fun z => z.1) hK, congrArg (fun z => z.2) hK⟩; rfl))
def tssPE (xl : List ((List (List (Tst (Int × Bs × Int × Bs × Int × Int)))) × List (Int))) (xdeep : Int) : Prop := ∃ N, tssP N xl xdeep
theorem tss_c {g : Ghost} {axl_0 : Option Addr} {cxl_0 : Nat} (xl : List ((List (List (Tst (Int × Bs × Int × Bs × Int × Int)))) × List (Int))) (xdeep : Int) (hRxl_0 : Rep g (.slice (.pair (.slice (.slice (.tst (.pair (.int .i64) (.pair (.str) (.pair (.int .u8) (.pair (.str) (.pair (.int .i64) (.int .i64))))))))) (.slice (.int .u8)))) [.slice axl_0 xl.length cxl_0] xl)  (hp : tssPE xl xdeep) : CallsG Tryz.prog 31 #[.slice axl_0 xl.length cxl_0, .int .i64 xdeep] g (.tuple #[.int .i64 (tssS xl xdeep).1, .bool (tssS xl xdeep).2]) := by
 obtain ⟨N, hp⟩ := hp
 exact (tss_rec N) _ xl xdeep hRxl_0 hp
def tinS (l : List Ph) (d : Int) : Int := ri3 l d 0
def tinP (N : Nat) (l : List Ph) (d : Int) : Prop := tssP N l d
def tin_C (N : Nat) : Prop := ∀ (g : Ghost) {axl_0 : Option Addr} {cxl_0 : Nat} (xl : List ((List (List (Tst (Int × Bs × Int × Bs × Int × Int)))) × List (Int))) (xdeep : Int) (hRxl_0 : Rep g (.slice (.pair (.slice (.slice (.tst (.pair (.int .i64) (.pair (.str) (.pair (.int .u8) (.pair (.str) (.pair (.int .i64) (.int .i64))))))))) (.slice (.int .u8)))) [.slice axl_0 xl.length cxl_0] xl)  (hp : tinP N xl xdeep), CallsG Tryz.prog 17 #[.slice axl_0 xl.length cxl_0, .int .i64 xdeep] g (.int .i64 (tinS xl xdeep))
def tinV2 (xdeep : Int) (e12 : Tst (Int × Bs × Int × Bs × Int × Int)) (x5l33 : Int) : Int :=
 (if ((decide (xdeep < 3)) && (decide ((w6 (x5l33 + 1)) ≤ 40))) = true then (tinS e12.kids (w6 (xdeep + 1))) else -1)
def tinV8 (xdeep : Int) (e7 : List (Tst (Int × Bs × Int × Bs × Int × Int))) (x5l33 : Int) (x8l33 : Int) : Int :=
 (if (((e7.getD (Int.toNat x8l33) default).kids.length : Int) == 0) = true then w6 (x5l33 + 1) else w6 ((w6 (x5l33 + 1)) + (tinV2 xdeep (e7.getD (Int.toNat x8l33) default) x5l33)))
def tinj40 (xdeep : Int) (e3 : (List (List (Tst (Int × Bs × Int × Bs × Int × Int)))) × List (Int)) (x5l33 : Int) (x8l33 : Int) (x7l21 : Int) (C33 : Int → Int → Prop) : Prop :=
 C33 (tinV8 xdeep (e3.1.getD (Int.toNat x7l21) default) x5l33 x8l33) (w6 (x8l33 + 1))
def tinj54 (xdeep : Int) (K : Int → Prop) (e3 : (List (List (Tst (Int × Bs × Int × Bs × Int × Int)))) × List (Int)) (e12 : Tst (Int × Bs × Int × Bs × Int × Int)) (x5l33 : Int) (x8l33 : Int) (x7l21 : Int) (C33 : Int → Int → Prop) : Prop :=
 ((decide ((tinV2 xdeep e12 x5l33) < 0)) = true → K (-1)) ∧ ((decide ((tinV2 xdeep e12 x5l33) < 0)) = false → tinj40 xdeep e3 x5l33 x8l33 x7l21 C33)
def tinl33b (N : Nat) (xdeep : Int) (K : Int → Prop) (e3 : (List (List (Tst (Int × Bs × Int × Bs × Int × Int)))) × List (Int)) (x7l21 : Int) (C21 : Int → Int → Prop) (x5l33 : Int) (x8l33 : Int) (C33 : Int → Int → Prop) : Prop :=
 (0 : Int) ≤ x7l21 ∧ Int.toNat x7l21 < e3.1.length ∧ ((decide (x8l33 < ((e3.1.getD (Int.toNat x7l21) default).length : Int))) = true → (0 : Int) ≤ x8l33 ∧ Int.toNat x8l33 < (e3.1.getD (Int.toNat x7l21) default).length ∧ ((((((e3.1.getD (Int.toNat x7l21) default).getD (Int.toNat x8l33) default).kids.length : Int) == 0)) = true → tinj40 xdeep e3 x5l33 x8l33 x7l21 C33) ∧ ((((((e3.1.getD (Int.toNat x7l21) default).getD (Int.toNat x8l33) default).kids.length : Int) == 0)) = false → ((((decide (xdeep < 3)) && (decide ((w6 (x5l33 + 1)) ≤ 40)))) = true → tinP N ((e3.1.getD (Int.toNat x7l21) default).getD (Int.toNat x8l33) default).kids (w6 (xdeep + 1)) ∧ tinj54 xdeep K e3 ((e3.1.getD (Int.toNat x7l21) default).getD (Int.toNat x8l33) default) x5l33 x8l33 x7l21 C33) ∧ ((((decide (xdeep < 3)) && (decide ((w6 (x5l33 + 1)) ≤ 40)))) = false → tinj54 xdeep K e3 ((e3.1.getD (Int.toNat x7l21) default).getD (Int.toNat x8l33) default) x5l33 x8l33 x7l21 C33))) ∧ ((decide (x8l33 < ((e3.1.getD (Int.toNat x7l21) default).length : Int))) = false → C21 x5l33 (w6 (x7l21 + 1)))
def tinl33 (N : Nat) (xdeep : Int) (K : Int → Prop) (e3 : (List (List (Tst (Int × Bs × Int × Bs × Int × Int)))) × List (Int)) (x7l21 : Int) (C21 : Int → Int → Prop) : Nat → Int → Int → Prop
 | 0, _, _ => False
 | k + 1, x5l33, x8l33 => tinl33b N xdeep K e3 x7l21 C21 x5l33 x8l33 (tinl33 N xdeep K e3 x7l21 C21 k)
def tinl21b (N : Nat) (xl : List ((List (List (Tst (Int × Bs × Int × Bs × Int × Int)))) × List (Int))) (xdeep : Int) (K : Int → Prop) (x6l9 : Int) (C9 : Int → Int → Prop) (x5l21 : Int) (x7l21 : Int) (C21 : Int → Int → Prop) : Prop :=
 (0 : Int) ≤ x6l9 ∧ Int.toNat x6l9 < xl.length ∧ ((decide (x7l21 < ((xl.getD (Int.toNat x6l9) default).1.length : Int))) = true → ∃ k, tinl33 N xdeep K (xl.getD (Int.toNat x6l9) default) x7l21 C21 k x5l21 0) ∧ ((decide (x7l21 < ((xl.getD (Int.toNat x6l9) default).1.length : Int))) = false → C9 x5l21 (w6 (x6l9 + 1)))
def tinl21 (N : Nat) (xl : List ((List (List (Tst (Int × Bs × Int × Bs × Int × Int)))) × List (Int))) (xdeep : Int) (K : Int → Prop) (x6l9 : Int) (C9 : Int → Int → Prop) : Nat → Int → Int → Prop
 | 0, _, _ => False
 | k + 1, x5l21, x7l21 => tinl21b N xl xdeep K x6l9 C9 x5l21 x7l21 (tinl21 N xl xdeep K x6l9 C9 k)
def tinl9b (N : Nat) (xl : List ((List (List (Tst (Int × Bs × Int × Bs × Int × Int)))) × List (Int))) (xdeep : Int) (K : Int → Prop) (x5l9 : Int) (x6l9 : Int) (C9 : Int → Int → Prop) : Prop :=
 ((decide (x6l9 < (xl.length : Int))) = true → ∃ k, tinl21 N xl xdeep K x6l9 C9 k x5l9 0) ∧ ((decide (x6l9 < (xl.length : Int))) = false → K x5l9)
def tinl9 (N : Nat) (xl : List ((List (List (Tst (Int × Bs × Int × Bs × Int × Int)))) × List (Int))) (xdeep : Int) (K : Int → Prop) : Nat → Int → Int → Prop
 | 0, _, _ => False
 | k + 1, x5l9, x6l9 => tinl9b N xl xdeep K x5l9 x6l9 (tinl9 N xl xdeep K k)
def tinF (N : Nat) (xl : List ((List (List (Tst (Int × Bs × Int × Bs × Int × Int)))) × List (Int))) (xdeep : Int) (K : Int → Prop) : Prop :=
 ∃ k, tinl9 N xl xdeep K k 0 0
theorem tin_ok {g : Ghost} (N : Nat) (ih_tin : tin_C N) {axl_0 : Option Addr} {cxl_0 : Nat} (xl : List ((List (List (Tst (Int × Bs × Int × Bs × Int × Int)))) × List (Int))) (xdeep : Int) (hRxl_0 : Rep g (.slice (.pair (.slice (.slice (.tst (.pair (.int .i64) (.pair (.str) (.pair (.int .u8) (.pair (.str) (.pair (.int .i64) (.int .i64))))))))) (.slice (.int .u8)))) [.slice axl_0 xl.length cxl_0] xl) (K : Int → Prop)
  (hF : tinF N xl xdeep K) : CallsH Tryz.prog 17 #[.slice axl_0 xl.length cxl_0, .int .i64 xdeep] g [] (fun g' H' v => ∃ (r0 : Int), v = .int .i64 r0 ∧ H' = [] ∧ K r0) := by
 refine CallsH.enter 74 [(0, .slice axl_0 xl.length cxl_0), (1, .int .i64 xdeep)] Tryz.func17 rfl (by kernel_rfl) (by kernel_rfl) (by kernel_rfl) fun w0 => ?_
 refine Ok.seq (Ok.region (Ok.batch 1 [(0, .slice axl_0 xl.length cxl_0), (1, .int .i64 xdeep)] (by kernel_rfl) (Ok.nil (Ok.thenN (Ok.seq (Ok.region (Ok.bat 1 [0, 1] [(5, .int .i64 0)] ?_)))))))
 refine Ok.nil (Ok.thenN (Ok.seq (Ok.seq (Ok.region (Ok.bat 1 [0, 1, 5] [(6, .int .i64 0)] ?_)))))
 refine Ok.nil (Ok.thenN (Ok.block ?_))
 obtain ⟨k, hF⟩ := hF
 refine Ok.loop (fun k a W => ∃ (x5l9 : Int) (x6l9 : Int), StA 74 [(0, .slice axl_0 xl.length cxl_0), (1, .int .i64 xdeep), (5, .int .i64 x5l9), (6, .int .i64 x6l9)] a ∧ StW w0 [] g W ∧ tinl9 N xl xdeep K k x5l9 x6l9) k ?_ ?_
 ·
  exact fun a W hA hW => ⟨0, 0, hA.sub (by kernel_rfl), hW, hF⟩
 ·
  clear hF
  rintro k9 a W ⟨x5l9, x6l9, hA, hW, hF⟩
  cases k9 with
  | zero => exact (hF : False).elim
  | succ k9 =>
   refine (?_ : Ok _ _ _ _ _ _) a W hA hW
   clear hA hW
   refine Ok.seq (Ok.seq (Ok.region (Ok.bat 4 [0, 1, 5, 6] [(14, .bool (decide (x6l9 < (xl.length : Int))))] ?_)))
   refine Ok.nil (Ok.thenN (Ok.cond (b := decide (x6l9 < (xl.length : Int))) rfl (fun hc1 => ?_) (fun hc1 => ?_)))
   ·replace hF := hF.1 hc1
    refine Ok.skip (Ok.thenN (Ok.seq (Ok.block (Ok.seq (Ok.region (Ok.bat 1 [0, 1, 5, 6] [(7, .int .i64 0)] ?_))))))
    refine Ok.nil (Ok.thenN (Ok.block ?_))
    obtain ⟨k, hF⟩ := hF
    refine Ok.loop (fun k a W => ∃ (x5l21 : Int) (x7l21 : Int), StA 74 [(0, .slice axl_0 xl.length cxl_0), (1, .int .i64 xdeep), (5, .int .i64 x5l21), (6, .int .i64 x6l9), (7, .int .i64 x7l21)] a ∧ StW w0 [] g W ∧ tinl21 N xl xdeep K x6l9 (tinl9 N xl xdeep K k9) k x5l21 x7l21) k ?_ ?_
    ·
     exact fun a W hA hW => ⟨x5l9, 0, hA.sub (by kernel_rfl), hW, hF⟩
    ·
     clear hF
     rintro k21 a W ⟨x5l21, x7l21, hA, hW, hF⟩
     cases k21 with
     | zero => exact (hF : False).elim
     | succ k21 =>
      refine (?_ : Ok _ _ _ _ _ _) a W hA hW
      clear hA hW
      refine Ok.seq (Ok.seq (Ok.region (Ok.bat 3 [0, 1, 5, 6, 7] [(17, .int .i64 x7l21), (18, .slice axl_0 xl.length cxl_0), (19, .int .i64 x6l9)] ?_)))
      obtain ⟨h03, h13, hF⟩ := hF
      have he3 := get_of (l := xl) (default : (List (List (Tst (Int × Bs × Int × Bs × Int × Int)))) × List (Int)) h13
      generalize hg3 : (xl.getD (Int.toNat x6l9) default) = e3 at he3 hF ⊢
      refine Ok.op rfl (OpOk.indexRo (e := .pair (.slice (.slice (.tst (.pair (.int .i64) (.pair (.str) (.pair (.int .u8) (.pair (.str) (.pair (.int .i64) (.int .i64))))))))) (.slice (.int .u8))) (i := x6l9) (el := e3) rfl rfl Tryz.underlying29 (by kernel_rfl) hRxl_0 h03 he3 rfl fun q2 o2 cs2 _ hat2 hr2 => ?_)
      obtain ⟨_, _, rfl, ⟨a2_0, c2_0, rfl, hm2_0, hr2_0⟩, ⟨a2_1, c2_1, rfl, hm2_1, hr2_1⟩⟩ := hr2
      have hR2_0 : Rep g (.slice (.slice (.tst (.pair (.int .i64) (.pair (.str) (.pair (.int .u8) (.pair (.str) (.pair (.int .i64) (.int .i64))))))))) [.slice a2_0 e3.1.length c2_0] e3.1 := ⟨a2_0, c2_0, rfl, hm2_0, hr2_0⟩
      have hR2_1 : Rep g (.slice (.int .u8)) [.slice a2_1 e3.2.length c2_1] e3.2 := ⟨a2_1, c2_1, rfl, hm2_1, hr2_1⟩
      replace hat2 : At g q2 o2 [.slice a2_0 e3.1.length c2_0, .slice a2_1 e3.2.length c2_1] := hat2
      refine Ok.bat 1 [0, 1, 5, 6, 7, 17] [(21, pv q2 o2)] ?_
      refine Ok.op rfl (OpOk.step (v := .slice a2_0 e3.1.length c2_0) (Yields.loadRo 0 hat2 (by kernel_rfl) Tryz.underlying22 rfl (by kernel_rfl)) rfl rfl (Ok.bat 2 [0, 1, 5, 6, 7] [(24, .bool (decide (x7l21 < (e3.1.length : Int))))] ?_))
      refine Ok.nil (Ok.thenN (Ok.cond (b := decide (x7l21 < (e3.1.length : Int))) rfl (fun hc4 => ?_) (fun hc4 => ?_)))
      ·replace hF := hF.1 hc4
       refine Ok.skip (Ok.thenN (Ok.seq (Ok.block (Ok.seq (Ok.region (Ok.bat 1 [0, 1, 5, 6, 7] [(8, .int .i64 0)] ?_))))))
       refine Ok.nil (Ok.thenN (Ok.block ?_))
       obtain ⟨k, hF⟩ := hF
       refine Ok.loop (fun k a W => ∃ (x5l33 : Int) (x8l33 : Int), StA 74 [(0, .slice axl_0 xl.length cxl_0), (1, .int .i64 xdeep), (5, .int .i64 x5l33), (6, .int .i64 x6l9), (7, .int .i64 x7l21), (8, .int .i64 x8l33)] a ∧ StW w0 [] g W ∧ tinl33 N xdeep K e3 x7l21 (tinl21 N xl xdeep K x6l9 (tinl9 N xl xdeep K k9) k21) k x5l33 x8l33) k ?_ ?_
       ·
        exact fun a W hA hW => ⟨x5l21, 0, hA.sub (by kernel_rfl), hW, hF⟩
       ·
        clear hF
        rintro k33 a W ⟨x5l33, x8l33, hA, hW, hF⟩
        cases k33 with
        | zero => exact (hF : False).elim
        | succ k33 =>
         refine (?_ : Ok _ _ _ _ _ _) a W hA hW
         clear hA hW
         refine Ok.seq (Ok.seq (Ok.region (Ok.bat 3 [0, 1, 5, 6, 7, 8] [(27, .int .i64 x8l33), (28, .slice axl_0 xl.length cxl_0), (29, .int .i64 x6l9)] ?_)))
         refine Ok.op rfl (OpOk.indexRo (e := .pair (.slice (.slice (.tst (.pair (.int .i64) (.pair (.str) (.pair (.int .u8) (.pair (.str) (.pair (.int .i64) (.int .i64))))))))) (.slice (.int .u8))) (i := x6l9) (el := e3) rfl rfl Tryz.underlying29 (by kernel_rfl) hRxl_0 h03 he3 rfl fun q5 o5 cs5 _ hat5 hr5 => ?_)
         obtain ⟨_, _, rfl, ⟨a5_0, c5_0, rfl, hm5_0, hr5_0⟩, ⟨a5_1, c5_1, rfl, hm5_1, hr5_1⟩⟩ := hr5
         have hR5_0 : Rep g (.slice (.slice (.tst (.pair (.int .i64) (.pair (.str) (.pair (.int .u8) (.pair (.str) (.pair (.int .i64) (.int .i64))))))))) [.slice a5_0 e3.1.length c5_0] e3.1 := ⟨a5_0, c5_0, rfl, hm5_0, hr5_0⟩
         have hR5_1 : Rep g (.slice (.int .u8)) [.slice a5_1 e3.2.length c5_1] e3.2 := ⟨a5_1, c5_1, rfl, hm5_1, hr5_1⟩
         replace hat5 : At g q5 o5 [.slice a5_0 e3.1.length c5_0, .slice a5_1 e3.2.length c5_1] := hat5
         refine Ok.bat 1 [0, 1, 5, 6, 7, 8, 27] [(31, pv q5 o5)] ?_
         refine Ok.op rfl (OpOk.step (v := .slice a5_0 e3.1.length c5_0) (Yields.loadRo 0 hat5 (by kernel_rfl) Tryz.underlying22 rfl (by kernel_rfl)) rfl rfl (Ok.bat 1 [0, 1, 5, 6, 7, 8, 27] [(32, .slice a5_0 e3.1.length c5_0), (33, .int .i64 x7l21)] ?_))
         obtain ⟨h07, h17, hF⟩ := hF
         have he7 := get_of (l := e3.1) (default : List (Tst (Int × Bs × Int × Bs × Int × Int))) h17
         generalize hg7 : (e3.1.getD (Int.toNat x7l21) default) = e7 at he7 hF ⊢
         refine Ok.op rfl (OpOk.indexRo (e := .slice (.tst (.pair (.int .i64) (.pair (.str) (.pair (.int .u8) (.pair (.str) (.pair (.int .i64) (.int .i64)))))))) (i := x7l21) (el := e7) rfl rfl Tryz.underlying22 (by kernel_rfl) hR5_0 h07 he7 rfl fun q6 o6 cs6 _ hat6 hr6 => ?_)
         obtain ⟨a6_0, c6_0, rfl, hm6_0, hr6_0⟩ := hr6
         have hR6_0 : Rep g (.slice (.tst (.pair (.int .i64) (.pair (.str) (.pair (.int .u8) (.pair (.str) (.pair (.int .i64) (.int .i64)))))))) [.slice a6_0 e7.length c6_0] e7 := ⟨a6_0, c6_0, rfl, hm6_0, hr6_0⟩
         replace hat6 : At g q6 o6 [.slice a6_0 e7.length c6_0] := hat6
         refine Ok.op rfl (OpOk.step (v := .slice a6_0 e7.length c6_0) (Yields.loadRo 0 hat6 (by kernel_rfl) Tryz.underlying41 rfl (by kernel_rfl)) rfl rfl (Ok.bat 2 [0, 1, 5, 6, 7, 8] [(37, .bool (decide (x8l33 < (e7.length : Int))))] ?_))
         refine Ok.nil (Ok.thenN (Ok.cond (b := decide (x8l33 < (e7.length : Int))) rfl (fun hc8 => ?_) (fun hc8 => ?_)))
         ·replace hF := hF.1 hc8
          refine Ok.skip (Ok.thenN (Ok.cut (fun a W => StA 74 [(0, .slice axl_0 xl.length cxl_0), (1, .int .i64 xdeep), (5, .int .i64 (tinV8 xdeep e7 x5l33 x8l33)), (6, .int .i64 x6l9), (7, .int .i64 x7l21), (8, .int .i64 x8l33)] a ∧ StW w0 [] g W ∧ tinj40 xdeep e3 x5l33 x8l33 x7l21 (tinl33 N xdeep K e3 x7l21 (tinl21 N xl xdeep K x6l9 (tinl9 N xl xdeep K k9) k21) k33)) ?_ ?_))
          ·
           refine Ok.block (Ok.seq (Ok.region (Ok.bat 2 [0, 1, 5, 6, 7, 8] [(40, .slice axl_0 xl.length cxl_0), (41, .int .i64 x6l9)] ?_)))
           refine Ok.op rfl (OpOk.indexRo (e := .pair (.slice (.slice (.tst (.pair (.int .i64) (.pair (.str) (.pair (.int .u8) (.pair (.str) (.pair (.int .i64) (.int .i64))))))))) (.slice (.int .u8))) (i := x6l9) (el := e3) rfl rfl Tryz.underlying29 (by kernel_rfl) hRxl_0 h03 he3 rfl fun q9 o9 cs9 _ hat9 hr9 => ?_)
           obtain ⟨_, _, rfl, ⟨a9_0, c9_0, rfl, hm9_0, hr9_0⟩, ⟨a9_1, c9_1, rfl, hm9_1, hr9_1⟩⟩ := hr9
           have hR9_0 : Rep g (.slice (.slice (.tst (.pair (.int .i64) (.pair (.str) (.pair (.int .u8) (.pair (.str) (.pair (.int .i64) (.int .i64))))))))) [.slice a9_0 e3.1.length c9_0] e3.1 := ⟨a9_0, c9_0, rfl, hm9_0, hr9_0⟩
           have hR9_1 : Rep g (.slice (.int .u8)) [.slice a9_1 e3.2.length c9_1] e3.2 := ⟨a9_1, c9_1, rfl, hm9_1, hr9_1⟩
           replace hat9 : At g q9 o9 [.slice a9_0 e3.1.length c9_0, .slice a9_1 e3.2.length c9_1] := hat9
           refine Ok.bat 1 [0, 1, 5, 6, 7, 8] [(43, pv q9 o9)] ?_
           refine Ok.op rfl (OpOk.step (v := .slice a9_0 e3.1.length c9_0) (Yields.loadRo 0 hat9 (by kernel_rfl) Tryz.underlying22 rfl (by kernel_rfl)) rfl rfl (Ok.bat 1 [0, 1, 5, 6, 7, 8] [(44, .slice a9_0 e3.1.length c9_0), (45, .int .i64 x7l21)] ?_))
           refine Ok.op rfl (OpOk.indexRo (e := .slice (.tst (.pair (.int .i64) (.pair (.str) (.pair (.int .u8) (.pair (.str) (.pair (.int .i64) (.int .i64)))))))) (i := x7l21) (el := e7) rfl rfl Tryz.underlying22 (by kernel_rfl) hR9_0 h07 he7 rfl fun q10 o10 cs10 _ hat10 hr10 => ?_)
           obtain ⟨a10_0, c10_0, rfl, hm10_0, hr10_0⟩ := hr10
           have hR10_0 : Rep g (.slice (.tst (.pair (.int .i64) (.pair (.str) (.pair (.int .u8) (.pair (.str) (.pair (.int .i64) (.int .i64)))))))) [.slice a10_0 e7.length c10_0] e7 := ⟨a10_0, c10_0, rfl, hm10_0, hr10_0⟩
           replace hat10 : At g q10 o10 [.slice a10_0 e7.length c10_0] := hat10
           refine Ok.op rfl (OpOk.step (v := .slice a10_0 e7.length c10_0) (Yields.loadRo 0 hat10 (by kernel_rfl) Tryz.underlying41 rfl (by kernel_rfl)) rfl rfl (Ok.bat 1 [0, 1, 5, 6, 7, 8] [(47, .slice a10_0 e7.length c10_0), (48, .int .i64 x8l33)] ?_))
           obtain ⟨h012, h112, hF⟩ := hF
           have he12 := get_of (l := e7) (default : Tst (Int × Bs × Int × Bs × Int × Int)) h112
           generalize hg12 : (e7.getD (Int.toNat x8l33) default) = e12 at he12 hF ⊢
           refine Ok.op rfl (OpOk.indexRo (e := .tst (.pair (.int .i64) (.pair (.str) (.pair (.int .u8) (.pair (.str) (.pair (.int .i64) (.int .i64))))))) (i := x8l33) (el := e12) rfl rfl Tryz.underlying41 (by kernel_rfl) hR10_0 h012 he12 rfl fun q11 o11 cs11 _ hat11 hr11 => ?_)
           have hT11_0 := hr11
           replace hT11_0 := Rep.tst.1 hT11_0
           obtain ⟨_, _, rfl, ⟨_, _, rfl, rfl, ⟨_, _, rfl, rfl, ⟨_, _, rfl, rfl, ⟨_, _, rfl, rfl, ⟨_, _, rfl, rfl, rfl⟩⟩⟩⟩⟩, ⟨a11_6, c11_6, rfl, hm11_6, hr11_6⟩⟩ := hT11_0
           have hR11_6 : Rep g (.slice (.pair (.slice (.slice (.tst (.pair (.int .i64) (.pair (.str) (.pair (.int .u8) (.pair (.str) (.pair (.int .i64) (.int .i64))))))))) (.slice (.int .u8)))) [.slice a11_6 e12.kids.length c11_6] e12.kids := ⟨a11_6, c11_6, rfl, hm11_6, hr11_6⟩
           replace hat11 : At g q11 o11 [.int .i64 e12.lab.1, sv e12.lab.2.1, .int .u8 e12.lab.2.2.1, sv e12.lab.2.2.2.1, .int .i64 e12.lab.2.2.2.2.1, .int .i64 e12.lab.2.2.2.2.2, .slice a11_6 e12.kids.length c11_6] := hat11
           refine Ok.op rfl (OpOk.step (v := .agg #[.int .i64 e12.lab.1, sv e12.lab.2.1, .int .u8 e12.lab.2.2.1, sv e12.lab.2.2.2.1, .int .i64 e12.lab.2.2.2.2.1, .int .i64 e12.lab.2.2.2.2.2, .slice a11_6 e12.kids.length c11_6]) (Yields.loadAggRo 0 7 #[.int .i64 e12.lab.1, sv e12.lab.2.1, .int .u8 e12.lab.2.2.1, sv e12.lab.2.2.2.1, .int .i64 e12.lab.2.2.2.2.1, .int .i64 e12.lab.2.2.2.2.2, .slice a11_6 e12.kids.length c11_6] hat11 (by kernel_rfl) Tryz.underlying48 rfl (by kernel_rfl) (by kernel_rfl) (by kernel_rfl)) rfl rfl (Ok.op rfl (OpOk.alloc (z := .agg #[.int .i64 0, sv ([] : Bs), .int .u8 0, sv ([] : Bs), .int .i64 0, .int .i64 0, .slice none 0 0]) (cs := #[.int .i64 0, sv ([] : Bs), .int .u8 0, sv ([] : Bs), .int .i64 0, .int .i64 0, .slice none 0 0]) (by kernel_rfl) (by kernel_rfl) rfl fun bs9 => ?_)))
           refine Ok.op rfl (OpOk.sto (k := 7) (v := .agg #[.int .i64 e12.lab.1, sv e12.lab.2.1, .int .u8 e12.lab.2.2.1, sv e12.lab.2.2.2.1, .int .i64 e12.lab.2.2.2.2.1, .int .i64 e12.lab.2.2.2.2.2, .slice a11_6 e12.kids.length c11_6]) 0 #[.int .i64 e12.lab.1, sv e12.lab.2.1, .int .u8 e12.lab.2.2.1, sv e12.lab.2.2.2.1, .int .i64 e12.lab.2.2.2.2.1, .int .i64 e12.lab.2.2.2.2.2, .slice a11_6 e12.kids.length c11_6] rfl rfl rfl ?_)
           refine Ok.nil (Ok.thenN (Ok.seq (Ok.region (Ok.bat 3 [0, 1, 6, 7, 8] [(5, .int .i64 (w6 (x5l33 + 1))), (9, pv bs9 0)] ?_))))
           refine Ok.nil (Ok.thenN (Ok.seq (Ok.seq (Ok.region (Ok.bat 1 [0, 1, 5, 6, 7, 8, 9] [(53, pv bs9 6)] ?_)))))
           refine Ok.op rfl (OpOk.step (v := .slice a11_6 e12.kids.length c11_6) (Yields.load 0 rfl rfl Tryz.underlying29 rfl (by kernel_rfl)) rfl rfl (Ok.bat 2 [0, 1, 5, 6, 7, 8, 9] [(56, .bool ((e12.kids.length : Int) == 0))] ?_))
           refine Ok.nil (Ok.thenN (Ok.cond (b := ((e12.kids.length : Int) == 0)) rfl (fun hc14 => ?_) (fun hc14 => ?_)))
           ·replace hF := hF.1 hc14
            refine Ok.exit (Ok.thenE (Ok.blockHit (Ok.thenN ?_)))
            subst hg12
            refine Ok.reval 5 rfl (show (.int .i64 (w6 (x5l33 + 1)) : Value) = .int .i64 (tinV8 xdeep e7 x5l33 x8l33) from congrArg (Value.int .i64) ((if_t hc14).symm)) ?_
            exact fun a W hA hW => ⟨hA.sub (by kernel_rfl), hW.sub (.cons _ .slnil), hF⟩
           ·replace hF := hF.2 hc14
            refine Ok.skip (Ok.thenN (Ok.seq (Ok.region (Ok.bat 1 [0, 1, 5, 6, 7, 8, 9] [(10, .int .i64 (-1))] ?_))))
            refine Ok.nil (Ok.thenN (Ok.cut (fun a W => StA 74 [(0, .slice axl_0 xl.length cxl_0), (1, .int .i64 xdeep), (5, .int .i64 (w6 (x5l33 + 1))), (6, .int .i64 x6l9), (7, .int .i64 x7l21), (8, .int .i64 x8l33), (10, .int .i64 (tinV2 xdeep e12 x5l33))] a ∧ StW w0 [] g W ∧ tinj54 xdeep K e3 e12 x5l33 x8l33 x7l21 (tinl33 N xdeep K e3 x7l21 (tinl21 N xl xdeep K x6l9 (tinl9 N xl xdeep K k9) k21) k33)) ?_ ?_))
            ·
             refine Ok.seq (Ok.region (Ok.bat 3 [0, 1, 5, 6, 7, 8, 9, 10] [(59, .bool (decide (xdeep < 3)))] ?_))
             refine Ok.midway 3 [(0, .slice axl_0 xl.length cxl_0), (1, .int .i64 xdeep), (5, .int .i64 (w6 (x5l33 + 1))), (6, .int .i64 x6l9), (7, .int .i64 x7l21), (8, .int .i64 x8l33), (9, pv bs9 0), (10, .int .i64 (-1)), (62, .bool ((decide (xdeep < 3)) && (decide ((w6 (x5l33 + 1)) ≤ 40))))] (fun hR16 => ?_) ?_
             ·refine Ok.boolAt 59 (decide (xdeep < 3)) rfl (fun hc17 => ?_) (fun hc17 => ?_)
              ·skip
               refine Ok.bat 3 [0, 1, 5, 6, 7, 8, 9, 10] [(62, .bool (decide ((w6 (x5l33 + 1)) ≤ 40)))] ?_
               refine Ok.reval 62 rfl (show (.bool (decide ((w6 (x5l33 + 1)) ≤ 40)) : Value) = .bool ((decide (xdeep < 3)) && (decide ((w6 (x5l33 + 1)) ≤ 40))) from congrArg Value.bool (mand_t hc17)) (Ok.bat 0 [0, 1, 5, 6, 7, 8, 9, 10] [(62, .bool ((decide (xdeep < 3)) && (decide ((w6 (x5l33 + 1)) ≤ 40))))] ?_)
               exact hR16
              ·skip
               refine Ok.bat 3 [0, 1, 5, 6, 7, 8, 9, 10] [(62, .bool false)] ?_
               refine Ok.reval 62 rfl (show (.bool false : Value) = .bool ((decide (xdeep < 3)) && (decide ((w6 (x5l33 + 1)) ≤ 40))) from congrArg Value.bool (mand_f hc17)) (Ok.bat 0 [0, 1, 5, 6, 7, 8, 9, 10] [(62, .bool ((decide (xdeep < 3)) && (decide ((w6 (x5l33 + 1)) ≤ 40))))] ?_)
               exact hR16
             refine Ok.nil (Ok.thenN (Ok.cond (b := ((decide (xdeep < 3)) && (decide ((w6 (x5l33 + 1)) ≤ 40)))) rfl (fun hc18 => ?_) (fun hc18 => ?_)))
             ·replace hF := hF.1 hc18
              refine Ok.region (Ok.bat 1 [0, 1, 5, 6, 7, 8] [(63, pv bs9 6)] ?_)
              refine Ok.op rfl (OpOk.step (v := .slice a11_6 e12.kids.length c11_6) (Yields.load 0 rfl rfl Tryz.underlying29 rfl (by kernel_rfl)) rfl rfl (Ok.bat 2 [0, 1, 5, 6, 7, 8] [(64, .slice a11_6 e12.kids.length c11_6), (66, .int .i64 (w6 (xdeep + 1)))] ?_))
              obtain ⟨hp19, hF⟩ := hF
              refine Ok.op rfl (OpOk.callG (v := .int .i64 (tinS e12.kids (w6 (xdeep + 1)))) enr (fun W hW => ih_tin _ e12.kids (w6 (xdeep + 1)) (hR11_6.mono hW.sees) hp19) rfl ?_)
              refine Ok.bat 1 [0, 1, 5, 6, 7, 8] [(10, .int .i64 (tinS e12.kids (w6 (xdeep + 1))))] ?_
              refine Ok.nil (Ok.thenN (Ok.reval 10 rfl (show (.int .i64 (tinS e12.kids (w6 (xdeep + 1))) : Value) = .int .i64 (tinV2 xdeep e12 x5l33) from congrArg (Value.int .i64) ((if_t hc18).symm)) ?_))
              exact fun a W hA hW => ⟨hA.sub (by kernel_rfl), hW.sub (.cons _ .slnil), hF⟩
             ·replace hF := hF.2 hc18
              refine Ok.skip (Ok.thenN (Ok.reval 10 rfl (show (.int .i64 (-1) : Value) = .int .i64 (tinV2 xdeep e12 x5l33) from congrArg (Value.int .i64) ((if_f hc18).symm)) ?_))
              exact fun a W hA hW => ⟨hA.sub (by kernel_rfl), hW.sub (.cons _ .slnil), hF⟩
            ·
             clear hF
             rintro a W ⟨hA, hW, hF⟩
             refine (?_ : Ok _ _ _ _ _ _) a W hA hW
             clear hA hW
             refine Ok.seq (Ok.seq (Ok.region (Ok.bat 2 [0, 1, 5, 6, 7, 8, 10] [(69, .bool (decide ((tinV2 xdeep e12 x5l33) < 0)))] ?_)))
             refine Ok.nil (Ok.thenN (Ok.cond (b := decide ((tinV2 xdeep e12 x5l33) < 0)) rfl (fun hc15 => ?_) (fun hc15 => ?_)))
             ·replace hF := hF.1 hc15
              refine Ok.seq (Ok.region (Ok.batch 1 [(4, .int .i64 (-1))] (by kernel_rfl) (Ok.nil (Ok.thenN (Ok.ret (Ok.thenR (Ok.blockR (Ok.thenR (Ok.thenR (Ok.blockR (Ok.blockR (Ok.thenR (Ok.thenR (Ok.blockR (Ok.blockR (Ok.thenR (Ok.thenR (Ok.blockR (Ok.thenR ?_)))))))))))))))))))
              exact Ok.resH (vs := [.int .i64 (-1)]) (.inl rfl) rfl (.cons (.tmp rfl) .nil) (Gext.refl w0 g) ⟨(-1), rfl, rfl, hF⟩
             ·replace hF := hF.2 hc15
              refine Ok.skip (Ok.thenN (Ok.region (Ok.bat 4 [0, 1, 6, 7, 8] [(5, .int .i64 (w6 ((w6 (x5l33 + 1)) + (tinV2 xdeep e12 x5l33))))] ?_)))
              refine Ok.nil (Ok.blockN (Ok.thenN ?_))
              subst hg12
              refine Ok.reval 5 rfl (show (.int .i64 (w6 ((w6 (x5l33 + 1)) + (tinV2 xdeep (e7.getD (Int.toNat x8l33) default) x5l33))) : Value) = .int .i64 (tinV8 xdeep e7 x5l33 x8l33) from congrArg (Value.int .i64) ((if_f hc14).symm)) ?_
              exact fun a W hA hW => ⟨hA.sub (by kernel_rfl), hW, hF⟩
          ·
           clear hF
           rintro a W ⟨hA, hW, hF⟩
           refine (?_ : Ok _ _ _ _ _ _) a W hA hW
           clear hA hW
           refine Ok.region (Ok.bat 3 [0, 1, 5, 6, 7] [(8, .int .i64 (w6 (x8l33 + 1)))] ?_)
           refine Ok.nil (Ok.thenN ?_)
           subst hg7
           exact fun a W hA hW => ⟨k33, Nat.lt_succ_self _, (tinV8 xdeep (e3.1.getD (Int.toNat x7l21) default) x5l33 x8l33), w6 (x8l33 + 1), hA.sub (by kernel_rfl), hW, hF⟩
         ·replace hF := hF.2 hc8
          refine Ok.exit (Ok.thenE (Ok.thenE (Ok.blockHit (Ok.blockN (Ok.thenN (Ok.region (Ok.bat 3 [0, 1, 5, 6] [(7, .int .i64 (w6 (x7l21 + 1)))] ?_)))))))
          refine Ok.nil (Ok.thenN ?_)
          subst hg7
          subst hg3
          exact fun a W hA hW => ⟨k21, Nat.lt_succ_self _, x5l33, w6 (x7l21 + 1), hA.sub (by kernel_rfl), hW, hF⟩
      ·replace hF := hF.2 hc4
       refine Ok.exit (Ok.thenE (Ok.thenE (Ok.blockHit (Ok.blockN (Ok.thenN (Ok.region (Ok.bat 3 [0, 1, 5] [(6, .int .i64 (w6 (x6l9 + 1)))] ?_)))))))
       refine Ok.nil (Ok.thenN ?_)
       subst hg3
       exact fun a W hA hW => ⟨k9, Nat.lt_succ_self _, x5l21, w6 (x6l9 + 1), hA.sub (by kernel_rfl), hW, hF⟩
   ·replace hF := hF.2 hc1
    refine Ok.exit (Ok.thenE (Ok.thenE (Ok.blockHit (Ok.thenN (Ok.seq (Ok.region (Ok.batch 2 [(4, .int .i64 x5l9)] (by kernel_rfl) (Ok.nil (Ok.thenN (Ok.ret ?_))))))))))
    exact Ok.resH (vs := [.int .i64 x5l9]) (.inl rfl) rfl (.cons (.tmp rfl) .nil) (Gext.refl w0 g) ⟨x5l9, rfl, rfl, hF⟩
theorem tin_0 (l : List Ph) (d : Int) : ¬ tinP 0 l d := fun h => absurd h.1 (Nat.not_lt_zero _)
theorem tin33 {N : Nat} {d : Int} {r : Int} (hd : 0 ≤ d ∧ d ≤ 1000000000) (q : Ph) (k : Nat) (hk : k < q.1.length) (hs : ∀ t ∈ q.1.getD k default, tssP N t.kids (d + 1)) (hl : (q.1.getD k default).length ≤ 1048600) (C : Int → Int → Prop) (F : Int → Int) (U : Int) (hU : U ≤ 4000000)
  (hC : ∀ n, 0 ≤ n → n ≤ U → r = F n → C n (w6 ((k : Int) + 1))) : ∀ (m i : Nat) (n : Int), i + m = (q.1.getD k default).length → 0 ≤ n → n + w1 ((q.1.getD k default).drop i) ≤ U →
  r = (if ri1 ((q.1.getD k default).drop i) d n < 0 then -1 else F (ri1 ((q.1.getD k default).drop i) d n)) → tinl33 N d (fun a => a = r) q (k : Int) C (m + 1) n (i : Int) := by
 intro m
 induction m with
 | zero =>
  intro i n hi hn hu he
  rw [List.drop_of_length_le (by omega)] at he
  refine ⟨by omega, by rw [Int.toNat_natCast]; omega, ?_⟩
  rw [Int.toNat_natCast]
  exact ⟨fun hc => absurd (of_decide_eq_true hc) (by omega), fun _ => hC n hn (by rw [List.drop_of_length_le (by omega), w1] at hu; omega) (by rw [he, ri1, if_neg (by omega)])⟩
 | succ m ih =>
  intro i n hi hn hu he
  have hi' : i < (q.1.getD k default).length := by omega
  have ht := hs _ (get_in default hi')
  have hb := bT_kids ((q.1.getD k default).getD i default)
  have hbd := (bdT ((q.1.getD k default).getD i default) (d + 1)).2
  rw [drop_get (l := q.1.getD k default) default hi', ri1] at he
  rw [drop_get (l := q.1.getD k default) default hi', w1] at hu
  refine ⟨by omega, by rw [Int.toNat_natCast]; omega, ?_⟩
  have key : ∀ n', tinV8 d (q.1.getD k default) n (i : Int) = n' → 0 ≤ n' → n' + w1 ((q.1.getD k default).drop (i + 1)) ≤ U → r = (if ri1 ((q.1.getD k default).drop (i + 1)) d n' < 0 then -1 else F (ri1 ((q.1.getD k default).drop (i + 1)) d n')) → tinj40 d q n (i : Int) (k : Int) (tinl33 N d (fun a => a = r) q (k : Int) C (m + 1)) := by
   intro n' hn' h0 h1 h2
   unfold tinj40
   rw [Int.toNat_natCast, hn', w64 (by omega), show (i : Int) + 1 = ((i + 1 : Nat) : Int) by omega]
   exact ih (i + 1) n' (by omega) h0 h1 h2
  unfold tinV8 at key
  rw [Int.toNat_natCast] at key ⊢
  rw [Int.toNat_natCast]
  refine ⟨fun _ => ⟨by omega, by omega, ?_⟩, fun hc => absurd (of_decide_eq_false hc) (by omega)⟩
  generalize (q.1.getD k default).getD i default = t at *
  have hcn : (((t.kids.length : Int) == 0) = true) = (t.kids.length = 0) := by simp
  rw [riT_eq] at he hbd
  have hv : tinV2 d t n = (if (decide (d < 3) && decide (n + 1 ≤ 40)) = true then ri3 t.kids (d + 1) 0 else -1) := by
   unfold tinV2 tinS
   rw [w64 (x := n + 1) (by omega), w64 (x := d + 1) (by omega)]
  have hv1 : -1 ≤ tinV2 d t n ∧ tinV2 d t n ≤ b3 t.kids := by
   rw [hv]
   split
   ·exact hbd
   ·omega
  rw [← hv] at he
  rw [w64 (x := n + 1) (by omega)] at key ⊢
  have fin : t.kids.length ≠ 0 → ((t.kids.length : Int) == 0) = false → tinj54 d (fun a => a = r) q t n (i : Int) (k : Int) (tinl33 N d (fun a => a = r) q (k : Int) C (m + 1)) := by
   intro hc2 hc
   rw [if_neg hc2] at he
   rw [if_f hc] at key
   refine ⟨fun h1 => ?_, fun h1 => ?_⟩
   ·rw [if_pos (of_decide_eq_true h1), if_pos (by omega)] at he; exact he.symm
   ·have h1 := of_decide_eq_false h1
    rw [if_neg h1] at he
    exact key _ (w64 (by omega)) (by omega) (by omega) he
  have hne : ((t.kids.length : Int) == 0) = false → t.kids.length ≠ 0 := fun hc h0 => by rw [← hcn, hc] at h0; cases h0
  refine ⟨fun hc => ?_, fun hc => ⟨fun hb2 => ⟨?_, fin (hne hc) hc⟩, fun hb2 => fin (hne hc) hc⟩⟩
  ·rw [if_t hc] at key
   rw [hcn] at hc
   rw [if_pos hc] at he
   exact key (n + 1) rfl (by omega) (by omega) he
  ·rw [w64 (by omega)]; exact ht
theorem tin21 {N : Nat} {l : List Ph} {d : Int} {r : Int} (hd : 0 ≤ d ∧ d ≤ 1000000000) (j : Nat) (hj : j < l.length) (hs : ∀ s ∈ (l.getD j default).1, ∀ t ∈ s, tssP N t.kids (d + 1)) (hw : w2 (l.getD j default).1 ≤ 1048600) (C : Int → Int → Prop) (F : Int → Int) (U : Int) (hU : U ≤ 2000000)
  (hC : ∀ n, 0 ≤ n → n ≤ U → r = F n → C n (w6 ((j : Int) + 1))) : ∀ (m i : Nat) (n : Int), i + m = (l.getD j default).1.length → 0 ≤ n → n + w2 ((l.getD j default).1.drop i) ≤ U →
  r = (if ri2 ((l.getD j default).1.drop i) d n < 0 then -1 else F (ri2 ((l.getD j default).1.drop i) d n)) → tinl21 N l d (fun a => a = r) (j : Int) C (m + 1) n (i : Int) := by
 intro m
 induction m with
 | zero =>
  intro i n hi hn hu he
  rw [List.drop_of_length_le (by omega)] at he hu
  refine ⟨by omega, by rw [Int.toNat_natCast]; omega, ?_⟩
  rw [Int.toNat_natCast]
  exact ⟨fun hc => absurd (of_decide_eq_true hc) (by omega), fun _ => hC n hn (by rw [w2] at hu; omega) (by rw [he, ri2, if_neg (by omega)])⟩
 | succ m ih =>
  intro i n hi hn hu he
  have hi' : i < (l.getD j default).1.length := by omega
  have ht := hs _ (get_in default hi')
  have hl := w1_len ((l.getD j default).1.getD i default)
  have hw2 := w2_in (get_in default hi')
  have hql := w2_len (l.getD j default).1
  rw [drop_get (l := (l.getD j default).1) default hi', ri2] at he
  rw [drop_get (l := (l.getD j default).1) default hi', w2] at hu
  refine ⟨by omega, by rw [Int.toNat_natCast]; omega, ?_⟩
  rw [Int.toNat_natCast]
  refine ⟨fun _ => ?_, fun hc => absurd (of_decide_eq_false hc) (by omega)⟩
  refine ⟨_, tin33 hd (l.getD j default) i hi' ht (by omega) _ (fun n => if ri2 ((l.getD j default).1.drop (i + 1)) d n < 0 then -1 else F (ri2 ((l.getD j default).1.drop (i + 1)) d n)) (n + w1 ((l.getD j default).1.getD i default)) (by omega) (fun n' h0 h1 h2 => ?_) ((l.getD j default).1.getD i default).length 0 n (by omega) hn (by rw [List.drop_zero]; omega) ?_⟩
  ·rw [w64 (by omega), show (i : Int) + 1 = ((i + 1 : Nat) : Int) by omega]
   exact ih (i + 1) n' (by omega) h0 (by omega) h2
  ·rw [List.drop_zero, he]
   split
   ·rw [if_pos (by omega)]
   ·rfl
theorem tin_F (N : Nat) (l : List Ph) (d : Int) (h : tinP (N + 1) l d) : tinF N l d (fun a => a = tinS l d) := by
 have h5 := b3_eq l
 have hlen := w3_len l
 have hin := fun q hq s hs t ht => tssP_in h (q := q) hq (s := s) hs (t := t) ht
 obtain ⟨_, hb, hd0, hd1⟩ := h
 have loop : ∀ (m i : Nat) (n : Int), i + m = l.length → 0 ≤ n → n + w3 (l.drop i) ≤ 1048600 → tinS l d = ri3 (l.drop i) d n → tinl9 N l d (fun a => a = tinS l d) (m + 1) n (i : Int) := by
  intro m
  induction m with
  | zero =>
   intro i n hi hn hu he
   rw [List.drop_of_length_le (by omega), ri3] at he
   exact ⟨fun hc => absurd (of_decide_eq_true hc) (by omega), fun _ => he.symm⟩
  | succ m ih =>
   intro i n hi hn hu he
   have hi' : i < l.length := by omega
   have hq := get_in default hi'
   have hwq := w3_in hq
   have hin2 := hin _ hq
   rw [drop_get (l := l) default hi'] at he hu
   rw [w3] at hu
   have e3 : ri3 (l.getD i default :: l.drop (i + 1)) d n = if ri2 (l.getD i default).1 d n < 0 then -1 else ri3 (l.drop (i + 1)) d (ri2 (l.getD i default).1 d n) := by
    generalize l.getD i default = q
    obtain ⟨p, js⟩ := q
    rw [ri3]
   rw [e3] at he
   refine ⟨fun _ => ?_, fun hc => absurd (of_decide_eq_false hc) (by omega)⟩
   refine ⟨_, tin21 ⟨hd0, by omega⟩ i hi' hin2 (by omega) _ (fun n => ri3 (l.drop (i + 1)) d n) (n + w2 (l.getD i default).1) (by omega) (fun n' h0 h1 h2 => ?_) (l.getD i default).1.length 0 n (by omega) hn (by rw [List.drop_zero]; omega) ?_⟩
   ·rw [w64 (by omega), show (i : Int) + 1 = ((i + 1 : Nat) : Int) by omega]
    exact ih (i + 1) n' (by omega) h0 (by omega) h2
   ·rw [List.drop_zero]; exact he
 exact ⟨_, loop l.length 0 0 (by omega) (by omega) (by rw [List.drop_zero]; omega) (by rw [List.drop_zero]; rfl)⟩
theorem tin_rec : ∀ N, tin_C N
 | 0 => (by intro g axl_0 cxl_0 xl xdeep hRxl_0 hp; exact (tin_0 xl xdeep hp).elim)
 | N + 1 =>
  have ih := tin_rec N
  (by intro g axl_0 cxl_0 xl xdeep hRxl_0 hp; exact (tin_ok N ih xl xdeep hRxl_0 _ (tin_F N xl xdeep hp)).gives (by rintro g' H' v _ ⟨r0, rfl, rfl, hK⟩; subst hK; rfl))
def tinPE (xl : List ((List (List (Tst (Int × Bs × Int × Bs × Int × Int)))) × List (Int))) (xdeep : Int) : Prop := ∃ N, tinP N xl xdeep
theorem tin_c {g : Ghost} {axl_0 : Option Addr} {cxl_0 : Nat} (xl : List ((List (List (Tst (Int × Bs × Int × Bs × Int × Int)))) × List (Int))) (xdeep : Int) (hRxl_0 : Rep g (.slice (.pair (.slice (.slice (.tst (.pair (.int .i64) (.pair (.str) (.pair (.int .u8) (.pair (.str) (.pair (.int .i64) (.int .i64))))))))) (.slice (.int .u8)))) [.slice axl_0 xl.length cxl_0] xl)  (hp : tinPE xl xdeep) : CallsG Tryz.prog 17 #[.slice axl_0 xl.length cxl_0, .int .i64 xdeep] g (.int .i64 (tinS xl xdeep)) := by
 obtain ⟨N, hp⟩ := hp
 exact (tin_rec N) _ xl xdeep hRxl_0 hp
end Go.Proofs.YtcnhdkhkadiohaaGreatDoor.Se
