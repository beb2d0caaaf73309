/- selector: how many tests there are, by the program and by the document. -/
import Derived.Test.YtcnhdkhkadiohaaGreatDoorSec
import Derived.Test.YtcnhdkhkadiohaaGreatDoorSfa
namespace Go.Proofs.YtcnhdkhkadiohaaGreatDoor.Se
open Go Go.Eng Go.RowKit Bld Trm Css Tk Ti
set_option maxHeartbeats 4000000
set_option maxRecDepth 100000
set_option linter.unusedSimpArgs false
set_option linter.unusedVariables false
def tssS (l : List Ph) (d : Int) : Int × Bool := ts3 l d 0
def tssP (N : Nat) (l : List Ph) (d : Int) : Prop := b3 l < N ∧ b3 l ≤ 1048600 ∧ 0 ≤ d ∧ d + b3 l ≤ 1000000000
theorem tssP_in {N : Nat} {l : List Ph} {d : Int} (h : tssP (N + 1) l d) {q : Ph} (hq : q ∈ l) {s : List Ts} (hs : s ∈ q.1) {t : Ts} (ht : t ∈ s) : tssP N t.kids (d + 1) := by
 have h1 := w3_in hq
 have h2 := w2_in hs
 have h3 := w1_in ht
 have h4 := bT_kids t
 have h5 := b3_eq l
 obtain ⟨a, b, c, e⟩ := h
 exact ⟨by omega, by omega, by omega, by omega⟩
def tss_C (N : Nat) : Prop := ∀ (g : Ghost) {axl_0 : Option Addr} {cxl_0 : Nat} (xl : List PH) (xdeep : Int) (hRxl_0 : Rep g (.slice yP) [.slice axl_0 xl.length cxl_0] xl)  (hp : tssP N xl xdeep), CallsG Tryz.prog 31 #[.slice axl_0 xl.length cxl_0, iv xdeep] g (.tuple #[iv (tssS xl xdeep).1, .bool (tssS xl xdeep).2])
def tssV4 (xdeep : Int) (e7 : List TS) (u0 : Int) (z0 : Int) : Int :=
 (if (((e7.getD (Int.toNat z0) default).kids.length : Int) == 0) = true then u0 else w6 (u0 + (tssS (e7.getD (Int.toNat z0) default).kids (w6 (xdeep + 1))).1))
def tssj46 (xdeep : Int) (e7 : List TS) (u0 : Int) (z0 : Int) (C39 : Int → Int → Prop) : Prop :=
 C39 (tssV4 xdeep e7 u0 z0) (w6 (z0 + 1))
def tssl39b (N : Nat) (xdeep : Int) (K : Int → Bool → Prop) (e7 : List TS) (y0 : Int) (C23 : Int → Int → Prop) (u0 : Int) (z0 : Int) (C39 : Int → Int → Prop) : Prop :=
 ((decide (z0 < (e7.length : Int))) = true → 0 ≤ z0 ∧ Int.toNat z0 < e7.length ∧ (((((e7.getD (Int.toNat z0) default).kids.length : Int) == 0)) = true → tssj46 xdeep e7 u0 z0 C39) ∧ (((((e7.getD (Int.toNat z0) default).kids.length : Int) == 0)) = false → tssP N (e7.getD (Int.toNat z0) default).kids (w6 (xdeep + 1)) ∧ (((((!((tssS (e7.getD (Int.toNat z0) default).kids (w6 (xdeep + 1))).2)) || (decide (xdeep ≥ 3))) || (decide ((w6 (u0 + (tssS (e7.getD (Int.toNat z0) default).kids (w6 (xdeep + 1))).1)) > 40)))) = true → K (w6 (u0 + (tssS (e7.getD (Int.toNat z0) default).kids (w6 (xdeep + 1))).1)) false) ∧ (((((!((tssS (e7.getD (Int.toNat z0) default).kids (w6 (xdeep + 1))).2)) || (decide (xdeep ≥ 3))) || (decide ((w6 (u0 + (tssS (e7.getD (Int.toNat z0) default).kids (w6 (xdeep + 1))).1)) > 40)))) = false → tssj46 xdeep e7 u0 z0 C39))) ∧ ((decide (z0 < (e7.length : Int))) = false → C23 u0 (w6 (y0 + 1)))
def tssl39 (N : Nat) (xdeep : Int) (K : Int → Bool → Prop) (e7 : List TS) (y0 : Int) (C23 : Int → Int → Prop) : Nat → Int → Int → Prop
 | 0, _, _ => False
 | k + 1, u0, z0 => tssl39b N xdeep K e7 y0 C23 u0 z0 (tssl39 N xdeep K e7 y0 C23 k)
def tssl23b (N : Nat) (xdeep : Int) (K : Int → Bool → Prop) (e3 : PH) (x0 : Int) (C9 : Int → Int → Prop) (c0 : Int) (y0 : Int) (C23 : Int → Int → Prop) : Prop :=
 ((decide (y0 < (e3.1.length : Int))) = true → 0 ≤ y0 ∧ Int.toNat y0 < e3.1.length ∧ ∃ k, tssl39 N xdeep K (e3.1.getD (Int.toNat y0) default) y0 C23 k (w6 (c0 + ((e3.1.getD (Int.toNat y0) default).length : Int))) 0) ∧ ((decide (y0 < (e3.1.length : Int))) = false → C9 c0 (w6 (x0 + 1)))
def tssl23 (N : Nat) (xdeep : Int) (K : Int → Bool → Prop) (e3 : PH) (x0 : Int) (C9 : Int → Int → Prop) : Nat → Int → Int → Prop
 | 0, _, _ => False
 | k + 1, c0, y0 => tssl23b N xdeep K e3 x0 C9 c0 y0 (tssl23 N xdeep K e3 x0 C9 k)
def tssl9b (N : Nat) (xl : List PH) (xdeep : Int) (K : Int → Bool → Prop) (j0 : Int) (x0 : Int) (C9 : Int → Int → Prop) : Prop :=
 ((decide (x0 < (xl.length : Int))) = true → 0 ≤ x0 ∧ Int.toNat x0 < xl.length ∧ ∃ k, tssl23 N xdeep K (xl.getD (Int.toNat x0) default) x0 C9 k j0 0) ∧ ((decide (x0 < (xl.length : Int))) = false → K j0 (decide (j0 ≤ 40)))
def tssl9 (N : Nat) (xl : List PH) (xdeep : Int) (K : Int → Bool → Prop) : Nat → Int → Int → Prop
 | 0, _, _ => False
 | k + 1, j0, x0 => tssl9b N xl xdeep K j0 x0 (tssl9 N xl xdeep K k)
def tssF (N : Nat) (xl : List PH) (xdeep : Int) (K : Int → Bool → Prop) : Prop :=
 ∃ k, tssl9 N xl xdeep K k 0 0
theorem tss_ok {g : Ghost} (N : Nat) (ih_tss : tss_C N) {axl_0 : Option Addr} {cxl_0 : Nat} (xl : List PH) (xdeep : Int) (hRxl_0 : Rep g (.slice yP) [.slice axl_0 xl.length cxl_0] xl) (K : Int → Bool → Prop)
  (hF : tssF N xl xdeep K) : CallsH Tryz.prog 31 #[.slice axl_0 xl.length cxl_0, iv xdeep] g [] (fun g' H' v => ∃ (r0 : Int), ∃ (r1 : Bool), v = .tuple #[iv r0, .bool r1] ∧ H' = [] ∧ K r0 r1) := by
 refine CallsH.enter 70 [(0, .slice axl_0 xl.length cxl_0), (1, iv xdeep)] Tryz.func31 rfl kr kr kr fun w0 => ?_
 refine Ok.sr ((Ok.B 2 [(0, .slice axl_0 xl.length cxl_0), (1, iv xdeep)] kr (Ok.nt ((Ok.sr ((Ok.b 1 [0, 1] [(6, iv 0)] ?_)))))))
 refine Ok.nt ((Ok.q (Ok.sr ((Ok.b 3 [1, 6] [(15, .slice axl_0 xl.length cxl_0), (16, iv (xl.length : Int)), (17, iv 0)] ?_)))))
 refine Ok.nt ((Ok.block ?_))
 obtain ⟨k, hF⟩ := hF
 refine Ok.L (fun k a W => ∃ (j0 : Int) (x0 : Int), StA 70 [(1, iv xdeep), (6, iv j0), (15, .slice axl_0 xl.length cxl_0), (16, iv (xl.length : Int)), (17, iv x0)] a ∧ StW w0 [] g W ∧ tssl9 N xl xdeep K k j0 x0) k ?_ ?_
 ·
  exact fun a W hA hW => ⟨0, 0, hA.sub kr, hW, hF⟩
 clear hF
 rintro k9 a W ⟨j0, x0, hA, hW, hF⟩
 cases k9 with
 | zero => exact (hF : False).elim
 | succ k9 =>
  refine (?_ : Ok _ _ _ _ _ _) a W hA hW
  clear hA hW
  refine Ok.sr ((Ok.b 1 [1, 6, 15, 16, 17] [(18, .bool (decide (x0 < (xl.length : Int))))] ?_))
  refine Ok.nt ((Ok.q (Ok.cn hF rfl (fun hc1 => ?_) (fun hc1 => ?_))))
  ·replace hF := hF.1 hc1
   refine Ok.k (Ok.t (Ok.q (Ok.block (Ok.q (Ok.r ?_)))))
   obtain ⟨h03, h13, hF⟩ := hF
   have he3 := get_of (l := xl) (default : PH) h13
   generalize hg3 : (xl.getD (Int.toNat x0) default) = e3 at he3 hF ⊢
   refine Ok.op rfl (OpOk.indexRo (e := yP) (i := x0) (el := e3) rfl rfl Tryz.underlying29 kr hRxl_0 h03 he3 rfl fun q2 o2 cs2 _ Q0 hr2 => ?_)
   obtain ⟨_, _, rfl, ⟨s0, b0, rfl, X0, S0⟩, ⟨o0, p0, rfl, B0, C0⟩⟩ := hr2
   have I0 : Rep g (.slice (.slice yS)) [.slice s0 e3.1.length b0] e3.1 := ⟨s0, b0, rfl, X0, S0⟩
   have hR2_1 : Rep g (.slice yb) [.slice o0 e3.2.length p0] e3.2 := ⟨o0, p0, rfl, B0, C0⟩
   replace Q0 : At g q2 o2 [.slice s0 e3.1.length b0, .slice o0 e3.2.length p0] := Q0
   refine Ok.op rfl (OpOk.s (v := .agg #[.slice s0 e3.1.length b0, .slice o0 e3.2.length p0]) (Yields.loadAggRo 0 2 #[.slice s0 e3.1.length b0, .slice o0 e3.2.length p0] Q0 kr Tryz.underlying25 rfl kr kr kr) rfl rfl (Ok.op rfl (OpOk.a (z := .agg #[.slice none 0 0, .slice none 0 0]) (cs := #[.slice none 0 0, .slice none 0 0]) kr kr rfl fun bs8 => ?_)))
   refine Ok.op rfl (OpOk.sto (k := 2) (v := .agg #[.slice s0 e3.1.length b0, .slice o0 e3.2.length p0]) 0 #[.slice s0 e3.1.length b0, .slice o0 e3.2.length p0] rfl rfl rfl ?_)
   refine Ok.nt ((Ok.sr ((Ok.b 1 [1, 6, 15, 16, 17] [(21, pv bs8 0)] ?_))))
   refine Ok.op rfl (OpOk.s (v := .slice s0 e3.1.length b0) (Yields.l 0 rfl rfl Tryz.underlying22 rfl kr) rfl rfl (Ok.b 2 [1, 6, 15, 16, 17] [(22, .slice s0 e3.1.length b0), (23, iv (e3.1.length : Int)), (24, iv 0)] ?_))
   refine Ok.nt ((Ok.block ?_))
   obtain ⟨k, hF⟩ := hF
   refine Ok.L (fun k a W => ∃ (c0 : Int) (y0 : Int), StA 70 [(1, iv xdeep), (6, iv c0), (15, .slice axl_0 xl.length cxl_0), (16, iv (xl.length : Int)), (17, iv x0), (22, .slice s0 e3.1.length b0), (23, iv (e3.1.length : Int)), (24, iv y0)] a ∧ StW w0 [] g W ∧ tssl23 N xdeep K e3 x0 (tssl9 N xl xdeep K k9) k c0 y0) k ?_ ?_
   ·
    exact fun a W hA hW => ⟨j0, 0, hA.sub kr, hW.sub (.cons _ .slnil), hF⟩
   clear hF
   rintro k23 a W ⟨c0, y0, hA, hW, hF⟩
   cases k23 with
   | zero => exact (hF : False).elim
   | succ k23 =>
    refine (?_ : Ok _ _ _ _ _ _) a W hA hW
    clear hA hW
    refine Ok.sr ((Ok.b 1 [1, 6, 15, 16, 17, 22, 23, 24] [(25, .bool (decide (y0 < (e3.1.length : Int))))] ?_))
    refine Ok.nt ((Ok.q (Ok.cn hF rfl (fun hc5 => ?_) (fun hc5 => ?_))))
    ·replace hF := hF.1 hc5
     refine Ok.k (Ok.t (Ok.q (Ok.block (Ok.q (Ok.r ?_)))))
     obtain ⟨h07, h17, hF⟩ := hF
     have he7 := get_of (l := e3.1) (default : List TS) h17
     generalize hg7 : (e3.1.getD (Int.toNat y0) default) = e7 at he7 hF ⊢
     refine Ok.op rfl (OpOk.indexRo (e := .slice yS) (i := y0) (el := e7) rfl rfl Tryz.underlying22 kr I0 h07 he7 rfl fun q6 o6 cs6 _ K0 hr6 => ?_)
     obtain ⟨g0, m0, rfl, D0, E0⟩ := hr6
     have z1 : Rep g (.slice yS) [.slice g0 e7.length m0] e7 := ⟨g0, m0, rfl, D0, E0⟩
     replace K0 : At g q6 o6 [.slice g0 e7.length m0] := K0
     refine Ok.op rfl (OpOk.s (v := .slice g0 e7.length m0) (Yields.lr 0 K0 kr Tryz.underlying41 rfl kr) rfl rfl (Ok.b 1 [1, 6, 15, 16, 17, 22, 23, 24] [(10, .slice g0 e7.length m0)] ?_))
     refine Ok.nt ((Ok.sr ((Ok.b 5 [1, 10, 15, 16, 17, 22, 23, 24] [(6, iv (w6 (c0 + (e7.length : Int))))] ?_))))
     refine Ok.nt ((Ok.sr ((Ok.b 3 [1, 6, 15, 16, 17, 22, 23, 24] [(32, .slice g0 e7.length m0), (33, iv (e7.length : Int)), (34, iv 0)] ?_))))
     refine Ok.nt ((Ok.block ?_))
     obtain ⟨k, hF⟩ := hF
     refine Ok.L (fun k a W => ∃ (u0 : Int) (z0 : Int), StA 70 [(1, iv xdeep), (6, iv u0), (15, .slice axl_0 xl.length cxl_0), (16, iv (xl.length : Int)), (17, iv x0), (22, .slice s0 e3.1.length b0), (23, iv (e3.1.length : Int)), (24, iv y0), (32, .slice g0 e7.length m0), (33, iv (e7.length : Int)), (34, iv z0)] a ∧ StW w0 [] g W ∧ tssl39 N xdeep K e7 y0 (tssl23 N xdeep K e3 x0 (tssl9 N xl xdeep K k9) k23) k u0 z0) k ?_ ?_
     ·
      exact fun a W hA hW => ⟨w6 (c0 + (e7.length : Int)), 0, hA.sub kr, hW, hF⟩
     clear hF
     rintro k39 a W ⟨u0, z0, hA, hW, hF⟩
     cases k39 with
     | zero => exact (hF : False).elim
     | succ k39 =>
      refine (?_ : Ok _ _ _ _ _ _) a W hA hW
      clear hA hW
      refine Ok.sr ((Ok.b 1 [1, 6, 15, 16, 17, 22, 23, 24, 32, 33, 34] [(35, .bool (decide (z0 < (e7.length : Int))))] ?_))
      refine Ok.nt ((Ok.q (Ok.cn hF rfl (fun hc8 => ?_) (fun hc8 => ?_))))
      ·replace hF := hF.1 hc8
       refine Ok.k (Ok.t (Ok.cut (fun a W => StA 70 [(1, iv xdeep), (6, iv (tssV4 xdeep e7 u0 z0)), (15, .slice axl_0 xl.length cxl_0), (16, iv (xl.length : Int)), (17, iv x0), (22, .slice s0 e3.1.length b0), (23, iv (e3.1.length : Int)), (24, iv y0), (32, .slice g0 e7.length m0), (33, iv (e7.length : Int)), (34, iv z0)] a ∧ StW w0 [] g W ∧ tssj46 xdeep e7 u0 z0 (tssl39 N xdeep K e7 y0 (tssl23 N xdeep K e3 x0 (tssl9 N xl xdeep K k9) k23) k39)) ?_ ?_))
       ·
        refine Ok.block (Ok.q (Ok.r ?_))
        obtain ⟨h010, h110, hF⟩ := hF
        have s1 := get_of (l := e7) (default : TS) h110
        generalize b1 : (e7.getD (Int.toNat z0) default) = e10 at s1 hF ⊢
        refine Ok.op rfl (OpOk.indexRo (e := yS) (i := z0) (el := e10) rfl rfl Tryz.underlying41 kr z1 h010 s1 rfl fun q9 o9 cs9 _ Y0 hr9 => ?_)
        have F0 := hr9
        replace F0 := Rep.tst.1 F0
        obtain ⟨_, _, rfl, ⟨_, _, rfl, rfl, ⟨_, _, rfl, rfl, ⟨_, _, rfl, rfl, ⟨_, _, rfl, rfl, ⟨_, _, rfl, rfl, rfl⟩⟩⟩⟩⟩, ⟨t0, a0, rfl, hm9_6, hr9_6⟩⟩ := F0
        have hR9_6 : Rep g (.slice yP) [.slice t0 e10.kids.length a0] e10.kids := ⟨t0, a0, rfl, hm9_6, hr9_6⟩
        replace Y0 : At g q9 o9 (vL e10.lab t0 e10.kids.length a0) := Y0
        refine Ok.op rfl (OpOk.s (v := .agg (aL e10.lab t0 e10.kids.length a0)) (Yields.loadAggRo 0 7 (aL e10.lab t0 e10.kids.length a0) Y0 kr Tryz.underlying48 rfl kr kr kr) rfl rfl (Ok.op rfl (OpOk.a (z := .agg #[iv 0, sv ([] : Bs), .int .u8 0, sv ([] : Bs), iv 0, iv 0, .slice none 0 0]) (cs := #[iv 0, sv ([] : Bs), .int .u8 0, sv ([] : Bs), iv 0, iv 0, .slice none 0 0]) kr kr rfl fun v1 => ?_)))
        refine Ok.op rfl (OpOk.sto (k := 7) (v := .agg (aL e10.lab t0 e10.kids.length a0)) 0 (aL e10.lab t0 e10.kids.length a0) rfl rfl rfl ?_)
        refine Ok.nt ((Ok.q (Ok.sr ((Ok.b 1 [1, 6, 15, 16, 17, 22, 23, 24, 32, 33, 34] [(12, pv v1 0), (38, pv v1 6)] ?_)))))
        refine Ok.op rfl (OpOk.s (v := .slice t0 e10.kids.length a0) (Yields.l 0 rfl rfl Tryz.underlying29 rfl kr) rfl rfl (Ok.b 2 [1, 6, 12, 15, 16, 17, 22, 23, 24, 32, 33, 34] [(41, .bool ((e10.kids.length : Int) == 0))] ?_))
        refine Ok.nt ((Ok.cn hF rfl (fun G0 => ?_) (fun G0 => ?_)))
        ·replace hF := hF.1 G0
         refine Ok.x (Ok.thenE (Ok.blockHit (Ok.t ?_)))
         subst b1
         refine Ok.v 6 rfl (show (iv u0 : Value) = iv (tssV4 xdeep e7 u0 z0) from congrArg (Value.int .i64) ((if_t G0).symm)) ?_
         exact fun a W hA hW => ⟨hA.sub kr, hW.sub (.cons _ .slnil), hF⟩
        replace hF := hF.2 G0
        refine Ok.k (Ok.t (Ok.sr ((Ok.b 1 [1, 6, 15, 16, 17, 22, 23, 24, 32, 33, 34] [(43, pv v1 6)] ?_))))
        refine Ok.op rfl (OpOk.s (v := .slice t0 e10.kids.length a0) (Yields.l 0 rfl rfl Tryz.underlying29 rfl kr) rfl rfl (Ok.b 2 [1, 6, 15, 16, 17, 22, 23, 24, 32, 33, 34] [(44, .slice t0 e10.kids.length a0), (46, iv (w6 (xdeep + 1)))] ?_))
        obtain ⟨hp13, hF⟩ := hF
        refine Ok.op rfl (OpOk.f enr (fun W hW => ih_tss _ e10.kids (w6 (xdeep + 1)) (hR9_6.mono hW.sees) hp13) rfl ?_)
        refine Ok.b 5 [1, 6, 15, 16, 17, 22, 23, 24, 32, 33, 34] [(13, iv (tssS e10.kids (w6 (xdeep + 1))).1), (14, .bool (tssS e10.kids (w6 (xdeep + 1))).2)] ?_
        refine Ok.nt ((Ok.sr ((Ok.b 4 [1, 14, 15, 16, 17, 22, 23, 24, 32, 33, 34] [(6, iv (w6 (u0 + (tssS e10.kids (w6 (xdeep + 1))).1)))] ?_))))
        refine Ok.nt ((Ok.sr ((Ok.b 3 [1, 6, 15, 16, 17, 22, 23, 24, 32, 33, 34] [(55, .bool (!((tssS e10.kids (w6 (xdeep + 1))).2)))] ?_))))
        refine Ok.w 3 [(1, iv xdeep), (6, iv (w6 (u0 + (tssS e10.kids (w6 (xdeep + 1))).1))), (15, .slice axl_0 xl.length cxl_0), (16, iv (xl.length : Int)), (17, iv x0), (22, .slice s0 e3.1.length b0), (23, iv (e3.1.length : Int)), (24, iv y0), (32, .slice g0 e7.length m0), (33, iv (e7.length : Int)), (34, iv z0), (58, .bool ((!((tssS e10.kids (w6 (xdeep + 1))).2)) || (decide (xdeep ≥ 3))))] (fun c1 => ?_) ?_
        ·refine Ok.a 55 (!((tssS e10.kids (w6 (xdeep + 1))).2)) rfl (fun U0 => ?_) (fun U0 => ?_)
         ·skip
          refine Ok.b 3 [1, 6, 15, 16, 17, 22, 23, 24, 32, 33, 34] [(58, .bool true)] ?_
          refine Ok.v 58 rfl (show (.bool true : Value) = .bool ((!((tssS e10.kids (w6 (xdeep + 1))).2)) || (decide (xdeep ≥ 3))) from congrArg Value.bool (mor_t U0)) (Ok.b 0 [1, 6, 15, 16, 17, 22, 23, 24, 32, 33, 34] [(58, .bool ((!((tssS e10.kids (w6 (xdeep + 1))).2)) || (decide (xdeep ≥ 3))))] ?_)
          exact c1
         skip
         refine Ok.b 3 [1, 6, 15, 16, 17, 22, 23, 24, 32, 33, 34] [(58, .bool (decide (xdeep ≥ 3)))] ?_
         refine Ok.v 58 rfl (show (.bool (decide (xdeep ≥ 3)) : Value) = .bool ((!((tssS e10.kids (w6 (xdeep + 1))).2)) || (decide (xdeep ≥ 3))) from congrArg Value.bool (mor_f U0)) (Ok.b 0 [1, 6, 15, 16, 17, 22, 23, 24, 32, 33, 34] [(58, .bool ((!((tssS e10.kids (w6 (xdeep + 1))).2)) || (decide (xdeep ≥ 3))))] ?_)
         exact c1
        refine Ok.b 1 [1, 6, 15, 16, 17, 22, 23, 24, 32, 33, 34] [(59, .bool ((!((tssS e10.kids (w6 (xdeep + 1))).2)) || (decide (xdeep ≥ 3))))] ?_
        refine Ok.w 3 [(1, iv xdeep), (6, iv (w6 (u0 + (tssS e10.kids (w6 (xdeep + 1))).1))), (15, .slice axl_0 xl.length cxl_0), (16, iv (xl.length : Int)), (17, iv x0), (22, .slice s0 e3.1.length b0), (23, iv (e3.1.length : Int)), (24, iv y0), (32, .slice g0 e7.length m0), (33, iv (e7.length : Int)), (34, iv z0), (62, .bool (((!((tssS e10.kids (w6 (xdeep + 1))).2)) || (decide (xdeep ≥ 3))) || (decide ((w6 (u0 + (tssS e10.kids (w6 (xdeep + 1))).1)) > 40))))] (fun H0 => ?_) ?_
        ·refine Ok.a 59 (((!((tssS e10.kids (w6 (xdeep + 1))).2)) || (decide (xdeep ≥ 3)))) rfl (fun J0 => ?_) (fun J0 => ?_)
         ·skip
          refine Ok.b 3 [1, 6, 15, 16, 17, 22, 23, 24, 32, 33, 34] [(62, .bool true)] ?_
          refine Ok.v 62 rfl (show (.bool true : Value) = .bool (((!((tssS e10.kids (w6 (xdeep + 1))).2)) || (decide (xdeep ≥ 3))) || (decide ((w6 (u0 + (tssS e10.kids (w6 (xdeep + 1))).1)) > 40))) from congrArg Value.bool (mor_t J0)) (Ok.b 0 [1, 6, 15, 16, 17, 22, 23, 24, 32, 33, 34] [(62, .bool (((!((tssS e10.kids (w6 (xdeep + 1))).2)) || (decide (xdeep ≥ 3))) || (decide ((w6 (u0 + (tssS e10.kids (w6 (xdeep + 1))).1)) > 40))))] ?_)
          exact H0
         skip
         refine Ok.b 3 [1, 6, 15, 16, 17, 22, 23, 24, 32, 33, 34] [(62, .bool (decide ((w6 (u0 + (tssS e10.kids (w6 (xdeep + 1))).1)) > 40)))] ?_
         refine Ok.v 62 rfl (show (.bool (decide ((w6 (u0 + (tssS e10.kids (w6 (xdeep + 1))).1)) > 40)) : Value) = .bool (((!((tssS e10.kids (w6 (xdeep + 1))).2)) || (decide (xdeep ≥ 3))) || (decide ((w6 (u0 + (tssS e10.kids (w6 (xdeep + 1))).1)) > 40))) from congrArg Value.bool (mor_f J0)) (Ok.b 0 [1, 6, 15, 16, 17, 22, 23, 24, 32, 33, 34] [(62, .bool (((!((tssS e10.kids (w6 (xdeep + 1))).2)) || (decide (xdeep ≥ 3))) || (decide ((w6 (u0 + (tssS e10.kids (w6 (xdeep + 1))).1)) > 40))))] ?_)
         exact H0
        refine Ok.nt ((Ok.cn hF rfl (fun i0 => ?_) (fun i0 => ?_)))
        ·replace hF := hF.1 i0
         refine Ok.sr ((Ok.B 3 [(4, iv (w6 (u0 + (tssS e10.kids (w6 (xdeep + 1))).1))), (5, .bool false)] kr (Ok.nt ((Ok.ret (Ok.kr (Ok.tr (Ok.tr (Ok.kr (Ok.kr (Ok.tr (Ok.tr (Ok.kr (Ok.kr (Ok.tr (Ok.tr (Ok.kr (Ok.tr ?_))))))))))))))))))
         exact Ok.p (vs := [iv (w6 (u0 + (tssS e10.kids (w6 (xdeep + 1))).1)), .bool false]) [] [] dc rfl (.inl rfl) rfl (.cons (.tmp rfl) (.cons (.tmp rfl) .nil)) (Gext.r w0 g) ⟨(w6 (u0 + (tssS e10.kids (w6 (xdeep + 1))).1)), false, rfl, rfl, hF⟩
        replace hF := hF.2 i0
        refine Ok.k (Ok.kn (Ok.t ?_))
        subst b1
        refine Ok.v 6 rfl (show (iv (w6 (u0 + (tssS (e7.getD (Int.toNat z0) default).kids (w6 (xdeep + 1))).1)) : Value) = iv (tssV4 xdeep e7 u0 z0) from congrArg (Value.int .i64) ((if_f G0).symm)) ?_
        exact fun a W hA hW => ⟨hA.sub kr, hW.sub (.cons _ .slnil), hF⟩
       clear hF
       rintro a W ⟨hA, hW, hF⟩
       refine (?_ : Ok _ _ _ _ _ _) a W hA hW
       clear hA hW
       refine Ok.r (Ok.b 2 [1, 6, 15, 16, 17, 22, 23, 24, 32, 33] [(34, iv (w6 (z0 + 1)))] ?_)
       refine Ok.j (Ok.t ?_)
       exact fun a W hA hW => ⟨k39, Nat.lt_succ_self _, (tssV4 xdeep e7 u0 z0), w6 (z0 + 1), hA.sub kr, hW, hF⟩
      replace hF := hF.2 hc8
      refine Ok.x (Ok.thenE (Ok.thenE (Ok.blockHit (Ok.kn (Ok.t (Ok.r (Ok.b 2 [1, 6, 15, 16, 17, 22, 23] [(24, iv (w6 (y0 + 1)))] ?_)))))))
      refine Ok.j (Ok.t ?_)
      subst hg7
      exact fun a W hA hW => ⟨k23, Nat.lt_succ_self _, u0, w6 (y0 + 1), hA.sub kr, hW, hF⟩
    replace hF := hF.2 hc5
    refine Ok.x (Ok.thenE (Ok.thenE (Ok.blockHit (Ok.kn (Ok.t (Ok.r (Ok.b 2 [1, 6, 15, 16] [(17, iv (w6 (x0 + 1)))] ?_)))))))
    refine Ok.j (Ok.t ?_)
    subst hg3
    exact fun a W hA hW => ⟨k9, Nat.lt_succ_self _, c0, w6 (x0 + 1), hA.sub kr, hW, hF⟩
  replace hF := hF.2 hc1
  refine Ok.x (Ok.thenE (Ok.thenE (Ok.blockHit (Ok.t (Ok.sr ((Ok.B 5 [(4, iv j0), (5, .bool (decide (j0 ≤ 40)))] kr (Ok.nt ((Ok.ret ?_))))))))))
  exact Ok.resH (vs := [iv j0, .bool (decide (j0 ≤ 40))]) (.inl rfl) rfl (.cons (.tmp rfl) (.cons (.tmp rfl) .nil)) (Gext.r w0 g) ⟨j0, (decide (j0 ≤ 40)), rfl, rfl, hF⟩
theorem tss_0 (l : List Ph) (d : Int) : ¬ tssP 0 l d := fun h => absurd h.1 (Nat.not_lt_zero _)
theorem tss39 {N : Nat} {d : Int} {r : Int × Bool} (hd : 0 ≤ d ∧ d ≤ 1000000000) (s : List Ts) (hs : ∀ t ∈ s, tssP N t.kids (d + 1)) (hl : s.length ≤ 1048600) (k : Int) (C : Int → Int → Prop) (F : Int → Int × Bool) (U : Int) (hU : U ≤ 4000000)
  (hC : ∀ n, 0 ≤ n → n ≤ U → r = F n → C n (w6 (k + 1))) : ∀ (m i : Nat) (n : Int), i + m = s.length → 0 ≤ n → n + w1 (s.drop i) ≤ U + m →
  r = (if (ts1 (s.drop i) d n).2 = true then F (ts1 (s.drop i) d n).1 else ((ts1 (s.drop i) d n).1, false)) → tssl39 N d (fun a b => (a, b) = r) s k C (m + 1) n (i : Int) := by
 intro m
 induction m with
 | zero =>
  intro i n hi hn hu he
  rw [List.drop_of_length_le om] at he
  exact ⟨fun hc => absurd (of_decide_eq_true hc) om, fun _ => hC n hn om (by rw [he, ts1, if_pos rfl])⟩
 | succ m ih =>
  intro i n hi hn hu he
  have hi' : i < s.length := by omega
  have ht := hs _ (get_in default hi')
  have hb := bT_kids (s.getD i default)
  have hbd := (bdT (s.getD i default) (d + 1)).1
  rw [drop_get (l := s) default hi', ts1, tsT_eq] at he
  rw [drop_get (l := s) default hi', w1] at hu
  rw [tsT_eq] at hbd
  refine ⟨fun _ => ⟨by omega, by rw [Int.toNat_natCast]; omega, ?_⟩, fun hc => absurd (of_decide_eq_false hc) om⟩
  have key : ∀ n', tssV4 d s n (i : Int) = n' → 0 ≤ n' → n' + w1 (s.drop (i + 1)) ≤ U + m → r = (if (ts1 (s.drop (i + 1)) d n').2 = true then F (ts1 (s.drop (i + 1)) d n').1 else ((ts1 (s.drop (i + 1)) d n').1, false)) → tssj46 d s n (i : Int) (tssl39 N d (fun a b => (a, b) = r) s k C (m + 1)) := by
   intro n' hn' h0 h1 h2
   unfold tssj46
   rw [hn', w64 om, show (i : Int) + 1 = ((i + 1 : Nat) : Int) by omega]
   exact ih (i + 1) n' om h0 h1 h2
  unfold tssV4 at key
  rw [Int.toNat_natCast] at key ⊢
  generalize s.getD i default = t at *
  rw [w64 (x := d + 1) om] at key ⊢
  have hcn : (((t.kids.length : Int) == 0) = true) = (t.kids.length = 0) := by simp
  refine ⟨fun hc => ?_, fun hc => ⟨ht, fun hb2 => ?_, fun hb2 => ?_⟩⟩
  ·rw [if_t hc] at key
   rw [hcn] at hc
   rw [if_pos hc] at he
   exact key n rfl hn om he
  ·have hc2 : ¬ t.kids.length = 0 := by rw [← hcn, hc]; simp
   rw [if_neg hc2] at he
   unfold tssS at hb2 ⊢
   rw [w64 (x := n + _) om] at hb2 ⊢
   rw [Bool.or_assoc] at hb2
   rw [hb2] at he
   simp only [Bool.false_eq_true, ↓reduceIte] at he
   exact he.symm
  have hc2 : ¬ t.kids.length = 0 := by rw [← hcn, hc]; simp
  rw [if_neg hc2] at he
  rw [if_f hc] at key
  unfold tssS at hb2 key
  rw [w64 (x := n + _) om] at hb2 key
  rw [Bool.or_assoc] at hb2
  rw [hb2] at he
  simp only [Bool.false_eq_true, ↓reduceIte] at he
  exact key _ rfl om om he
theorem tss23 {N : Nat} {d : Int} {r : Int × Bool} (hd : 0 ≤ d ∧ d ≤ 1000000000) (q : Ph) (hs : ∀ s ∈ q.1, ∀ t ∈ s, tssP N t.kids (d + 1)) (hw : w2 q.1 ≤ 1048600) (k : Int) (C : Int → Int → Prop) (F : Int → Int × Bool) (U : Int) (hU : U ≤ 2000000)
  (hC : ∀ n, 0 ≤ n → n ≤ U → r = F n → C n (w6 (k + 1))) : ∀ (m i : Nat) (n : Int), i + m = q.1.length → 0 ≤ n → n + w2 (q.1.drop i) ≤ U →
  r = (if (ts2 (q.1.drop i) d n).2 = true then F (ts2 (q.1.drop i) d n).1 else ((ts2 (q.1.drop i) d n).1, false)) → tssl23 N d (fun a b => (a, b) = r) q k C (m + 1) n (i : Int) := by
 intro m
 induction m with
 | zero =>
  intro i n hi hn hu he
  rw [List.drop_of_length_le om] at he
  exact ⟨fun hc => absurd (of_decide_eq_true hc) om, fun _ => hC n hn om (by rw [he, ts2, if_pos rfl])⟩
 | succ m ih =>
  intro i n hi hn hu he
  have hi' : i < q.1.length := by omega
  have ht := hs _ (get_in default hi')
  have hl := w1_len (q.1.getD i default)
  have hw2 := w2_in (get_in default hi')
  have hql := w2_len q.1
  rw [drop_get (l := q.1) default hi', ts2] at he
  rw [drop_get (l := q.1) default hi', w2] at hu
  refine ⟨fun _ => ⟨by omega, by rw [Int.toNat_natCast]; omega, ?_⟩, fun hc => absurd (of_decide_eq_false hc) om⟩
  rw [Int.toNat_natCast]
  generalize q.1.getD i default = s at *
  rw [w64 om]
  refine ⟨_, tss39 hd s ht om (i : Int) _ (fun n => if (ts2 (q.1.drop (i + 1)) d n).2 = true then F (ts2 (q.1.drop (i + 1)) d n).1 else ((ts2 (q.1.drop (i + 1)) d n).1, false)) (n + w1 s) om (fun n' h0 h1 h2 => ?_) s.length 0 (n + s.length) om om (by rw [List.drop_zero]; omega) ?_⟩
  ·rw [w64 om, show (i : Int) + 1 = ((i + 1 : Nat) : Int) by omega]
   exact ih (i + 1) n' om h0 om h2
  rw [List.drop_zero, he]
  cases hb : (ts1 s d (n + s.length)).2
  ·rw [if_neg (by simp), if_neg (by simp), if_neg (by simp)]
  rw [if_pos rfl, if_pos rfl]
theorem tss_F (N : Nat) (l : List Ph) (d : Int) (h : tssP (N + 1) l d) : tssF N l d (fun a b => (a, b) = tssS l d) := by
 have h5 := b3_eq l
 have hlen := w3_len l
 have hin := fun q hq s hs t ht => tssP_in h (q := q) hq (s := s) hs (t := t) ht
 obtain ⟨_, hb, hd0, hd1⟩ := h
 have loop : ∀ (m i : Nat) (n : Int), i + m = l.length → 0 ≤ n → n + w3 (l.drop i) ≤ 1048600 → tssS l d = ts3 (l.drop i) d n → tssl9 N l d (fun a b => (a, b) = tssS l d) (m + 1) n (i : Int) := by
  intro m
  induction m with
  | zero =>
   intro i n hi hn hu he
   rw [List.drop_of_length_le om, ts3] at he
   exact ⟨fun hc => absurd (of_decide_eq_true hc) om, fun _ => he.symm⟩
  | succ m ih =>
   intro i n hi hn hu he
   have hi' : i < l.length := by omega
   have hq := get_in default hi'
   have hwq := w3_in hq
   rw [drop_get (l := l) default hi'] at he hu
   rw [w3] at hu
   refine ⟨fun _ => ⟨by omega, by rw [Int.toNat_natCast]; omega, ?_⟩, fun hc => absurd (of_decide_eq_false hc) om⟩
   rw [Int.toNat_natCast]
   have q1 := hin _ hq
   generalize l.getD i default = q at *
   obtain ⟨p, js⟩ := q
   rw [ts3] at he
   have hu : n + ((w2 p + js.length + 2 + w3 (l.drop (i + 1)) : Nat) : Int) ≤ 1048600 := hu
   have hwq : w2 p + js.length + 2 ≤ w3 l := hwq
   refine ⟨_, tss23 ⟨hd0, by omega⟩ (p, js) q1 (by show w2 p ≤ _; omega) (i : Int) _ (fun n => ts3 (l.drop (i + 1)) d n) (n + w2 p) om (fun n' h0 h1 h2 => ?_) p.length 0 n (by show 0 + p.length = p.length; omega) hn (by show n + w2 (p.drop 0) ≤ _; rw [List.drop_zero]; omega) ?_⟩
   ·rw [w64 om, show (i : Int) + 1 = ((i + 1 : Nat) : Int) by omega]
    exact ih (i + 1) n' om h0 om h2
   show tssS l d = (if (ts2 (p.drop 0) d n).2 = true then _ else _)
   rw [List.drop_zero]
   exact he
 exact ⟨_, loop l.length 0 0 om om (by rw [List.drop_zero]; omega) (by rw [List.drop_zero]; rfl)⟩
theorem tss_rec : ∀ N, tss_C N
 | 0 => (by intro g axl_0 cxl_0 xl xdeep hRxl_0 hp; exact (tss_0 xl xdeep hp).elim)
 | N + 1 =>
  have ih := tss_rec N
  (by intro g axl_0 cxl_0 xl xdeep hRxl_0 hp; exact (tss_ok N ih xl xdeep hRxl_0 _ (tss_F N xl xdeep hp)).gives (by rintro g' H' v _ ⟨r0, r1, rfl, rfl, hK⟩; obtain ⟨rfl, rfl⟩ : r0 = (tssS xl xdeep).1 ∧ r1 = (tssS xl xdeep).2 := ⟨congrArg (fun z => z.1) hK, congrArg (fun z => z.2) hK⟩; rfl))
def tssPE (xl : List PH) (xdeep : Int) : Prop := ∃ N, tssP N xl xdeep
theorem tss_c {g : Ghost} {axl_0 : Option Addr} {cxl_0 : Nat} (xl : List PH) (xdeep : Int) (hRxl_0 : Rep g (.slice yP) [.slice axl_0 xl.length cxl_0] xl)  (hp : tssPE xl xdeep) : CallsG Tryz.prog 31 #[.slice axl_0 xl.length cxl_0, iv xdeep] g (.tuple #[iv (tssS xl xdeep).1, .bool (tssS xl xdeep).2]) := by
 obtain ⟨N, hp⟩ := hp
 exact (tss_rec N) _ xl xdeep hRxl_0 hp
def tinS (l : List Ph) (d : Int) : Int := ri3 l d 0
def tinP (N : Nat) (l : List Ph) (d : Int) : Prop := tssP N l d
def tin_C (N : Nat) : Prop := ∀ (g : Ghost) {axl_0 : Option Addr} {cxl_0 : Nat} (xl : List PH) (xdeep : Int) (hRxl_0 : Rep g (.slice yP) [.slice axl_0 xl.length cxl_0] xl)  (hp : tinP N xl xdeep), CallsG Tryz.prog 17 #[.slice axl_0 xl.length cxl_0, iv xdeep] g (iv (tinS xl xdeep))
def tinV2 (xdeep : Int) (e12 : TS) (v0 : Int) : Int :=
 (if ((decide (xdeep < 3)) && (decide ((w6 (v0 + 1)) ≤ 40))) = true then (tinS e12.kids (w6 (xdeep + 1))) else -1)
def tinV8 (xdeep : Int) (e7 : List TS) (v0 : Int) (k0 : Int) : Int :=
 (if (((e7.getD (Int.toNat k0) default).kids.length : Int) == 0) = true then w6 (v0 + 1) else w6 ((w6 (v0 + 1)) + (tinV2 xdeep (e7.getD (Int.toNat k0) default) v0)))
def tinj40 (xdeep : Int) (e3 : PH) (v0 : Int) (k0 : Int) (q0 : Int) (C33 : Int → Int → Prop) : Prop :=
 C33 (tinV8 xdeep (e3.1.getD (Int.toNat q0) default) v0 k0) (w6 (k0 + 1))
def tinj54 (xdeep : Int) (K : Int → Prop) (e3 : PH) (e12 : TS) (v0 : Int) (k0 : Int) (q0 : Int) (C33 : Int → Int → Prop) : Prop :=
 ((decide ((tinV2 xdeep e12 v0) < 0)) = true → K (-1)) ∧ ((decide ((tinV2 xdeep e12 v0) < 0)) = false → tinj40 xdeep e3 v0 k0 q0 C33)
def tinl33b (N : Nat) (xdeep : Int) (K : Int → Prop) (e3 : PH) (q0 : Int) (C21 : Int → Int → Prop) (v0 : Int) (k0 : Int) (C33 : Int → Int → Prop) : Prop :=
 0 ≤ q0 ∧ Int.toNat q0 < e3.1.length ∧ ((decide (k0 < ((e3.1.getD (Int.toNat q0) default).length : Int))) = true → 0 ≤ k0 ∧ Int.toNat k0 < (e3.1.getD (Int.toNat q0) default).length ∧ ((((((e3.1.getD (Int.toNat q0) default).getD (Int.toNat k0) default).kids.length : Int) == 0)) = true → tinj40 xdeep e3 v0 k0 q0 C33) ∧ ((((((e3.1.getD (Int.toNat q0) default).getD (Int.toNat k0) default).kids.length : Int) == 0)) = false → ((((decide (xdeep < 3)) && (decide ((w6 (v0 + 1)) ≤ 40)))) = true → tinP N ((e3.1.getD (Int.toNat q0) default).getD (Int.toNat k0) default).kids (w6 (xdeep + 1)) ∧ tinj54 xdeep K e3 ((e3.1.getD (Int.toNat q0) default).getD (Int.toNat k0) default) v0 k0 q0 C33) ∧ ((((decide (xdeep < 3)) && (decide ((w6 (v0 + 1)) ≤ 40)))) = false → tinj54 xdeep K e3 ((e3.1.getD (Int.toNat q0) default).getD (Int.toNat k0) default) v0 k0 q0 C33))) ∧ ((decide (k0 < ((e3.1.getD (Int.toNat q0) default).length : Int))) = false → C21 v0 (w6 (q0 + 1)))
def tinl33 (N : Nat) (xdeep : Int) (K : Int → Prop) (e3 : PH) (q0 : Int) (C21 : Int → Int → Prop) : Nat → Int → Int → Prop
 | 0, _, _ => False
 | k + 1, v0, k0 => tinl33b N xdeep K e3 q0 C21 v0 k0 (tinl33 N xdeep K e3 q0 C21 k)
def tinl21b (N : Nat) (xl : List PH) (xdeep : Int) (K : Int → Prop) (j0 : Int) (C9 : Int → Int → Prop) (d0 : Int) (q0 : Int) (C21 : Int → Int → Prop) : Prop :=
 0 ≤ j0 ∧ Int.toNat j0 < xl.length ∧ ((decide (q0 < ((xl.getD (Int.toNat j0) default).1.length : Int))) = true → ∃ k, tinl33 N xdeep K (xl.getD (Int.toNat j0) default) q0 C21 k d0 0) ∧ ((decide (q0 < ((xl.getD (Int.toNat j0) default).1.length : Int))) = false → C9 d0 (w6 (j0 + 1)))
def tinl21 (N : Nat) (xl : List PH) (xdeep : Int) (K : Int → Prop) (j0 : Int) (C9 : Int → Int → Prop) : Nat → Int → Int → Prop
 | 0, _, _ => False
 | k + 1, d0, q0 => tinl21b N xl xdeep K j0 C9 d0 q0 (tinl21 N xl xdeep K j0 C9 k)
def tinl9b (N : Nat) (xl : List PH) (xdeep : Int) (K : Int → Prop) (n0 : Int) (j0 : Int) (C9 : Int → Int → Prop) : Prop :=
 ((decide (j0 < (xl.length : Int))) = true → ∃ k, tinl21 N xl xdeep K j0 C9 k n0 0) ∧ ((decide (j0 < (xl.length : Int))) = false → K n0)
def tinl9 (N : Nat) (xl : List PH) (xdeep : Int) (K : Int → Prop) : Nat → Int → Int → Prop
 | 0, _, _ => False
 | k + 1, n0, j0 => tinl9b N xl xdeep K n0 j0 (tinl9 N xl xdeep K k)
def tinF (N : Nat) (xl : List PH) (xdeep : Int) (K : Int → Prop) : Prop :=
 ∃ k, tinl9 N xl xdeep K k 0 0
theorem tin_ok {g : Ghost} (N : Nat) (ih_tin : tin_C N) {axl_0 : Option Addr} {cxl_0 : Nat} (xl : List PH) (xdeep : Int) (hRxl_0 : Rep g (.slice yP) [.slice axl_0 xl.length cxl_0] xl) (K : Int → Prop)
  (hF : tinF N xl xdeep K) : CallsH Tryz.prog 17 #[.slice axl_0 xl.length cxl_0, iv xdeep] g [] (fun g' H' v => ∃ (r0 : Int), v = iv r0 ∧ H' = [] ∧ K r0) := by
 refine CallsH.enter 74 [(0, .slice axl_0 xl.length cxl_0), (1, iv xdeep)] Tryz.func17 rfl kr kr kr fun w0 => ?_
 refine Ok.sr ((Ok.B 1 [(0, .slice axl_0 xl.length cxl_0), (1, iv xdeep)] kr (Ok.nt ((Ok.sr ((Ok.b 1 [0, 1] [(5, iv 0)] ?_)))))))
 refine Ok.nt ((Ok.q (Ok.sr ((Ok.b 1 [0, 1, 5] [(6, iv 0)] ?_)))))
 refine Ok.nt ((Ok.block ?_))
 obtain ⟨k, hF⟩ := hF
 refine Ok.L (fun k a W => ∃ (n0 : Int) (j0 : Int), StA 74 [(0, .slice axl_0 xl.length cxl_0), (1, iv xdeep), (5, iv n0), (6, iv j0)] a ∧ StW w0 [] g W ∧ tinl9 N xl xdeep K k n0 j0) k ?_ ?_
 ·
  exact fun a W hA hW => ⟨0, 0, hA.sub kr, hW, hF⟩
 clear hF
 rintro k9 a W ⟨n0, j0, hA, hW, hF⟩
 cases k9 with
 | zero => exact (hF : False).elim
 | succ k9 =>
  refine (?_ : Ok _ _ _ _ _ _) a W hA hW
  clear hA hW
  refine Ok.q (Ok.sr ((Ok.b 4 [0, 1, 5, 6] [(14, .bool (decide (j0 < (xl.length : Int))))] ?_)))
  refine Ok.nt ((Ok.cn hF rfl (fun hc1 => ?_) (fun hc1 => ?_)))
  ·replace hF := hF.1 hc1
   refine Ok.k (Ok.t (Ok.q (Ok.block (Ok.sr ((Ok.b 1 [0, 1, 5, 6] [(7, iv 0)] ?_))))))
   refine Ok.nt ((Ok.block ?_))
   obtain ⟨k, hF⟩ := hF
   refine Ok.L (fun k a W => ∃ (d0 : Int) (q0 : Int), StA 74 [(0, .slice axl_0 xl.length cxl_0), (1, iv xdeep), (5, iv d0), (6, iv j0), (7, iv q0)] a ∧ StW w0 [] g W ∧ tinl21 N xl xdeep K j0 (tinl9 N xl xdeep K k9) k d0 q0) k ?_ ?_
   ·
    exact fun a W hA hW => ⟨n0, 0, hA.sub kr, hW, hF⟩
   clear hF
   rintro k21 a W ⟨d0, q0, hA, hW, hF⟩
   cases k21 with
   | zero => exact (hF : False).elim
   | succ k21 =>
    refine (?_ : Ok _ _ _ _ _ _) a W hA hW
    clear hA hW
    refine Ok.q (Ok.sr ((Ok.b 3 [0, 1, 5, 6, 7] [(17, iv q0), (18, .slice axl_0 xl.length cxl_0), (19, iv j0)] ?_)))
    obtain ⟨h03, h13, hF⟩ := hF
    have he3 := get_of (l := xl) (default : PH) h13
    generalize hg3 : (xl.getD (Int.toNat j0) default) = e3 at he3 hF ⊢
    refine Ok.op rfl (OpOk.indexRo (e := yP) (i := j0) (el := e3) rfl rfl Tryz.underlying29 kr hRxl_0 h03 he3 rfl fun q2 o2 cs2 _ Q0 hr2 => ?_)
    obtain ⟨_, _, rfl, ⟨s0, b0, rfl, X0, S0⟩, ⟨o0, p0, rfl, B0, C0⟩⟩ := hr2
    have I0 : Rep g (.slice (.slice yS)) [.slice s0 e3.1.length b0] e3.1 := ⟨s0, b0, rfl, X0, S0⟩
    have hR2_1 : Rep g (.slice yb) [.slice o0 e3.2.length p0] e3.2 := ⟨o0, p0, rfl, B0, C0⟩
    replace Q0 : At g q2 o2 [.slice s0 e3.1.length b0, .slice o0 e3.2.length p0] := Q0
    refine Ok.b 1 [0, 1, 5, 6, 7, 17] [(21, pv q2 o2)] ?_
    refine Ok.op rfl (OpOk.s (v := .slice s0 e3.1.length b0) (Yields.lr 0 Q0 kr Tryz.underlying22 rfl kr) rfl rfl (Ok.b 2 [0, 1, 5, 6, 7] [(24, .bool (decide (q0 < (e3.1.length : Int))))] ?_))
    refine Ok.nt ((Ok.cn hF rfl (fun hc4 => ?_) (fun hc4 => ?_)))
    ·replace hF := hF.1 hc4
     refine Ok.k (Ok.t (Ok.q (Ok.block (Ok.sr ((Ok.b 1 [0, 1, 5, 6, 7] [(8, iv 0)] ?_))))))
     refine Ok.nt ((Ok.block ?_))
     obtain ⟨k, hF⟩ := hF
     refine Ok.L (fun k a W => ∃ (v0 : Int) (k0 : Int), StA 74 [(0, .slice axl_0 xl.length cxl_0), (1, iv xdeep), (5, iv v0), (6, iv j0), (7, iv q0), (8, iv k0)] a ∧ StW w0 [] g W ∧ tinl33 N xdeep K e3 q0 (tinl21 N xl xdeep K j0 (tinl9 N xl xdeep K k9) k21) k v0 k0) k ?_ ?_
     ·
      exact fun a W hA hW => ⟨d0, 0, hA.sub kr, hW, hF⟩
     clear hF
     rintro k33 a W ⟨v0, k0, hA, hW, hF⟩
     cases k33 with
     | zero => exact (hF : False).elim
     | succ k33 =>
      refine (?_ : Ok _ _ _ _ _ _) a W hA hW
      clear hA hW
      refine Ok.q (Ok.sr ((Ok.b 3 [0, 1, 5, 6, 7, 8] [(27, iv k0), (28, .slice axl_0 xl.length cxl_0), (29, iv j0)] ?_)))
      refine Ok.op rfl (OpOk.indexRo (e := yP) (i := j0) (el := e3) rfl rfl Tryz.underlying29 kr hRxl_0 h03 he3 rfl fun q5 o5 cs5 _ k1 hr5 => ?_)
      obtain ⟨_, _, rfl, ⟨M0, N0, rfl, hm5_0, hr5_0⟩, ⟨y1, u1, rfl, hm5_1, hr5_1⟩⟩ := hr5
      have hR5_0 : Rep g (.slice (.slice yS)) [.slice M0 e3.1.length N0] e3.1 := ⟨M0, N0, rfl, hm5_0, hr5_0⟩
      have hR5_1 : Rep g (.slice yb) [.slice y1 e3.2.length u1] e3.2 := ⟨y1, u1, rfl, hm5_1, hr5_1⟩
      replace k1 : At g q5 o5 [.slice M0 e3.1.length N0, .slice y1 e3.2.length u1] := k1
      refine Ok.b 1 [0, 1, 5, 6, 7, 8, 27] [(31, pv q5 o5)] ?_
      refine Ok.op rfl (OpOk.s (v := .slice M0 e3.1.length N0) (Yields.lr 0 k1 kr Tryz.underlying22 rfl kr) rfl rfl (Ok.b 1 [0, 1, 5, 6, 7, 8, 27] [(32, .slice M0 e3.1.length N0), (33, iv q0)] ?_))
      obtain ⟨h07, h17, hF⟩ := hF
      have he7 := get_of (l := e3.1) (default : List TS) h17
      generalize hg7 : (e3.1.getD (Int.toNat q0) default) = e7 at he7 hF ⊢
      refine Ok.op rfl (OpOk.indexRo (e := .slice yS) (i := q0) (el := e7) rfl rfl Tryz.underlying22 kr hR5_0 h07 he7 rfl fun q6 o6 cs6 _ K0 hr6 => ?_)
      obtain ⟨g0, m0, rfl, D0, E0⟩ := hr6
      have z1 : Rep g (.slice yS) [.slice g0 e7.length m0] e7 := ⟨g0, m0, rfl, D0, E0⟩
      replace K0 : At g q6 o6 [.slice g0 e7.length m0] := K0
      refine Ok.op rfl (OpOk.s (v := .slice g0 e7.length m0) (Yields.lr 0 K0 kr Tryz.underlying41 rfl kr) rfl rfl (Ok.b 2 [0, 1, 5, 6, 7, 8] [(37, .bool (decide (k0 < (e7.length : Int))))] ?_))
      refine Ok.nt ((Ok.cn hF rfl (fun hc8 => ?_) (fun hc8 => ?_)))
      ·replace hF := hF.1 hc8
       refine Ok.k (Ok.t (Ok.cut (fun a W => StA 74 [(0, .slice axl_0 xl.length cxl_0), (1, iv xdeep), (5, iv (tinV8 xdeep e7 v0 k0)), (6, iv j0), (7, iv q0), (8, iv k0)] a ∧ StW w0 [] g W ∧ tinj40 xdeep e3 v0 k0 q0 (tinl33 N xdeep K e3 q0 (tinl21 N xl xdeep K j0 (tinl9 N xl xdeep K k9) k21) k33)) ?_ ?_))
       ·
        refine Ok.block (Ok.sr ((Ok.b 2 [0, 1, 5, 6, 7, 8] [(40, .slice axl_0 xl.length cxl_0), (41, iv j0)] ?_)))
        refine Ok.op rfl (OpOk.indexRo (e := yP) (i := j0) (el := e3) rfl rfl Tryz.underlying29 kr hRxl_0 h03 he3 rfl fun q9 o9 cs9 _ Y0 hr9 => ?_)
        obtain ⟨_, _, rfl, ⟨O0, P0, rfl, hm9_0, hr9_0⟩, ⟨j1, x1, rfl, hm9_1, hr9_1⟩⟩ := hr9
        have hR9_0 : Rep g (.slice (.slice yS)) [.slice O0 e3.1.length P0] e3.1 := ⟨O0, P0, rfl, hm9_0, hr9_0⟩
        have hR9_1 : Rep g (.slice yb) [.slice j1 e3.2.length x1] e3.2 := ⟨j1, x1, rfl, hm9_1, hr9_1⟩
        replace Y0 : At g q9 o9 [.slice O0 e3.1.length P0, .slice j1 e3.2.length x1] := Y0
        refine Ok.b 1 [0, 1, 5, 6, 7, 8] [(43, pv q9 o9)] ?_
        refine Ok.op rfl (OpOk.s (v := .slice O0 e3.1.length P0) (Yields.lr 0 Y0 kr Tryz.underlying22 rfl kr) rfl rfl (Ok.b 1 [0, 1, 5, 6, 7, 8] [(44, .slice O0 e3.1.length P0), (45, iv q0)] ?_))
        refine Ok.op rfl (OpOk.indexRo (e := .slice yS) (i := q0) (el := e7) rfl rfl Tryz.underlying22 kr hR9_0 h07 he7 rfl fun q10 o10 cs10 _ T0 hr10 => ?_)
        obtain ⟨Z0, V0, rfl, hm10_0, hr10_0⟩ := hr10
        have hR10_0 : Rep g (.slice yS) [.slice Z0 e7.length V0] e7 := ⟨Z0, V0, rfl, hm10_0, hr10_0⟩
        replace T0 : At g q10 o10 [.slice Z0 e7.length V0] := T0
        refine Ok.op rfl (OpOk.s (v := .slice Z0 e7.length V0) (Yields.lr 0 T0 kr Tryz.underlying41 rfl kr) rfl rfl (Ok.b 1 [0, 1, 5, 6, 7, 8] [(47, .slice Z0 e7.length V0), (48, iv k0)] ?_))
        obtain ⟨h012, h112, hF⟩ := hF
        have d1 := get_of (l := e7) (default : TS) h112
        generalize e1 : (e7.getD (Int.toNat k0) default) = e12 at d1 hF ⊢
        refine Ok.op rfl (OpOk.indexRo (e := yS) (i := k0) (el := e12) rfl rfl Tryz.underlying41 kr hR10_0 h012 d1 rfl fun q11 o11 cs11 _ L0 hr11 => ?_)
        have W0 := hr11
        replace W0 := Rep.tst.1 W0
        obtain ⟨_, _, rfl, ⟨_, _, rfl, rfl, ⟨_, _, rfl, rfl, ⟨_, _, rfl, rfl, ⟨_, _, rfl, rfl, ⟨_, _, rfl, rfl, rfl⟩⟩⟩⟩⟩, ⟨e0, f0, rfl, hm11_6, hr11_6⟩⟩ := W0
        have hR11_6 : Rep g (.slice yP) [.slice e0 e12.kids.length f0] e12.kids := ⟨e0, f0, rfl, hm11_6, hr11_6⟩
        replace L0 : At g q11 o11 (vL e12.lab e0 e12.kids.length f0) := L0
        refine Ok.op rfl (OpOk.s (v := .agg (aL e12.lab e0 e12.kids.length f0)) (Yields.loadAggRo 0 7 (aL e12.lab e0 e12.kids.length f0) L0 kr Tryz.underlying48 rfl kr kr kr) rfl rfl (Ok.op rfl (OpOk.a (z := .agg #[iv 0, sv ([] : Bs), .int .u8 0, sv ([] : Bs), iv 0, iv 0, .slice none 0 0]) (cs := #[iv 0, sv ([] : Bs), .int .u8 0, sv ([] : Bs), iv 0, iv 0, .slice none 0 0]) kr kr rfl fun bs9 => ?_)))
        refine Ok.op rfl (OpOk.sto (k := 7) (v := .agg (aL e12.lab e0 e12.kids.length f0)) 0 (aL e12.lab e0 e12.kids.length f0) rfl rfl rfl ?_)
        refine Ok.nt ((Ok.sr ((Ok.b 3 [0, 1, 6, 7, 8] [(5, iv (w6 (v0 + 1))), (9, pv bs9 0)] ?_))))
        refine Ok.nt ((Ok.q (Ok.sr ((Ok.b 1 [0, 1, 5, 6, 7, 8, 9] [(53, pv bs9 6)] ?_)))))
        refine Ok.op rfl (OpOk.s (v := .slice e0 e12.kids.length f0) (Yields.l 0 rfl rfl Tryz.underlying29 rfl kr) rfl rfl (Ok.b 2 [0, 1, 5, 6, 7, 8, 9] [(56, .bool ((e12.kids.length : Int) == 0))] ?_))
        refine Ok.nt ((Ok.cn hF rfl (fun A0 => ?_) (fun A0 => ?_)))
        ·replace hF := hF.1 A0
         refine Ok.x (Ok.thenE (Ok.blockHit (Ok.t ?_)))
         subst e1
         refine Ok.v 5 rfl (show (iv (w6 (v0 + 1)) : Value) = iv (tinV8 xdeep e7 v0 k0) from congrArg (Value.int .i64) ((if_t A0).symm)) ?_
         exact fun a W hA hW => ⟨hA.sub kr, hW.sub (.cons _ .slnil), hF⟩
        replace hF := hF.2 A0
        refine Ok.k (Ok.t (Ok.sr ((Ok.b 1 [0, 1, 5, 6, 7, 8, 9] [(10, iv (-1))] ?_))))
        refine Ok.nt ((Ok.cut (fun a W => StA 74 [(0, .slice axl_0 xl.length cxl_0), (1, iv xdeep), (5, iv (w6 (v0 + 1))), (6, iv j0), (7, iv q0), (8, iv k0), (10, iv (tinV2 xdeep e12 v0))] a ∧ StW w0 [] g W ∧ tinj54 xdeep K e3 e12 v0 k0 q0 (tinl33 N xdeep K e3 q0 (tinl21 N xl xdeep K j0 (tinl9 N xl xdeep K k9) k21) k33)) ?_ ?_))
        ·
         refine Ok.sr ((Ok.b 3 [0, 1, 5, 6, 7, 8, 9, 10] [(59, .bool (decide (xdeep < 3)))] ?_))
         refine Ok.w 3 [(0, .slice axl_0 xl.length cxl_0), (1, iv xdeep), (5, iv (w6 (v0 + 1))), (6, iv j0), (7, iv q0), (8, iv k0), (9, pv bs9 0), (10, iv (-1)), (62, .bool ((decide (xdeep < 3)) && (decide ((w6 (v0 + 1)) ≤ 40))))] (fun H0 => ?_) ?_
         ·refine Ok.a 59 (decide (xdeep < 3)) rfl (fun J0 => ?_) (fun J0 => ?_)
          ·skip
           refine Ok.b 3 [0, 1, 5, 6, 7, 8, 9, 10] [(62, .bool (decide ((w6 (v0 + 1)) ≤ 40)))] ?_
           refine Ok.v 62 rfl (show (.bool (decide ((w6 (v0 + 1)) ≤ 40)) : Value) = .bool ((decide (xdeep < 3)) && (decide ((w6 (v0 + 1)) ≤ 40))) from congrArg Value.bool (mand_t J0)) (Ok.b 0 [0, 1, 5, 6, 7, 8, 9, 10] [(62, .bool ((decide (xdeep < 3)) && (decide ((w6 (v0 + 1)) ≤ 40))))] ?_)
           exact H0
          skip
          refine Ok.b 3 [0, 1, 5, 6, 7, 8, 9, 10] [(62, .bool false)] ?_
          refine Ok.v 62 rfl (show (.bool false : Value) = .bool ((decide (xdeep < 3)) && (decide ((w6 (v0 + 1)) ≤ 40))) from congrArg Value.bool (mand_f J0)) (Ok.b 0 [0, 1, 5, 6, 7, 8, 9, 10] [(62, .bool ((decide (xdeep < 3)) && (decide ((w6 (v0 + 1)) ≤ 40))))] ?_)
          exact H0
         refine Ok.nt ((Ok.cn hF rfl (fun i0 => ?_) (fun i0 => ?_)))
         ·replace hF := hF.1 i0
          refine Ok.r (Ok.b 1 [0, 1, 5, 6, 7, 8] [(63, pv bs9 6)] ?_)
          refine Ok.op rfl (OpOk.s (v := .slice e0 e12.kids.length f0) (Yields.l 0 rfl rfl Tryz.underlying29 rfl kr) rfl rfl (Ok.b 2 [0, 1, 5, 6, 7, 8] [(64, .slice e0 e12.kids.length f0), (66, iv (w6 (xdeep + 1)))] ?_))
          obtain ⟨hp19, hF⟩ := hF
          refine Ok.op rfl (OpOk.f enr (fun W hW => ih_tin _ e12.kids (w6 (xdeep + 1)) (hR11_6.mono hW.sees) hp19) rfl ?_)
          refine Ok.b 1 [0, 1, 5, 6, 7, 8] [(10, iv (tinS e12.kids (w6 (xdeep + 1))))] ?_
          refine Ok.nt ((Ok.v 10 rfl (show (iv (tinS e12.kids (w6 (xdeep + 1))) : Value) = iv (tinV2 xdeep e12 v0) from congrArg (Value.int .i64) ((if_t i0).symm)) ?_))
          exact fun a W hA hW => ⟨hA.sub kr, hW.sub (.cons _ .slnil), hF⟩
         replace hF := hF.2 i0
         refine Ok.k (Ok.t (Ok.v 10 rfl (show (iv (-1) : Value) = iv (tinV2 xdeep e12 v0) from congrArg (Value.int .i64) ((if_f i0).symm)) ?_))
         exact fun a W hA hW => ⟨hA.sub kr, hW.sub (.cons _ .slnil), hF⟩
        clear hF
        rintro a W ⟨hA, hW, hF⟩
        refine (?_ : Ok _ _ _ _ _ _) a W hA hW
        clear hA hW
        refine Ok.q (Ok.sr ((Ok.b 2 [0, 1, 5, 6, 7, 8, 10] [(69, .bool (decide ((tinV2 xdeep e12 v0) < 0)))] ?_)))
        refine Ok.nt ((Ok.cn hF rfl (fun U0 => ?_) (fun U0 => ?_)))
        ·replace hF := hF.1 U0
         refine Ok.sr ((Ok.B 1 [(4, iv (-1))] kr (Ok.nt ((Ok.ret (Ok.tr (Ok.kr (Ok.tr (Ok.tr (Ok.kr (Ok.kr (Ok.tr (Ok.tr (Ok.kr (Ok.kr (Ok.tr (Ok.tr (Ok.kr (Ok.tr ?_)))))))))))))))))))
         exact Ok.resH (vs := [iv (-1)]) (.inl rfl) rfl (.cons (.tmp rfl) .nil) (Gext.r w0 g) ⟨(-1), rfl, rfl, hF⟩
        replace hF := hF.2 U0
        refine Ok.k (Ok.t (Ok.r (Ok.b 4 [0, 1, 6, 7, 8] [(5, iv (w6 ((w6 (v0 + 1)) + (tinV2 xdeep e12 v0))))] ?_)))
        refine Ok.j (Ok.kn (Ok.t ?_))
        subst e1
        refine Ok.v 5 rfl (show (iv (w6 ((w6 (v0 + 1)) + (tinV2 xdeep (e7.getD (Int.toNat k0) default) v0))) : Value) = iv (tinV8 xdeep e7 v0 k0) from congrArg (Value.int .i64) ((if_f A0).symm)) ?_
        exact fun a W hA hW => ⟨hA.sub kr, hW, hF⟩
       clear hF
       rintro a W ⟨hA, hW, hF⟩
       refine (?_ : Ok _ _ _ _ _ _) a W hA hW
       clear hA hW
       refine Ok.r (Ok.b 3 [0, 1, 5, 6, 7] [(8, iv (w6 (k0 + 1)))] ?_)
       refine Ok.j (Ok.t ?_)
       subst hg7
       exact fun a W hA hW => ⟨k33, Nat.lt_succ_self _, (tinV8 xdeep (e3.1.getD (Int.toNat q0) default) v0 k0), w6 (k0 + 1), hA.sub kr, hW, hF⟩
      replace hF := hF.2 hc8
      refine Ok.x (Ok.thenE (Ok.thenE (Ok.blockHit (Ok.kn (Ok.t (Ok.r (Ok.b 3 [0, 1, 5, 6] [(7, iv (w6 (q0 + 1)))] ?_)))))))
      refine Ok.j (Ok.t ?_)
      subst hg7
      subst hg3
      exact fun a W hA hW => ⟨k21, Nat.lt_succ_self _, v0, w6 (q0 + 1), hA.sub kr, hW, hF⟩
    replace hF := hF.2 hc4
    refine Ok.x (Ok.thenE (Ok.thenE (Ok.blockHit (Ok.kn (Ok.t (Ok.r (Ok.b 3 [0, 1, 5] [(6, iv (w6 (j0 + 1)))] ?_)))))))
    refine Ok.j (Ok.t ?_)
    subst hg3
    exact fun a W hA hW => ⟨k9, Nat.lt_succ_self _, d0, w6 (j0 + 1), hA.sub kr, hW, hF⟩
  replace hF := hF.2 hc1
  refine Ok.x (Ok.thenE (Ok.thenE (Ok.blockHit (Ok.t (Ok.sr ((Ok.B 2 [(4, iv n0)] kr (Ok.nt ((Ok.ret ?_))))))))))
  exact Ok.resH (vs := [iv n0]) (.inl rfl) rfl (.cons (.tmp rfl) .nil) (Gext.r w0 g) ⟨n0, rfl, rfl, hF⟩
theorem tin_0 (l : List Ph) (d : Int) : ¬ tinP 0 l d := fun h => absurd h.1 (Nat.not_lt_zero _)
theorem tin33 {N : Nat} {d : Int} {r : Int} (hd : 0 ≤ d ∧ d ≤ 1000000000) (q : Ph) (k : Nat) (hk : k < q.1.length) (hs : ∀ t ∈ q.1.getD k default, tssP N t.kids (d + 1)) (hl : (q.1.getD k default).length ≤ 1048600) (C : Int → Int → Prop) (F : Int → Int) (U : Int) (hU : U ≤ 4000000)
  (hC : ∀ n, 0 ≤ n → n ≤ U → r = F n → C n (w6 ((k : Int) + 1))) : ∀ (m i : Nat) (n : Int), i + m = (q.1.getD k default).length → 0 ≤ n → n + w1 ((q.1.getD k default).drop i) ≤ U →
  r = (if ri1 ((q.1.getD k default).drop i) d n < 0 then -1 else F (ri1 ((q.1.getD k default).drop i) d n)) → tinl33 N d (fun a => a = r) q (k : Int) C (m + 1) n (i : Int) := by
 intro m
 induction m with
 | zero =>
  intro i n hi hn hu he
  rw [List.drop_of_length_le om] at he
  refine ⟨by omega, by rw [Int.toNat_natCast]; omega, ?_⟩
  rw [Int.toNat_natCast]
  exact ⟨fun hc => absurd (of_decide_eq_true hc) om, fun _ => hC n hn (by rw [List.drop_of_length_le om, w1] at hu; omega) (by rw [he, ri1, if_neg om])⟩
 | succ m ih =>
  intro i n hi hn hu he
  have hi' : i < (q.1.getD k default).length := by omega
  have ht := hs _ (get_in default hi')
  have hb := bT_kids ((q.1.getD k default).getD i default)
  have hbd := (bdT ((q.1.getD k default).getD i default) (d + 1)).2
  rw [drop_get (l := q.1.getD k default) default hi', ri1] at he
  rw [drop_get (l := q.1.getD k default) default hi', w1] at hu
  refine ⟨by omega, by rw [Int.toNat_natCast]; omega, ?_⟩
  have key : ∀ n', tinV8 d (q.1.getD k default) n (i : Int) = n' → 0 ≤ n' → n' + w1 ((q.1.getD k default).drop (i + 1)) ≤ U → r = (if ri1 ((q.1.getD k default).drop (i + 1)) d n' < 0 then -1 else F (ri1 ((q.1.getD k default).drop (i + 1)) d n')) → tinj40 d q n (i : Int) (k : Int) (tinl33 N d (fun a => a = r) q (k : Int) C (m + 1)) := by
   intro n' hn' h0 h1 h2
   unfold tinj40
   rw [Int.toNat_natCast, hn', w64 om, show (i : Int) + 1 = ((i + 1 : Nat) : Int) by omega]
   exact ih (i + 1) n' om h0 h1 h2
  unfold tinV8 at key
  rw [Int.toNat_natCast] at key ⊢
  rw [Int.toNat_natCast]
  refine ⟨fun _ => ⟨by omega, by omega, ?_⟩, fun hc => absurd (of_decide_eq_false hc) om⟩
  generalize (q.1.getD k default).getD i default = t at *
  have hcn : (((t.kids.length : Int) == 0) = true) = (t.kids.length = 0) := by simp
  rw [riT_eq] at he hbd
  have hv : tinV2 d t n = (if (decide (d < 3) && decide (n + 1 ≤ 40)) = true then ri3 t.kids (d + 1) 0 else -1) := by
   unfold tinV2 tinS
   rw [w64 (x := n + 1) om, w64 (x := d + 1) om]
  have hv1 : -1 ≤ tinV2 d t n ∧ tinV2 d t n ≤ b3 t.kids := by
   rw [hv]
   split
   ·exact hbd
   omega
  rw [← hv] at he
  rw [w64 (x := n + 1) om] at key ⊢
  have fin : t.kids.length ≠ 0 → ((t.kids.length : Int) == 0) = false → tinj54 d (fun a => a = r) q t n (i : Int) (k : Int) (tinl33 N d (fun a => a = r) q (k : Int) C (m + 1)) := by
   intro hc2 hc
   rw [if_neg hc2] at he
   rw [if_f hc] at key
   refine ⟨fun h1 => ?_, fun h1 => ?_⟩
   ·rw [if_pos (of_decide_eq_true h1), if_pos om] at he; exact he.symm
   have h1 := of_decide_eq_false h1
   rw [if_neg h1] at he
   exact key _ (w64 om) om om he
  have hne : ((t.kids.length : Int) == 0) = false → t.kids.length ≠ 0 := fun hc h0 => by rw [← hcn, hc] at h0; cases h0
  refine ⟨fun hc => ?_, fun hc => ⟨fun hb2 => ⟨?_, fin (hne hc) hc⟩, fun hb2 => fin (hne hc) hc⟩⟩
  ·rw [if_t hc] at key
   rw [hcn] at hc
   rw [if_pos hc] at he
   exact key (n + 1) rfl om om he
  rw [w64 om]; exact ht
theorem tin21 {N : Nat} {l : List Ph} {d : Int} {r : Int} (hd : 0 ≤ d ∧ d ≤ 1000000000) (j : Nat) (hj : j < l.length) (hs : ∀ s ∈ (l.getD j default).1, ∀ t ∈ s, tssP N t.kids (d + 1)) (hw : w2 (l.getD j default).1 ≤ 1048600) (C : Int → Int → Prop) (F : Int → Int) (U : Int) (hU : U ≤ 2000000)
  (hC : ∀ n, 0 ≤ n → n ≤ U → r = F n → C n (w6 ((j : Int) + 1))) : ∀ (m i : Nat) (n : Int), i + m = (l.getD j default).1.length → 0 ≤ n → n + w2 ((l.getD j default).1.drop i) ≤ U →
  r = (if ri2 ((l.getD j default).1.drop i) d n < 0 then -1 else F (ri2 ((l.getD j default).1.drop i) d n)) → tinl21 N l d (fun a => a = r) (j : Int) C (m + 1) n (i : Int) := by
 intro m
 induction m with
 | zero =>
  intro i n hi hn hu he
  rw [List.drop_of_length_le om] at he hu
  refine ⟨by omega, by rw [Int.toNat_natCast]; omega, ?_⟩
  rw [Int.toNat_natCast]
  exact ⟨fun hc => absurd (of_decide_eq_true hc) om, fun _ => hC n hn (by rw [w2] at hu; omega) (by rw [he, ri2, if_neg om])⟩
 | succ m ih =>
  intro i n hi hn hu he
  have hi' : i < (l.getD j default).1.length := by omega
  have ht := hs _ (get_in default hi')
  have hl := w1_len ((l.getD j default).1.getD i default)
  have hw2 := w2_in (get_in default hi')
  have hql := w2_len (l.getD j default).1
  rw [drop_get (l := (l.getD j default).1) default hi', ri2] at he
  rw [drop_get (l := (l.getD j default).1) default hi', w2] at hu
  refine ⟨by omega, by rw [Int.toNat_natCast]; omega, ?_⟩
  rw [Int.toNat_natCast]
  refine ⟨fun _ => ?_, fun hc => absurd (of_decide_eq_false hc) om⟩
  refine ⟨_, tin33 hd (l.getD j default) i hi' ht om _ (fun n => if ri2 ((l.getD j default).1.drop (i + 1)) d n < 0 then -1 else F (ri2 ((l.getD j default).1.drop (i + 1)) d n)) (n + w1 ((l.getD j default).1.getD i default)) om (fun n' h0 h1 h2 => ?_) ((l.getD j default).1.getD i default).length 0 n om hn (by rw [List.drop_zero]; omega) ?_⟩
  ·rw [w64 om, show (i : Int) + 1 = ((i + 1 : Nat) : Int) by omega]
   exact ih (i + 1) n' om h0 om h2
  rw [List.drop_zero, he]
  split
  ·rw [if_pos om]
  rfl
theorem tin_F (N : Nat) (l : List Ph) (d : Int) (h : tinP (N + 1) l d) : tinF N l d (fun a => a = tinS l d) := by
 have h5 := b3_eq l
 have hlen := w3_len l
 have hin := fun q hq s hs t ht => tssP_in h (q := q) hq (s := s) hs (t := t) ht
 obtain ⟨_, hb, hd0, hd1⟩ := h
 have loop : ∀ (m i : Nat) (n : Int), i + m = l.length → 0 ≤ n → n + w3 (l.drop i) ≤ 1048600 → tinS l d = ri3 (l.drop i) d n → tinl9 N l d (fun a => a = tinS l d) (m + 1) n (i : Int) := by
  intro m
  induction m with
  | zero =>
   intro i n hi hn hu he
   rw [List.drop_of_length_le om, ri3] at he
   exact ⟨fun hc => absurd (of_decide_eq_true hc) om, fun _ => he.symm⟩
  | succ m ih =>
   intro i n hi hn hu he
   have hi' : i < l.length := by omega
   have hq := get_in default hi'
   have hwq := w3_in hq
   have q1 := hin _ hq
   rw [drop_get (l := l) default hi'] at he hu
   rw [w3] at hu
   have e3 : ri3 (l.getD i default :: l.drop (i + 1)) d n = if ri2 (l.getD i default).1 d n < 0 then -1 else ri3 (l.drop (i + 1)) d (ri2 (l.getD i default).1 d n) := by
    generalize l.getD i default = q
    obtain ⟨p, js⟩ := q
    rw [ri3]
   rw [e3] at he
   refine ⟨fun _ => ?_, fun hc => absurd (of_decide_eq_false hc) om⟩
   refine ⟨_, tin21 ⟨hd0, by omega⟩ i hi' q1 om _ (fun n => ri3 (l.drop (i + 1)) d n) (n + w2 (l.getD i default).1) om (fun n' h0 h1 h2 => ?_) (l.getD i default).1.length 0 n om hn (by rw [List.drop_zero]; omega) ?_⟩
   ·rw [w64 om, show (i : Int) + 1 = ((i + 1 : Nat) : Int) by omega]
    exact ih (i + 1) n' om h0 om h2
   rw [List.drop_zero]; exact he
 exact ⟨_, loop l.length 0 0 om om (by rw [List.drop_zero]; omega) (by rw [List.drop_zero]; rfl)⟩
theorem tin_rec : ∀ N, tin_C N
 | 0 => (by intro g axl_0 cxl_0 xl xdeep hRxl_0 hp; exact (tin_0 xl xdeep hp).elim)
 | N + 1 =>
  have ih := tin_rec N
  (by intro g axl_0 cxl_0 xl xdeep hRxl_0 hp; exact (tin_ok N ih xl xdeep hRxl_0 _ (tin_F N xl xdeep hp)).gives (by rintro g' H' v _ ⟨r0, rfl, rfl, hK⟩; subst hK; rfl))
def tinPE (xl : List PH) (xdeep : Int) : Prop := ∃ N, tinP N xl xdeep
theorem tin_c {g : Ghost} {axl_0 : Option Addr} {cxl_0 : Nat} (xl : List PH) (xdeep : Int) (hRxl_0 : Rep g (.slice yP) [.slice axl_0 xl.length cxl_0] xl)  (hp : tinPE xl xdeep) : CallsG Tryz.prog 17 #[.slice axl_0 xl.length cxl_0, iv xdeep] g (iv (tinS xl xdeep)) := by
 obtain ⟨N, hp⟩ := hp
 exact (tin_rec N) _ xl xdeep hRxl_0 hp
end Go.Proofs.YtcnhdkhkadiohaaGreatDoor.Se
