/- selector: how many tests there are, by the program and by the document. -/
import Derived.Test.YtcnhdkhkadiohaaGreatDoorSec
import Derived.Test.YtcnhdkhkadiohaaGreatDoorSfa
namespace Go.Proofs.YtcnhdkhkadiohaaGreatDoor.Se
open Go Go.Eng Go.RowKit Bld Trm Css Tk Ti
set_option maxHeartbeats 4000000
set_option maxRecDepth 100000
set_option linter.unusedSimpArgs false
set_option linter.unusedVariables false
def tssS (l : List Ph) (d : Int) : Int × Bool := ts3 l d 0
def tssP (N : Nat) (l : List Ph) (d : Int) : Prop := b3 l < N ∧ b3 l ≤ 1048600 ∧ 0 ≤ d ∧ d + b3 l ≤ 1000000000
theorem tssP_in {N : Nat} {l : List Ph} {d : Int} (h : tssP (N + 1) l d) {q : Ph} (hq : q ∈ l) {s : List Ts} (hs : s ∈ q.1) {t : Ts} (ht : t ∈ s) : tssP N t.kids (d + 1) := by
 have h1 := w3_in hq
 have h2 := w2_in hs
 have h3 := w1_in ht
 have h4 := bT_kids t
 have h5 := b3_eq l
 obtain ⟨a, b, c, e⟩ := h
 exact ⟨by omega, by omega, by omega, by omega⟩
def tss_C (N : Nat) : Prop := ∀ (g : Ghost) {axl_0 : Option Addr} {cxl_0 : Nat} (xl : List PH) (xdeep : Int) (hRxl_0 : Rep g (.slice yP) [.slice axl_0 xl.length cxl_0] xl)  (hp : tssP N xl xdeep), CallsG Tryz.prog 31 #[.slice axl_0 xl.length cxl_0, iv xdeep] g (.tuple #[iv (tssS xl xdeep).1, .bool (tssS xl xdeep).2])
def tssV4 (xdeep : Int) (e7 : List TS) (q0 : Int) (z0 : Int) : Int :=
 (if (((e7.getD (Int.toNat z0) default).kids.length : Int) == 0) = true then q0 else w6 (q0 + (tssS (e7.getD (Int.toNat z0) default).kids (w6 (xdeep + 1))).1))
def tssj46 (xdeep : Int) (e7 : List TS) (q0 : Int) (z0 : Int) (C39 : Int → Int → Prop) : Prop :=
 C39 (tssV4 xdeep e7 q0 z0) (w6 (z0 + 1))
def tssl39b (N : Nat) (xdeep : Int) (K : Int → Bool → Prop) (e7 : List TS) (v0 : Int) (C23 : Int → Int → Prop) (q0 : Int) (z0 : Int) (C39 : Int → Int → Prop) : Prop :=
 ((decide (z0 < (e7.length : Int))) = true → 0 ≤ z0 ∧ Int.toNat z0 < e7.length ∧ (((((e7.getD (Int.toNat z0) default).kids.length : Int) == 0)) = true → tssj46 xdeep e7 q0 z0 C39) ∧ (((((e7.getD (Int.toNat z0) default).kids.length : Int) == 0)) = false → tssP N (e7.getD (Int.toNat z0) default).kids (w6 (xdeep + 1)) ∧ (((((!((tssS (e7.getD (Int.toNat z0) default).kids (w6 (xdeep + 1))).2)) || (decide (xdeep ≥ 3))) || (decide ((w6 (q0 + (tssS (e7.getD (Int.toNat z0) default).kids (w6 (xdeep + 1))).1)) > 40)))) = true → K (w6 (q0 + (tssS (e7.getD (Int.toNat z0) default).kids (w6 (xdeep + 1))).1)) false) ∧ (((((!((tssS (e7.getD (Int.toNat z0) default).kids (w6 (xdeep + 1))).2)) || (decide (xdeep ≥ 3))) || (decide ((w6 (q0 + (tssS (e7.getD (Int.toNat z0) default).kids (w6 (xdeep + 1))).1)) > 40)))) = false → tssj46 xdeep e7 q0 z0 C39))) ∧ ((decide (z0 < (e7.length : Int))) = false → C23 q0 (w6 (v0 + 1)))
def tssl39 (N : Nat) (xdeep : Int) (K : Int → Bool → Prop) (e7 : List TS) (v0 : Int) (C23 : Int → Int → Prop) : Nat → Int → Int → Prop
 | 0, _, _ => False
 | k + 1, q0, z0 => tssl39b N xdeep K e7 v0 C23 q0 z0 (tssl39 N xdeep K e7 v0 C23 k)
def tssl23b (N : Nat) (xdeep : Int) (K : Int → Bool → Prop) (e3 : PH) (k0 : Int) (C9 : Int → Int → Prop) (y0 : Int) (v0 : Int) (C23 : Int → Int → Prop) : Prop :=
 ((decide (v0 < (e3.1.length : Int))) = true → 0 ≤ v0 ∧ Int.toNat v0 < e3.1.length ∧ ∃ k, tssl39 N xdeep K (e3.1.getD (Int.toNat v0) default) v0 C23 k (w6 (y0 + ((e3.1.getD (Int.toNat v0) default).length : Int))) 0) ∧ ((decide (v0 < (e3.1.length : Int))) = false → C9 y0 (w6 (k0 + 1)))
def tssl23 (N : Nat) (xdeep : Int) (K : Int → Bool → Prop) (e3 : PH) (k0 : Int) (C9 : Int → Int → Prop) : Nat → Int → Int → Prop
 | 0, _, _ => False
 | k + 1, y0, v0 => tssl23b N xdeep K e3 k0 C9 y0 v0 (tssl23 N xdeep K e3 k0 C9 k)
def tssl9b (N : Nat) (xl : List PH) (xdeep : Int) (K : Int → Bool → Prop) (u0 : Int) (k0 : Int) (C9 : Int → Int → Prop) : Prop :=
 ((decide (k0 < (xl.length : Int))) = true → 0 ≤ k0 ∧ Int.toNat k0 < xl.length ∧ ∃ k, tssl23 N xdeep K (xl.getD (Int.toNat k0) default) k0 C9 k u0 0) ∧ ((decide (k0 < (xl.length : Int))) = false → K u0 (decide (u0 ≤ 40)))
def tssl9 (N : Nat) (xl : List PH) (xdeep : Int) (K : Int → Bool → Prop) : Nat → Int → Int → Prop
 | 0, _, _ => False
 | k + 1, u0, k0 => tssl9b N xl xdeep K u0 k0 (tssl9 N xl xdeep K k)
def tssF (N : Nat) (xl : List PH) (xdeep : Int) (K : Int → Bool → Prop) : Prop :=
 ∃ k, tssl9 N xl xdeep K k 0 0
theorem tss_ok {g : Ghost} (N : Nat) (ih_tss : tss_C N) {axl_0 : Option Addr} {cxl_0 : Nat} (xl : List PH) (xdeep : Int) (hRxl_0 : Rep g (.slice yP) [.slice axl_0 xl.length cxl_0] xl) (K : Int → Bool → Prop)
  (hF : tssF N xl xdeep K) : CallsH Tryz.prog 31 #[.slice axl_0 xl.length cxl_0, iv xdeep] g [] (fun g' H' v => ∃ (r0 : Int), ∃ (r1 : Bool), v = .tuple #[iv r0, .bool r1] ∧ H' = [] ∧ K r0 r1) := by
 refine CallsH.enter 70 [(0, .slice axl_0 xl.length cxl_0), (1, iv xdeep)] Tryz.func31 rfl kr kr kr fun w0 => ?_
 refine Ok.sr ((Ok.B 2 [(0, .slice axl_0 xl.length cxl_0), (1, iv xdeep)] kr (Ok.nt ((Ok.sr ((Ok.b 1 [0, 1] [(6, iv 0)] ?_)))))))
 refine Ok.nt ((Ok.q (Ok.sr ((Ok.b 3 [1, 6] [(15, .slice axl_0 xl.length cxl_0), (16, iv (xl.length : Int)), (17, iv 0)] ?_)))))
 refine Ok.nt ((Ok.block ?_))
 obtain ⟨k, hF⟩ := hF
 refine Ok.L (fun k a W => ∃ (u0 : Int) (k0 : Int), StA 70 [(1, iv xdeep), (6, iv u0), (15, .slice axl_0 xl.length cxl_0), (16, iv (xl.length : Int)), (17, iv k0)] a ∧ StW w0 [] g W ∧ tssl9 N xl xdeep K k u0 k0) k ?_ ?_
 ·
  exact fun a W hA hW => ⟨0, 0, hA.sub kr, hW, hF⟩
 clear hF
 rintro k9 a W ⟨u0, k0, hA, hW, hF⟩
 cases k9 with
 | zero => exact (hF : False).elim
 | succ k9 =>
  refine (?_ : Ok _ _ _ _ _ _) a W hA hW
  clear hA hW
  refine Ok.sr ((Ok.b 1 [1, 6, 15, 16, 17] [(18, .bool (decide (k0 < (xl.length : Int))))] ?_))
  refine Ok.nt ((Ok.q (Ok.cn hF rfl (fun hc1 => ?_) (fun hc1 => ?_))))
  ·replace hF := hF.1 hc1
   refine Ok.k (Ok.t (Ok.q (Ok.block (Ok.q (Ok.r ?_)))))
   obtain ⟨h03, h13, hF⟩ := hF
   have he3 := get_of (l := xl) (default : PH) h13
   generalize hg3 : (xl.getD (Int.toNat k0) default) = e3 at he3 hF ⊢
   refine Ok.op rfl (OpOk.indexRo (e := yP) (i := k0) (el := e3) rfl rfl Tryz.underlying29 kr hRxl_0 h03 he3 rfl fun q2 o2 cs2 _ n0 hr2 => ?_)
   obtain ⟨_, _, rfl, ⟨j0, x0, rfl, hm2_0, hr2_0⟩, ⟨e0, f0, rfl, hm2_1, hr2_1⟩⟩ := hr2
   have hR2_0 : Rep g (.slice (.slice yS)) [.slice j0 e3.1.length x0] e3.1 := ⟨j0, x0, rfl, hm2_0, hr2_0⟩
   have hR2_1 : Rep g (.slice yb) [.slice e0 e3.2.length f0] e3.2 := ⟨e0, f0, rfl, hm2_1, hr2_1⟩
   replace n0 : At g q2 o2 [.slice j0 e3.1.length x0, .slice e0 e3.2.length f0] := n0
   refine Ok.op rfl (OpOk.s (v := .agg #[.slice j0 e3.1.length x0, .slice e0 e3.2.length f0]) (Yields.loadAggRo 0 2 #[.slice j0 e3.1.length x0, .slice e0 e3.2.length f0] n0 kr Tryz.underlying25 rfl kr kr kr) rfl rfl (Ok.op rfl (OpOk.a (z := .agg #[.slice none 0 0, .slice none 0 0]) (cs := #[.slice none 0 0, .slice none 0 0]) kr kr rfl fun bs8 => ?_)))
   refine Ok.op rfl (OpOk.sto (k := 2) (v := .agg #[.slice j0 e3.1.length x0, .slice e0 e3.2.length f0]) 0 #[.slice j0 e3.1.length x0, .slice e0 e3.2.length f0] rfl rfl rfl ?_)
   refine Ok.nt ((Ok.sr ((Ok.b 1 [1, 6, 15, 16, 17] [(21, pv bs8 0)] ?_))))
   refine Ok.op rfl (OpOk.s (v := .slice j0 e3.1.length x0) (Yields.l 0 rfl rfl Tryz.underlying22 rfl kr) rfl rfl (Ok.b 2 [1, 6, 15, 16, 17] [(22, .slice j0 e3.1.length x0), (23, iv (e3.1.length : Int)), (24, iv 0)] ?_))
   refine Ok.nt ((Ok.block ?_))
   obtain ⟨k, hF⟩ := hF
   refine Ok.L (fun k a W => ∃ (y0 : Int) (v0 : Int), StA 70 [(1, iv xdeep), (6, iv y0), (15, .slice axl_0 xl.length cxl_0), (16, iv (xl.length : Int)), (17, iv k0), (22, .slice j0 e3.1.length x0), (23, iv (e3.1.length : Int)), (24, iv v0)] a ∧ StW w0 [] g W ∧ tssl23 N xdeep K e3 k0 (tssl9 N xl xdeep K k9) k y0 v0) k ?_ ?_
   ·
    exact fun a W hA hW => ⟨u0, 0, hA.sub kr, hW.sub (.cons _ .slnil), hF⟩
   clear hF
   rintro k23 a W ⟨y0, v0, hA, hW, hF⟩
   cases k23 with
   | zero => exact (hF : False).elim
   | succ k23 =>
    refine (?_ : Ok _ _ _ _ _ _) a W hA hW
    clear hA hW
    refine Ok.sr ((Ok.b 1 [1, 6, 15, 16, 17, 22, 23, 24] [(25, .bool (decide (v0 < (e3.1.length : Int))))] ?_))
    refine Ok.nt ((Ok.q (Ok.cn hF rfl (fun hc5 => ?_) (fun hc5 => ?_))))
    ·replace hF := hF.1 hc5
     refine Ok.k (Ok.t (Ok.q (Ok.block (Ok.q (Ok.r ?_)))))
     obtain ⟨h07, h17, hF⟩ := hF
     have he7 := get_of (l := e3.1) (default : List TS) h17
     generalize hg7 : (e3.1.getD (Int.toNat v0) default) = e7 at he7 hF ⊢
     refine Ok.op rfl (OpOk.indexRo (e := .slice yS) (i := v0) (el := e7) rfl rfl Tryz.underlying22 kr hR2_0 h07 he7 rfl fun q6 o6 cs6 _ o0 hr6 => ?_)
     obtain ⟨s0, b0, rfl, hm6_0, hr6_0⟩ := hr6
     have hR6_0 : Rep g (.slice yS) [.slice s0 e7.length b0] e7 := ⟨s0, b0, rfl, hm6_0, hr6_0⟩
     replace o0 : At g q6 o6 [.slice s0 e7.length b0] := o0
     refine Ok.op rfl (OpOk.s (v := .slice s0 e7.length b0) (Yields.lr 0 o0 kr Tryz.underlying41 rfl kr) rfl rfl (Ok.b 1 [1, 6, 15, 16, 17, 22, 23, 24] [(10, .slice s0 e7.length b0)] ?_))
     refine Ok.nt ((Ok.sr ((Ok.b 5 [1, 10, 15, 16, 17, 22, 23, 24] [(6, iv (w6 (y0 + (e7.length : Int))))] ?_))))
     refine Ok.nt ((Ok.sr ((Ok.b 3 [1, 6, 15, 16, 17, 22, 23, 24] [(32, .slice s0 e7.length b0), (33, iv (e7.length : Int)), (34, iv 0)] ?_))))
     refine Ok.nt ((Ok.block ?_))
     obtain ⟨k, hF⟩ := hF
     refine Ok.L (fun k a W => ∃ (q0 : Int) (z0 : Int), StA 70 [(1, iv xdeep), (6, iv q0), (15, .slice axl_0 xl.length cxl_0), (16, iv (xl.length : Int)), (17, iv k0), (22, .slice j0 e3.1.length x0), (23, iv (e3.1.length : Int)), (24, iv v0), (32, .slice s0 e7.length b0), (33, iv (e7.length : Int)), (34, iv z0)] a ∧ StW w0 [] g W ∧ tssl39 N xdeep K e7 v0 (tssl23 N xdeep K e3 k0 (tssl9 N xl xdeep K k9) k23) k q0 z0) k ?_ ?_
     ·
      exact fun a W hA hW => ⟨w6 (y0 + (e7.length : Int)), 0, hA.sub kr, hW, hF⟩
     clear hF
     rintro k39 a W ⟨q0, z0, hA, hW, hF⟩
     cases k39 with
     | zero => exact (hF : False).elim
     | succ k39 =>
      refine (?_ : Ok _ _ _ _ _ _) a W hA hW
      clear hA hW
      refine Ok.sr ((Ok.b 1 [1, 6, 15, 16, 17, 22, 23, 24, 32, 33, 34] [(35, .bool (decide (z0 < (e7.length : Int))))] ?_))
      refine Ok.nt ((Ok.q (Ok.cn hF rfl (fun hc8 => ?_) (fun hc8 => ?_))))
      ·replace hF := hF.1 hc8
       refine Ok.k (Ok.t (Ok.cut (fun a W => StA 70 [(1, iv xdeep), (6, iv (tssV4 xdeep e7 q0 z0)), (15, .slice axl_0 xl.length cxl_0), (16, iv (xl.length : Int)), (17, iv k0), (22, .slice j0 e3.1.length x0), (23, iv (e3.1.length : Int)), (24, iv v0), (32, .slice s0 e7.length b0), (33, iv (e7.length : Int)), (34, iv z0)] a ∧ StW w0 [] g W ∧ tssj46 xdeep e7 q0 z0 (tssl39 N xdeep K e7 v0 (tssl23 N xdeep K e3 k0 (tssl9 N xl xdeep K k9) k23) k39)) ?_ ?_))
       ·
        refine Ok.block (Ok.q (Ok.r ?_))
        obtain ⟨h010, h110, hF⟩ := hF
        have V0 := get_of (l := e7) (default : TS) h110
        generalize Q0 : (e7.getD (Int.toNat z0) default) = e10 at V0 hF ⊢
        refine Ok.op rfl (OpOk.indexRo (e := yS) (i := z0) (el := e10) rfl rfl Tryz.underlying41 kr hR6_0 h010 V0 rfl fun q9 o9 cs9 _ p0 hr9 => ?_)
        have g0 := hr9
        replace g0 := Rep.tst.1 g0
        obtain ⟨_, _, rfl, ⟨_, _, rfl, rfl, ⟨_, _, rfl, rfl, ⟨_, _, rfl, rfl, ⟨_, _, rfl, rfl, ⟨_, _, rfl, rfl, rfl⟩⟩⟩⟩⟩, ⟨c0, d0, rfl, hm9_6, hr9_6⟩⟩ := g0
        have hR9_6 : Rep g (.slice yP) [.slice c0 e10.kids.length d0] e10.kids := ⟨c0, d0, rfl, hm9_6, hr9_6⟩
        replace p0 : At g q9 o9 (vL e10.lab c0 e10.kids.length d0) := p0
        refine Ok.op rfl (OpOk.s (v := .agg (aL e10.lab c0 e10.kids.length d0)) (Yields.loadAggRo 0 7 (aL e10.lab c0 e10.kids.length d0) p0 kr Tryz.underlying48 rfl kr kr kr) rfl rfl (Ok.op rfl (OpOk.a (z := .agg #[iv 0, sv ([] : Bs), .int .u8 0, sv ([] : Bs), iv 0, iv 0, .slice none 0 0]) (cs := #[iv 0, sv ([] : Bs), .int .u8 0, sv ([] : Bs), iv 0, iv 0, .slice none 0 0]) kr kr rfl fun t0 => ?_)))
        refine Ok.op rfl (OpOk.sto (k := 7) (v := .agg (aL e10.lab c0 e10.kids.length d0)) 0 (aL e10.lab c0 e10.kids.length d0) rfl rfl rfl ?_)
        refine Ok.nt ((Ok.q (Ok.sr ((Ok.b 1 [1, 6, 15, 16, 17, 22, 23, 24, 32, 33, 34] [(12, pv t0 0), (38, pv t0 6)] ?_)))))
        refine Ok.op rfl (OpOk.s (v := .slice c0 e10.kids.length d0) (Yields.l 0 rfl rfl Tryz.underlying29 rfl kr) rfl rfl (Ok.b 2 [1, 6, 12, 15, 16, 17, 22, 23, 24, 32, 33, 34] [(41, .bool ((e10.kids.length : Int) == 0))] ?_))
        refine Ok.nt ((Ok.cn hF rfl (fun m0 => ?_) (fun m0 => ?_)))
        ·replace hF := hF.1 m0
         refine Ok.x (Ok.thenE (Ok.blockHit (Ok.t ?_)))
         subst Q0
         refine Ok.v 6 rfl (show (iv q0 : Value) = iv (tssV4 xdeep e7 q0 z0) from congrArg (Value.int .i64) ((if_t m0).symm)) ?_
         exact fun a W hA hW => ⟨hA.sub kr, hW.sub (.cons _ .slnil), hF⟩
        replace hF := hF.2 m0
        refine Ok.k (Ok.t (Ok.sr ((Ok.b 1 [1, 6, 15, 16, 17, 22, 23, 24, 32, 33, 34] [(43, pv t0 6)] ?_))))
        refine Ok.op rfl (OpOk.s (v := .slice c0 e10.kids.length d0) (Yields.l 0 rfl rfl Tryz.underlying29 rfl kr) rfl rfl (Ok.b 2 [1, 6, 15, 16, 17, 22, 23, 24, 32, 33, 34] [(44, .slice c0 e10.kids.length d0), (46, iv (w6 (xdeep + 1)))] ?_))
        obtain ⟨hp13, hF⟩ := hF
        refine Ok.op rfl (OpOk.f enr (fun W hW => ih_tss _ e10.kids (w6 (xdeep + 1)) (hR9_6.mono hW.sees) hp13) rfl ?_)
        refine Ok.b 5 [1, 6, 15, 16, 17, 22, 23, 24, 32, 33, 34] [(13, iv (tssS e10.kids (w6 (xdeep + 1))).1), (14, .bool (tssS e10.kids (w6 (xdeep + 1))).2)] ?_
        refine Ok.nt ((Ok.sr ((Ok.b 4 [1, 14, 15, 16, 17, 22, 23, 24, 32, 33, 34] [(6, iv (w6 (q0 + (tssS e10.kids (w6 (xdeep + 1))).1)))] ?_))))
        refine Ok.nt ((Ok.sr ((Ok.b 3 [1, 6, 15, 16, 17, 22, 23, 24, 32, 33, 34] [(55, .bool (!((tssS e10.kids (w6 (xdeep + 1))).2)))] ?_))))
        refine Ok.w 3 [(1, iv xdeep), (6, iv (w6 (q0 + (tssS e10.kids (w6 (xdeep + 1))).1))), (15, .slice axl_0 xl.length cxl_0), (16, iv (xl.length : Int)), (17, iv k0), (22, .slice j0 e3.1.length x0), (23, iv (e3.1.length : Int)), (24, iv v0), (32, .slice s0 e7.length b0), (33, iv (e7.length : Int)), (34, iv z0), (58, .bool ((!((tssS e10.kids (w6 (xdeep + 1))).2)) || (decide (xdeep ≥ 3))))] (fun K0 => ?_) ?_
        ·refine Ok.a 55 (!((tssS e10.kids (w6 (xdeep + 1))).2)) rfl (fun a0 => ?_) (fun a0 => ?_)
         ·skip
          refine Ok.b 3 [1, 6, 15, 16, 17, 22, 23, 24, 32, 33, 34] [(58, .bool true)] ?_
          refine Ok.v 58 rfl (show (.bool true : Value) = .bool ((!((tssS e10.kids (w6 (xdeep + 1))).2)) || (decide (xdeep ≥ 3))) from congrArg Value.bool (mor_t a0)) (Ok.b 0 [1, 6, 15, 16, 17, 22, 23, 24, 32, 33, 34] [(58, .bool ((!((tssS e10.kids (w6 (xdeep + 1))).2)) || (decide (xdeep ≥ 3))))] ?_)
          exact K0
         skip
         refine Ok.b 3 [1, 6, 15, 16, 17, 22, 23, 24, 32, 33, 34] [(58, .bool (decide (xdeep ≥ 3)))] ?_
         refine Ok.v 58 rfl (show (.bool (decide (xdeep ≥ 3)) : Value) = .bool ((!((tssS e10.kids (w6 (xdeep + 1))).2)) || (decide (xdeep ≥ 3))) from congrArg Value.bool (mor_f a0)) (Ok.b 0 [1, 6, 15, 16, 17, 22, 23, 24, 32, 33, 34] [(58, .bool ((!((tssS e10.kids (w6 (xdeep + 1))).2)) || (decide (xdeep ≥ 3))))] ?_)
         exact K0
        refine Ok.b 1 [1, 6, 15, 16, 17, 22, 23, 24, 32, 33, 34] [(59, .bool ((!((tssS e10.kids (w6 (xdeep + 1))).2)) || (decide (xdeep ≥ 3))))] ?_
        refine Ok.w 3 [(1, iv xdeep), (6, iv (w6 (q0 + (tssS e10.kids (w6 (xdeep + 1))).1))), (15, .slice axl_0 xl.length cxl_0), (16, iv (xl.length : Int)), (17, iv k0), (22, .slice j0 e3.1.length x0), (23, iv (e3.1.length : Int)), (24, iv v0), (32, .slice s0 e7.length b0), (33, iv (e7.length : Int)), (34, iv z0), (62, .bool (((!((tssS e10.kids (w6 (xdeep + 1))).2)) || (decide (xdeep ≥ 3))) || (decide ((w6 (q0 + (tssS e10.kids (w6 (xdeep + 1))).1)) > 40))))] (fun Y0 => ?_) ?_
        ·refine Ok.a 59 (((!((tssS e10.kids (w6 (xdeep + 1))).2)) || (decide (xdeep ≥ 3)))) rfl (fun i0 => ?_) (fun i0 => ?_)
         ·skip
          refine Ok.b 3 [1, 6, 15, 16, 17, 22, 23, 24, 32, 33, 34] [(62, .bool true)] ?_
          refine Ok.v 62 rfl (show (.bool true : Value) = .bool (((!((tssS e10.kids (w6 (xdeep + 1))).2)) || (decide (xdeep ≥ 3))) || (decide ((w6 (q0 + (tssS e10.kids (w6 (xdeep + 1))).1)) > 40))) from congrArg Value.bool (mor_t i0)) (Ok.b 0 [1, 6, 15, 16, 17, 22, 23, 24, 32, 33, 34] [(62, .bool (((!((tssS e10.kids (w6 (xdeep + 1))).2)) || (decide (xdeep ≥ 3))) || (decide ((w6 (q0 + (tssS e10.kids (w6 (xdeep + 1))).1)) > 40))))] ?_)
          exact Y0
         skip
         refine Ok.b 3 [1, 6, 15, 16, 17, 22, 23, 24, 32, 33, 34] [(62, .bool (decide ((w6 (q0 + (tssS e10.kids (w6 (xdeep + 1))).1)) > 40)))] ?_
         refine Ok.v 62 rfl (show (.bool (decide ((w6 (q0 + (tssS e10.kids (w6 (xdeep + 1))).1)) > 40)) : Value) = .bool (((!((tssS e10.kids (w6 (xdeep + 1))).2)) || (decide (xdeep ≥ 3))) || (decide ((w6 (q0 + (tssS e10.kids (w6 (xdeep + 1))).1)) > 40))) from congrArg Value.bool (mor_f i0)) (Ok.b 0 [1, 6, 15, 16, 17, 22, 23, 24, 32, 33, 34] [(62, .bool (((!((tssS e10.kids (w6 (xdeep + 1))).2)) || (decide (xdeep ≥ 3))) || (decide ((w6 (q0 + (tssS e10.kids (w6 (xdeep + 1))).1)) > 40))))] ?_)
         exact Y0
        refine Ok.nt ((Ok.cn hF rfl (fun Z0 => ?_) (fun Z0 => ?_)))
        ·replace hF := hF.1 Z0
         refine Ok.sr ((Ok.B 3 [(4, iv (w6 (q0 + (tssS e10.kids (w6 (xdeep + 1))).1))), (5, .bool false)] kr (Ok.nt ((Ok.ret (Ok.kr (Ok.tr (Ok.tr (Ok.kr (Ok.kr (Ok.tr (Ok.tr (Ok.kr (Ok.kr (Ok.tr (Ok.tr (Ok.kr (Ok.tr ?_))))))))))))))))))
         exact Ok.p (vs := [iv (w6 (q0 + (tssS e10.kids (w6 (xdeep + 1))).1)), .bool false]) [] [] dc rfl (.inl rfl) rfl (.cons (.tmp rfl) (.cons (.tmp rfl) .nil)) (Gext.r w0 g) ⟨(w6 (q0 + (tssS e10.kids (w6 (xdeep + 1))).1)), false, rfl, rfl, hF⟩
        replace hF := hF.2 Z0
        refine Ok.k (Ok.kn (Ok.t ?_))
        subst Q0
        refine Ok.v 6 rfl (show (iv (w6 (q0 + (tssS (e7.getD (Int.toNat z0) default).kids (w6 (xdeep + 1))).1)) : Value) = iv (tssV4 xdeep e7 q0 z0) from congrArg (Value.int .i64) ((if_f m0).symm)) ?_
        exact fun a W hA hW => ⟨hA.sub kr, hW.sub (.cons _ .slnil), hF⟩
       clear hF
       rintro a W ⟨hA, hW, hF⟩
       refine (?_ : Ok _ _ _ _ _ _) a W hA hW
       clear hA hW
       refine Ok.r (Ok.b 2 [1, 6, 15, 16, 17, 22, 23, 24, 32, 33] [(34, iv (w6 (z0 + 1)))] ?_)
       refine Ok.j (Ok.t ?_)
       exact fun a W hA hW => ⟨k39, Nat.lt_succ_self _, (tssV4 xdeep e7 q0 z0), w6 (z0 + 1), hA.sub kr, hW, hF⟩
      replace hF := hF.2 hc8
      refine Ok.x (Ok.thenE (Ok.thenE (Ok.blockHit (Ok.kn (Ok.t (Ok.r (Ok.b 2 [1, 6, 15, 16, 17, 22, 23] [(24, iv (w6 (v0 + 1)))] ?_)))))))
      refine Ok.j (Ok.t ?_)
      subst hg7
      exact fun a W hA hW => ⟨k23, Nat.lt_succ_self _, q0, w6 (v0 + 1), hA.sub kr, hW, hF⟩
    replace hF := hF.2 hc5
    refine Ok.x (Ok.thenE (Ok.thenE (Ok.blockHit (Ok.kn (Ok.t (Ok.r (Ok.b 2 [1, 6, 15, 16] [(17, iv (w6 (k0 + 1)))] ?_)))))))
    refine Ok.j (Ok.t ?_)
    subst hg3
    exact fun a W hA hW => ⟨k9, Nat.lt_succ_self _, y0, w6 (k0 + 1), hA.sub kr, hW, hF⟩
  replace hF := hF.2 hc1
  refine Ok.x (Ok.thenE (Ok.thenE (Ok.blockHit (Ok.t (Ok.sr ((Ok.B 5 [(4, iv u0), (5, .bool (decide (u0 ≤ 40)))] kr (Ok.nt ((Ok.ret ?_))))))))))
  exact Ok.resH (vs := [iv u0, .bool (decide (u0 ≤ 40))]) (.inl rfl) rfl (.cons (.tmp rfl) (.cons (.tmp rfl) .nil)) (Gext.r w0 g) ⟨u0, (decide (u0 ≤ 40)), rfl, rfl, hF⟩
theorem tss_0 (l : List Ph) (d : Int) : ¬ tssP 0 l d := fun h => absurd h.1 (Nat.not_lt_zero _)
theorem tss39 {N : Nat} {d : Int} {r : Int × Bool} (hd : 0 ≤ d ∧ d ≤ 1000000000) (s : List Ts) (hs : ∀ t ∈ s, tssP N t.kids (d + 1)) (hl : s.length ≤ 1048600) (k : Int) (C : Int → Int → Prop) (F : Int → Int × Bool) (U : Int) (hU : U ≤ 4000000)
  (hC : ∀ n, 0 ≤ n → n ≤ U → r = F n → C n (w6 (k + 1))) : ∀ (m i : Nat) (n : Int), i + m = s.length → 0 ≤ n → n + w1 (s.drop i) ≤ U + m →
  r = (if (ts1 (s.drop i) d n).2 = true then F (ts1 (s.drop i) d n).1 else ((ts1 (s.drop i) d n).1, false)) → tssl39 N d (fun a b => (a, b) = r) s k C (m + 1) n (i : Int) := by
 intro m
 induction m with
 | zero =>
  intro i n hi hn hu he
  rw [List.drop_of_length_le om] at he
  exact ⟨fun hc => absurd (of_decide_eq_true hc) om, fun _ => hC n hn om (by rw [he, ts1, if_pos rfl])⟩
 | succ m ih =>
  intro i n hi hn hu he
  have hi' : i < s.length := by omega
  have ht := hs _ (get_in default hi')
  have hb := bT_kids (s.getD i default)
  have hbd := (bdT (s.getD i default) (d + 1)).1
  rw [drop_get (l := s) default hi', ts1, tsT_eq] at he
  rw [drop_get (l := s) default hi', w1] at hu
  rw [tsT_eq] at hbd
  refine ⟨fun _ => ⟨by omega, by rw [Int.toNat_natCast]; omega, ?_⟩, fun hc => absurd (of_decide_eq_false hc) om⟩
  have key : ∀ n', tssV4 d s n (i : Int) = n' → 0 ≤ n' → n' + w1 (s.drop (i + 1)) ≤ U + m → r = (if (ts1 (s.drop (i + 1)) d n').2 = true then F (ts1 (s.drop (i + 1)) d n').1 else ((ts1 (s.drop (i + 1)) d n').1, false)) → tssj46 d s n (i : Int) (tssl39 N d (fun a b => (a, b) = r) s k C (m + 1)) := by
   intro n' hn' h0 h1 h2
   unfold tssj46
   rw [hn', w64 om, show (i : Int) + 1 = ((i + 1 : Nat) : Int) by omega]
   exact ih (i + 1) n' om h0 h1 h2
  unfold tssV4 at key
  rw [Int.toNat_natCast] at key ⊢
  generalize s.getD i default = t at *
  rw [w64 (x := d + 1) om] at key ⊢
  have hcn : (((t.kids.length : Int) == 0) = true) = (t.kids.length = 0) := by simp
  refine ⟨fun hc => ?_, fun hc => ⟨ht, fun hb2 => ?_, fun hb2 => ?_⟩⟩
  ·rw [if_t hc] at key
   rw [hcn] at hc
   rw [if_pos hc] at he
   exact key n rfl hn om he
  ·have hc2 : ¬ t.kids.length = 0 := by rw [← hcn, hc]; simp
   rw [if_neg hc2] at he
   unfold tssS at hb2 ⊢
   rw [w64 (x := n + _) om] at hb2 ⊢
   rw [Bool.or_assoc] at hb2
   rw [hb2] at he
   simp only [Bool.false_eq_true, ↓reduceIte] at he
   exact he.symm
  have hc2 : ¬ t.kids.length = 0 := by rw [← hcn, hc]; simp
  rw [if_neg hc2] at he
  rw [if_f hc] at key
  unfold tssS at hb2 key
  rw [w64 (x := n + _) om] at hb2 key
  rw [Bool.or_assoc] at hb2
  rw [hb2] at he
  simp only [Bool.false_eq_true, ↓reduceIte] at he
  exact key _ rfl om om he
theorem tss23 {N : Nat} {d : Int} {r : Int × Bool} (hd : 0 ≤ d ∧ d ≤ 1000000000) (q : Ph) (hs : ∀ s ∈ q.1, ∀ t ∈ s, tssP N t.kids (d + 1)) (hw : w2 q.1 ≤ 1048600) (k : Int) (C : Int → Int → Prop) (F : Int → Int × Bool) (U : Int) (hU : U ≤ 2000000)
  (hC : ∀ n, 0 ≤ n → n ≤ U → r = F n → C n (w6 (k + 1))) : ∀ (m i : Nat) (n : Int), i + m = q.1.length → 0 ≤ n → n + w2 (q.1.drop i) ≤ U →
  r = (if (ts2 (q.1.drop i) d n).2 = true then F (ts2 (q.1.drop i) d n).1 else ((ts2 (q.1.drop i) d n).1, false)) → tssl23 N d (fun a b => (a, b) = r) q k C (m + 1) n (i : Int) := by
 intro m
 induction m with
 | zero =>
  intro i n hi hn hu he
  rw [List.drop_of_length_le om] at he
  exact ⟨fun hc => absurd (of_decide_eq_true hc) om, fun _ => hC n hn om (by rw [he, ts2, if_pos rfl])⟩
 | succ m ih =>
  intro i n hi hn hu he
  have hi' : i < q.1.length := by omega
  have ht := hs _ (get_in default hi')
  have hl := w1_len (q.1.getD i default)
  have hw2 := w2_in (get_in default hi')
  have hql := w2_len q.1
  rw [drop_get (l := q.1) default hi', ts2] at he
  rw [drop_get (l := q.1) default hi', w2] at hu
  refine ⟨fun _ => ⟨by omega, by rw [Int.toNat_natCast]; omega, ?_⟩, fun hc => absurd (of_decide_eq_false hc) om⟩
  rw [Int.toNat_natCast]
  generalize q.1.getD i default = s at *
  rw [w64 om]
  refine ⟨_, tss39 hd s ht om (i : Int) _ (fun n => if (ts2 (q.1.drop (i + 1)) d n).2 = true then F (ts2 (q.1.drop (i + 1)) d n).1 else ((ts2 (q.1.drop (i + 1)) d n).1, false)) (n + w1 s) om (fun n' h0 h1 h2 => ?_) s.length 0 (n + s.length) om om (by rw [List.drop_zero]; omega) ?_⟩
  ·rw [w64 om, show (i : Int) + 1 = ((i + 1 : Nat) : Int) by omega]
   exact ih (i + 1) n' om h0 om h2
  rw [List.drop_zero, he]
  cases hb : (ts1 s d (n + s.length)).2
  ·rw [if_neg (by simp), if_neg (by simp), if_neg (by simp)]
  rw [if_pos rfl, if_pos rfl]
theorem tss_F (N : Nat) (l : List Ph) (d : Int) (h : tssP (N + 1) l d) : tssF N l d (fun a b => (a, b) = tssS l d) := by
 have h5 := b3_eq l
 have hlen := w3_len l
 have hin := fun q hq s hs t ht => tssP_in h (q := q) hq (s := s) hs (t := t) ht
 obtain ⟨_, hb, hd0, hd1⟩ := h
 have loop : ∀ (m i : Nat) (n : Int), i + m = l.length → 0 ≤ n → n + w3 (l.drop i) ≤ 1048600 → tssS l d = ts3 (l.drop i) d n → tssl9 N l d (fun a b => (a, b) = tssS l d) (m + 1) n (i : Int) := by
  intro m
  induction m with
  | zero =>
   intro i n hi hn hu he
   rw [List.drop_of_length_le om, ts3] at he
   exact ⟨fun hc => absurd (of_decide_eq_true hc) om, fun _ => he.symm⟩
  | succ m ih =>
   intro i n hi hn hu he
   have hi' : i < l.length := by omega
   have hq := get_in default hi'
   have hwq := w3_in hq
   rw [drop_get (l := l) default hi'] at he hu
   rw [w3] at hu
   refine ⟨fun _ => ⟨by omega, by rw [Int.toNat_natCast]; omega, ?_⟩, fun hc => absurd (of_decide_eq_false hc) om⟩
   rw [Int.toNat_natCast]
   have hin2 := hin _ hq
   generalize l.getD i default = q at *
   obtain ⟨p, js⟩ := q
   rw [ts3] at he
   have hu : n + ((w2 p + js.length + 2 + w3 (l.drop (i + 1)) : Nat) : Int) ≤ 1048600 := hu
   have hwq : w2 p + js.length + 2 ≤ w3 l := hwq
   refine ⟨_, tss23 ⟨hd0, by omega⟩ (p, js) hin2 (by show w2 p ≤ _; omega) (i : Int) _ (fun n => ts3 (l.drop (i + 1)) d n) (n + w2 p) om (fun n' h0 h1 h2 => ?_) p.length 0 n (by show 0 + p.length = p.length; omega) hn (by show n + w2 (p.drop 0) ≤ _; rw [List.drop_zero]; omega) ?_⟩
   ·rw [w64 om, show (i : Int) + 1 = ((i + 1 : Nat) : Int) by omega]
    exact ih (i + 1) n' om h0 om h2
   show tssS l d = (if (ts2 (p.drop 0) d n).2 = true then _ else _)
   rw [List.drop_zero]
   exact he
 exact ⟨_, loop l.length 0 0 om om (by rw [List.drop_zero]; omega) (by rw [List.drop_zero]; rfl)⟩
theorem tss_rec : ∀ N, tss_C N
 | 0 => (by intro g axl_0 cxl_0 xl xdeep hRxl_0 hp; exact (tss_0 xl xdeep hp).elim)
 | N + 1 =>
  have ih := tss_rec N
  (by intro g axl_0 cxl_0 xl xdeep hRxl_0 hp; exact (tss_ok N ih xl xdeep hRxl_0 _ (tss_F N xl xdeep hp)).gives (by rintro g' H' v _ ⟨r0, r1, rfl, rfl, hK⟩; obtain ⟨rfl, rfl⟩ : r0 = (tssS xl xdeep).1 ∧ r1 = (tssS xl xdeep).2 := ⟨congrArg (fun z => z.1) hK, congrArg (fun z => z.2) hK⟩; rfl))
def tssPE (xl : List PH) (xdeep : Int) : Prop := ∃ N, tssP N xl xdeep
theorem tss_c {g : Ghost} {axl_0 : Option Addr} {cxl_0 : Nat} (xl : List PH) (xdeep : Int) (hRxl_0 : Rep g (.slice yP) [.slice axl_0 xl.length cxl_0] xl)  (hp : tssPE xl xdeep) : CallsG Tryz.prog 31 #[.slice axl_0 xl.length cxl_0, iv xdeep] g (.tuple #[iv (tssS xl xdeep).1, .bool (tssS xl xdeep).2]) := by
 obtain ⟨N, hp⟩ := hp
 exact (tss_rec N) _ xl xdeep hRxl_0 hp
end Go.Proofs.YtcnhdkhkadiohaaGreatDoor.Se
