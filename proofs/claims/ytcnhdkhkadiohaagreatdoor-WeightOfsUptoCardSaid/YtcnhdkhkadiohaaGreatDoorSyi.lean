/- WeightOfs: weights of paths, by the program and by the document; the law. -/
import Derived.Test.YtcnhdkhkadiohaaGreatDoorSyh
namespace Go.Proofs.YtcnhdkhkadiohaaGreatDoor.Se
open Go Go.Eng Go.RowKit Bld Trm Css Tk Ti Me Rp Qu
set_option maxHeartbeats 4000000
set_option maxRecDepth 100000
set_option linter.unusedSimpArgs false
set_option linter.unusedVariables false
def mx (a b : Int) : Int := if a < b then b else a
mutual
def wgT : Ts → Int
 | .mk x l => if (x.1 == 1) = true then 0 else if (x.1 == 2) = true then 1 else if (x.1 == 3) = true then 1000000 else if ((x.1 == 10) || (x.1 == 11)) = true then wg3 l 0 else 1000
def wg3 : List Ph → Int → Int
 | [], m => m
 | (p, _) :: l, m => wg3 l (mx m (wg2 p 0))
def wg2 : List (List Ts) → Int → Int
 | [], n => n
 | s :: l, n => wg2 l (wg1 s n)
def wg1 : List Ts → Int → Int
 | [], n => n
 | t :: l, n => wg1 l (n + wgT t)
end
def wgP (p : Ph) : Int := wg2 p.1 0
def wgH (l : List Ph) : Int := wg3 l 0
def pw (p : Ph) : Nat := w2 p.1 + 1
theorem wgT_eq (t : Ts) : wgT t = if (t.lab.1 == 1) = true then 0 else if (t.lab.1 == 2) = true then 1 else if (t.lab.1 == 3) = true then 1000000 else if ((t.lab.1 == 10) || (t.lab.1 == 11)) = true then wgH t.kids else 1000 := by obtain ⟨x, l⟩ := t; rw [wgT]; rfl
theorem wg3_cons (q : Ph) (l : List Ph) (m : Int) : wg3 (q :: l) m = wg3 l (mx m (wgP q)) := by obtain ⟨p, js⟩ := q; rw [wg3]; rfl
def WgB (t : Ts) : Prop := 0 ≤ wgT t ∧ wgT t ≤ 1000000 * bT t
theorem wg1_bd : ∀ {s : List Ts} (h : ∀ t ∈ s, WgB t) (n : Int), n ≤ wg1 s n ∧ wg1 s n ≤ n + 1000000 * w1 s
 | [], _, n => by rw [wg1, w1]; omega
 | t :: s, h, n => by
  have ht := h t (List.mem_cons_self ..)
  have ih := wg1_bd (fun k hk => h k (List.mem_cons_of_mem _ hk)) (n + wgT t)
  obtain ⟨a, b⟩ := ht
  rw [wg1, w1]; omega
theorem wg2_bd : ∀ {p : List (List Ts)} (h : ∀ s ∈ p, ∀ t ∈ s, WgB t) (n : Int), n ≤ wg2 p n ∧ wg2 p n ≤ n + 1000000 * w2 p
 | [], _, n => by rw [wg2, w2]; omega
 | s :: p, h, n => by
  have ht := wg1_bd (h s (List.mem_cons_self ..)) n
  have ih := wg2_bd (fun k hk => h k (List.mem_cons_of_mem _ hk)) (wg1 s n)
  rw [wg2, w2]; omega
theorem mx_bd (a b U : Int) (h : a ≤ U) (h2 : b ≤ U) : a ≤ mx a b ∧ mx a b ≤ U := by unfold mx; split <;> omega
theorem wg3_bd (U : Int) : ∀ {l : List Ph} (h : ∀ q ∈ l, ∀ s ∈ q.1, ∀ t ∈ s, WgB t) (m : Int), m ≤ U → 1000000 * (w3 l : Int) ≤ U → m ≤ wg3 l m ∧ wg3 l m ≤ U
 | [], _, m, hm, _ => by rw [wg3]; omega
 | q :: l, h, m, hm, hU => by
  have ht := wg2_bd (h q (List.mem_cons_self ..)) 0
  rw [w3] at hU
  have h1 := mx_bd m (wgP q) U hm (by unfold wgP; omega)
  have ih := wg3_bd U (l := l) (fun k hk => h k (List.mem_cons_of_mem _ hk)) (mx m (wgP q)) h1.2 om
  rw [wg3_cons]; omega
theorem wgB : ∀ t : Ts, WgB t := Tst.ind fun x l ih => by
 have h := wg3_bd (1000000 * w3 l) ih 0 om om
 have hb := bT_mk x l
 have h3 := b3_eq l
 unfold WgB
 rw [wgT_eq]
 show 0 ≤ (if (x.1 == 1) = true then 0 else if (x.1 == 2) = true then 1 else if (x.1 == 3) = true then 1000000 else if ((x.1 == 10) || (x.1 == 11)) = true then wg3 l 0 else 1000) ∧ (if (x.1 == 1) = true then 0 else if (x.1 == 2) = true then 1 else if (x.1 == 3) = true then 1000000 else if ((x.1 == 10) || (x.1 == 11)) = true then wg3 l 0 else 1000) ≤ _
 split
 ·omega
 split
 ·omega
 split
 ·omega
 split <;> omega
def wtsP (N : Nat) (t : Ts) : Prop := bT t < N ∧ bT t ≤ 1048600
def wpaP (N : Nat) (p : Ph) : Prop := pw p < N ∧ pw p + p.2.length ≤ 1048600
def whvP (N : Nat) (l : List Ph) : Prop := b3 l < N ∧ b3 l ≤ 1048600
def wts_C (N : Nat) : Prop := ∀ (g : Ghost) {axt_0 : Option Addr} {cxt_0 : Nat} (xt : TS) (hRxt_0 : Rep g (.slice yP) [.slice axt_0 xt.kids.length cxt_0] xt.kids)  (hp : wtsP N xt), CallsG Tryz.prog 33 #[.agg (aL xt.lab axt_0 xt.kids.length cxt_0)] g (iv (wgT xt))
def wpa_C (N : Nat) : Prop := ∀ (g : Ghost) {axp_0 : Option Addr} {cxp_0 : Nat} {axp_1 : Option Addr} {cxp_1 : Nat} (xp : PH) (hRxp_0 : Rep g (.slice (.slice yS)) [.slice axp_0 xp.1.length cxp_0] xp.1) (hRxp_1 : Rep g (.slice yb) [.slice axp_1 xp.2.length cxp_1] xp.2)  (hp : wpaP N xp), CallsG Tryz.prog 21 #[.agg #[.slice axp_0 xp.1.length cxp_0, .slice axp_1 xp.2.length cxp_1]] g (iv (wgP xp))
def whv_C (N : Nat) : Prop := ∀ (g : Ghost) {axl_0 : Option Addr} {cxl_0 : Nat} (xl : List PH) (hRxl_0 : Rep g (.slice yP) [.slice axl_0 xl.length cxl_0] xl)  (hp : whvP N xl), CallsG Tryz.prog 24 #[.slice axl_0 xl.length cxl_0] g (iv (wgH xl))
def wtsj25 (N : Nat) (xt : TS) (K : Int → Prop) : Prop :=
 ((((xt.lab.1 == 10) || (xt.lab.1 == 11))) = true → whvP N xt.kids ∧ K (wgH xt.kids)) ∧ ((((xt.lab.1 == 10) || (xt.lab.1 == 11))) = false → K 1000)
def wtsF (N : Nat) (xt : TS) (K : Int → Prop) : Prop :=
 (((xt.lab.1 == 1)) = true → K 0) ∧ (((xt.lab.1 == 1)) = false → (((xt.lab.1 == 2)) = true → K 1) ∧ (((xt.lab.1 == 2)) = false → (((xt.lab.1 == 3)) = true → K 1000000) ∧ (((xt.lab.1 == 3)) = false → (((xt.lab.1 == 10)) = true → wtsj25 N xt K) ∧ (((xt.lab.1 == 10)) = false → wtsj25 N xt K))))
theorem wts_ok {g : Ghost} (N : Nat) (ih_wts : wts_C N) (ih_wpa : wpa_C N) (ih_whv : whv_C N) {axt_0 : Option Addr} {cxt_0 : Nat} (xt : TS) (hRxt_0 : Rep g (.slice yP) [.slice axt_0 xt.kids.length cxt_0] xt.kids) (K : Int → Prop)
  (hF : wtsF N xt K) : CallsH Tryz.prog 33 #[.agg (aL xt.lab axt_0 xt.kids.length cxt_0)] g [] (fun g' H' v => ∃ (r0 : Int), v = iv r0 ∧ H' = [] ∧ K r0) := by
 refine CallsH.enter 17 [(0, .agg (aL xt.lab axt_0 xt.kids.length cxt_0))] Tryz.func33 rfl kr kr kr fun w0 => ?_
 refine Ok.sr ((Ok.op rfl (OpOk.box (v := .agg (aL xt.lab axt_0 xt.kids.length cxt_0)) (cs := (aL xt.lab axt_0 xt.kids.length cxt_0)) rfl kr rfl fun bs1 => ?_)))
 refine Ok.B 1 [(1, pv bs1 0)] kr (Ok.nt ((Ok.q (Ok.sr ((Ok.b 1 [1] [(3, pv bs1 0)] ?_))))))
 refine Ok.op rfl (OpOk.s (v := iv xt.lab.1) (Yields.l 0 rfl rfl Tryz.underlying3 rfl kr) rfl rfl (Ok.nt ((Ok.block (Ok.sr ((Ok.b 2 [1] [(4, iv xt.lab.1), (5, .bool (xt.lab.1 == 1))] ?_)))))))
 refine Ok.nt ((Ok.cn hF rfl (fun hc2 => ?_) (fun hc2 => ?_)))
 ·replace hF := hF.1 hc2
  refine Ok.sr ((Ok.B 1 [(2, iv 0)] kr (Ok.nt ((Ok.ret (Ok.kr (Ok.tr ?_)))))))
  exact Ok.p (vs := [iv 0]) [] [] dc rfl (.inl rfl) rfl (.cons (.tmp rfl) .nil) (Gext.r w0 g) ⟨0, rfl, rfl, hF⟩
 replace hF := hF.2 hc2
 refine Ok.sr ((Ok.b 2 [1, 4] [(7, .bool (xt.lab.1 == 2))] ?_))
 refine Ok.nt ((Ok.cn hF rfl (fun hc3 => ?_) (fun hc3 => ?_)))
 ·replace hF := hF.1 hc3
  refine Ok.sr ((Ok.B 1 [(2, iv 1)] kr (Ok.nt ((Ok.ret (Ok.kr (Ok.tr ?_)))))))
  exact Ok.p (vs := [iv 1]) [] [] dc rfl (.inl rfl) rfl (.cons (.tmp rfl) .nil) (Gext.r w0 g) ⟨1, rfl, rfl, hF⟩
 replace hF := hF.2 hc3
 refine Ok.sr ((Ok.b 2 [1, 4] [(9, .bool (xt.lab.1 == 3))] ?_))
 refine Ok.nt ((Ok.cn hF rfl (fun hc4 => ?_) (fun hc4 => ?_)))
 ·replace hF := hF.1 hc4
  refine Ok.sr ((Ok.B 1 [(2, iv 1000000)] kr (Ok.nt ((Ok.ret (Ok.kr (Ok.tr ?_)))))))
  exact Ok.p (vs := [iv 1000000]) [] [] dc rfl (.inl rfl) rfl (.cons (.tmp rfl) .nil) (Gext.r w0 g) ⟨1000000, rfl, rfl, hF⟩
 replace hF := hF.2 hc4
 refine Ok.cut (fun a W => StA 17 [(1, pv bs1 0), (11, .bool ((xt.lab.1 == 10) || (xt.lab.1 == 11)))] a ∧ StW w0 [.blk bs1 (.cells (aL xt.lab axt_0 xt.kids.length cxt_0) 48)] g W ∧ wtsj25 N xt K) ?_ ?_
 ·
  refine Ok.sr ((Ok.b 2 [1, 4] [(11, .bool (xt.lab.1 == 10))] ?_))
  refine Ok.nt ((Ok.cn hF rfl (fun hc7 => ?_) (fun hc7 => ?_)))
  ·replace hF := hF.1 hc7
   refine Ok.k (Ok.t (Ok.v 11 rfl (show (.bool (xt.lab.1 == 10) : Value) = .bool ((xt.lab.1 == 10) || (xt.lab.1 == 11)) from congrArg (Value.bool) ((Eq.trans (hc7) (mor_t hc7)))) ?_))
   exact fun a W hA hW => ⟨hA.sub kr, hW, hF⟩
  replace hF := hF.2 hc7
  refine Ok.r (Ok.b 2 [1] [(11, .bool (xt.lab.1 == 11))] ?_)
  refine Ok.nt ((Ok.v 11 rfl (show (.bool (xt.lab.1 == 11) : Value) = .bool ((xt.lab.1 == 10) || (xt.lab.1 == 11)) from congrArg (Value.bool) (mor_f hc7)) ?_))
  exact fun a W hA hW => ⟨hA.sub kr, hW, hF⟩
 clear hF
 rintro a W ⟨hA, hW, hF⟩
 refine (?_ : Ok _ _ _ _ _ _) a W hA hW
 clear hA hW
 refine Ok.cn hF rfl (fun hc5 => ?_) (fun hc5 => ?_)
 ·replace hF := hF.1 hc5
  refine Ok.sr ((Ok.B 1 [(14, pv bs1 6)] kr (Ok.op rfl (OpOk.s (v := .slice axt_0 xt.kids.length cxt_0) (Yields.l 0 rfl rfl Tryz.underlying29 rfl kr) rfl rfl ?_))))
  obtain ⟨hp6, hF⟩ := hF
  refine Ok.op rfl (OpOk.f enr (fun W hW => ih_whv _ xt.kids (hRxt_0.mono hW.sees) hp6) rfl ?_)
  refine Ok.B 1 [(2, iv (wgH xt.kids))] kr (Ok.nt ((Ok.ret (Ok.kr (Ok.tr ?_)))))
  exact Ok.p (vs := [iv (wgH xt.kids)]) [] [] dc rfl (.inl rfl) rfl (.cons (.tmp rfl) .nil) (Gext.r w0 g) ⟨(wgH xt.kids), rfl, rfl, hF⟩
 replace hF := hF.2 hc5
 refine Ok.k (Ok.kn (Ok.t (Ok.sr ((Ok.B 1 [(2, iv 1000)] kr (Ok.nt ((Ok.ret ?_))))))))
 exact Ok.p (vs := [iv 1000]) [] [] dc rfl (.inl rfl) rfl (.cons (.tmp rfl) .nil) (Gext.r w0 g) ⟨1000, rfl, rfl, hF⟩
def wpal23b (N : Nat) (e4 : List TS) (q0 : Int) (C9 : Int → Int → Prop) (c0 : Int) (v0 : Int) (C23 : Int → Int → Prop) : Prop :=
 ((decide (v0 < (e4.length : Int))) = true → 0 ≤ v0 ∧ Int.toNat v0 < e4.length ∧ wtsP N (e4.getD (Int.toNat v0) default) ∧ C23 (w6 (c0 + (wgT (e4.getD (Int.toNat v0) default)))) (w6 (v0 + 1))) ∧ ((decide (v0 < (e4.length : Int))) = false → C9 c0 (w6 (q0 + 1)))
def wpal23 (N : Nat) (e4 : List TS) (q0 : Int) (C9 : Int → Int → Prop) : Nat → Int → Int → Prop
 | 0, _, _ => False
 | k + 1, c0, v0 => wpal23b N e4 q0 C9 c0 v0 (wpal23 N e4 q0 C9 k)
def wpal9b (N : Nat) (xp : PH) (K : Int → Prop) (z0 : Int) (q0 : Int) (C9 : Int → Int → Prop) : Prop :=
 ((decide (q0 < (xp.1.length : Int))) = true → 0 ≤ q0 ∧ Int.toNat q0 < xp.1.length ∧ ∃ k, wpal23 N (xp.1.getD (Int.toNat q0) default) q0 C9 k z0 0) ∧ ((decide (q0 < (xp.1.length : Int))) = false → K z0)
def wpal9 (N : Nat) (xp : PH) (K : Int → Prop) : Nat → Int → Int → Prop
 | 0, _, _ => False
 | k + 1, z0, q0 => wpal9b N xp K z0 q0 (wpal9 N xp K k)
def wpaF (N : Nat) (xp : PH) (K : Int → Prop) : Prop :=
 ∃ k, wpal9 N xp K k 0 0
theorem wpa_ok {g : Ghost} (N : Nat) (ih_wts : wts_C N) (ih_wpa : wpa_C N) (ih_whv : whv_C N) {axp_0 : Option Addr} {cxp_0 : Nat} {axp_1 : Option Addr} {cxp_1 : Nat} (xp : PH) (hRxp_0 : Rep g (.slice (.slice yS)) [.slice axp_0 xp.1.length cxp_0] xp.1) (hRxp_1 : Rep g (.slice yb) [.slice axp_1 xp.2.length cxp_1] xp.2) (K : Int → Prop)
  (hF : wpaF N xp K) : CallsH Tryz.prog 21 #[.agg #[.slice axp_0 xp.1.length cxp_0, .slice axp_1 xp.2.length cxp_1]] g [] (fun g' H' v => ∃ (r0 : Int), v = iv r0 ∧ H' = [] ∧ K r0) := by
 refine CallsH.enter 28 [(0, .agg #[.slice axp_0 xp.1.length cxp_0, .slice axp_1 xp.2.length cxp_1])] Tryz.func21 rfl kr kr kr fun w0 => ?_
 refine Ok.sr ((Ok.op rfl (OpOk.box (v := .agg #[.slice axp_0 xp.1.length cxp_0, .slice axp_1 xp.2.length cxp_1]) (cs := #[.slice axp_0 xp.1.length cxp_0, .slice axp_1 xp.2.length cxp_1]) rfl kr rfl fun bs1 => ?_)))
 refine Ok.B 1 [(1, pv bs1 0)] kr (Ok.nt ((Ok.sr ((Ok.b 1 [1] [(3, iv 0)] ?_)))))
 refine Ok.nt ((Ok.q (Ok.sr ((Ok.b 1 [3] [(8, pv bs1 0)] ?_)))))
 refine Ok.op rfl (OpOk.s (v := .slice axp_0 xp.1.length cxp_0) (Yields.l 0 rfl rfl Tryz.underlying22 rfl kr) rfl rfl (Ok.b 2 [3] [(9, .slice axp_0 xp.1.length cxp_0), (10, iv (xp.1.length : Int)), (11, iv 0)] ?_))
 refine Ok.nt ((Ok.block ?_))
 obtain ⟨k, hF⟩ := hF
 refine Ok.L (fun k a W => ∃ (z0 : Int) (q0 : Int), StA 28 [(3, iv z0), (9, .slice axp_0 xp.1.length cxp_0), (10, iv (xp.1.length : Int)), (11, iv q0)] a ∧ StW w0 [] g W ∧ wpal9 N xp K k z0 q0) k ?_ ?_
 ·
  exact fun a W hA hW => ⟨0, 0, hA.sub kr, hW.sub (.cons _ .slnil), hF⟩
 clear hF
 rintro k9 a W ⟨z0, q0, hA, hW, hF⟩
 cases k9 with
 | zero => exact (hF : False).elim
 | succ k9 =>
  refine (?_ : Ok _ _ _ _ _ _) a W hA hW
  clear hA hW
  refine Ok.sr ((Ok.b 1 [3, 9, 10, 11] [(12, .bool (decide (q0 < (xp.1.length : Int))))] ?_))
  refine Ok.nt ((Ok.q (Ok.cn hF rfl (fun hc2 => ?_) (fun hc2 => ?_))))
  ·replace hF := hF.1 hc2
   refine Ok.k (Ok.t (Ok.q (Ok.block (Ok.q (Ok.r ?_)))))
   obtain ⟨h04, h14, hF⟩ := hF
   have he4 := get_of (l := xp.1) (default : List TS) h14
   generalize hg4 : (xp.1.getD (Int.toNat q0) default) = e4 at he4 hF ⊢
   refine Ok.op rfl (OpOk.indexRo (e := .slice yS) (i := q0) (el := e4) rfl rfl Tryz.underlying22 kr hRxp_0 h04 he4 rfl fun q3 o3 cs3 _ a0 hr3 => ?_)
   obtain ⟨e0, f0, rfl, V0, Q0⟩ := hr3
   have O0 : Rep g (.slice yS) [.slice e0 e4.length f0] e4 := ⟨e0, f0, rfl, V0, Q0⟩
   replace a0 : At g q3 o3 [.slice e0 e4.length f0] := a0
   refine Ok.op rfl (OpOk.s (v := .slice e0 e4.length f0) (Yields.lr 0 a0 kr Tryz.underlying41 rfl kr) rfl rfl (Ok.b 1 [3, 9, 10, 11] [(5, .slice e0 e4.length f0)] ?_))
   refine Ok.nt ((Ok.sr ((Ok.b 3 [3, 9, 10, 11] [(15, .slice e0 e4.length f0), (16, iv (e4.length : Int)), (17, iv 0)] ?_))))
   refine Ok.nt ((Ok.block ?_))
   obtain ⟨k, hF⟩ := hF
   refine Ok.L (fun k a W => ∃ (c0 : Int) (v0 : Int), StA 28 [(3, iv c0), (9, .slice axp_0 xp.1.length cxp_0), (10, iv (xp.1.length : Int)), (11, iv q0), (15, .slice e0 e4.length f0), (16, iv (e4.length : Int)), (17, iv v0)] a ∧ StW w0 [] g W ∧ wpal23 N e4 q0 (wpal9 N xp K k9) k c0 v0) k ?_ ?_
   ·
    exact fun a W hA hW => ⟨z0, 0, hA.sub kr, hW, hF⟩
   clear hF
   rintro k23 a W ⟨c0, v0, hA, hW, hF⟩
   cases k23 with
   | zero => exact (hF : False).elim
   | succ k23 =>
    refine (?_ : Ok _ _ _ _ _ _) a W hA hW
    clear hA hW
    refine Ok.sr ((Ok.b 1 [3, 9, 10, 11, 15, 16, 17] [(18, .bool (decide (v0 < (e4.length : Int))))] ?_))
    refine Ok.nt ((Ok.q (Ok.cn hF rfl (fun hc5 => ?_) (fun hc5 => ?_))))
    ·replace hF := hF.1 hc5
     refine Ok.k (Ok.t (Ok.q (Ok.block (Ok.q (Ok.r ?_)))))
     obtain ⟨h07, h17, hF⟩ := hF
     have he7 := get_of (l := e4) (default : TS) h17
     generalize hg7 : (e4.getD (Int.toNat v0) default) = e7 at he7 hF ⊢
     refine Ok.op rfl (OpOk.indexRo (e := yS) (i := v0) (el := e7) rfl rfl Tryz.underlying41 kr O0 h07 he7 rfl fun q6 o6 cs6 _ i0 hr6 => ?_)
     have K0 := hr6
     replace K0 := Rep.tst.1 K0
     obtain ⟨_, _, rfl, ⟨_, _, rfl, rfl, ⟨_, _, rfl, rfl, ⟨_, _, rfl, rfl, ⟨_, _, rfl, rfl, ⟨_, _, rfl, rfl, rfl⟩⟩⟩⟩⟩, ⟨n0, o0, rfl, hm6_6, hr6_6⟩⟩ := K0
     have hR6_6 : Rep g (.slice yP) [.slice n0 e7.kids.length o0] e7.kids := ⟨n0, o0, rfl, hm6_6, hr6_6⟩
     replace i0 : At g q6 o6 (vL e7.lab n0 e7.kids.length o0) := i0
     refine Ok.op rfl (OpOk.s (v := .agg (aL e7.lab n0 e7.kids.length o0)) (Yields.loadAggRo 0 7 (aL e7.lab n0 e7.kids.length o0) i0 kr Tryz.underlying48 rfl kr kr kr) rfl rfl (Ok.op rfl (OpOk.a (z := .agg #[iv 0, sv ([] : Bs), .int .u8 0, sv ([] : Bs), iv 0, iv 0, .slice none 0 0]) (cs := #[iv 0, sv ([] : Bs), .int .u8 0, sv ([] : Bs), iv 0, iv 0, .slice none 0 0]) kr kr rfl fun bs7 => ?_)))
     refine Ok.op rfl (OpOk.sto (k := 7) (v := .agg (aL e7.lab n0 e7.kids.length o0)) 0 (aL e7.lab n0 e7.kids.length o0) rfl rfl rfl ?_)
     refine Ok.nt ((Ok.r (Ok.b 1 [9, 10, 11, 15, 16, 17] [(7, pv bs7 0), (21, iv c0)] ?_)))
     refine Ok.op rfl (OpOk.s (v := .agg (aL e7.lab n0 e7.kids.length o0)) (Yields.loadAgg 0 7 (aL e7.lab n0 e7.kids.length o0) rfl rfl Tryz.underlying48 rfl kr kr kr) rfl rfl ?_)
     obtain ⟨hp9, hF⟩ := hF
     refine Ok.op rfl (OpOk.f enr (fun W hW => ih_wts _ e7 (hR6_6.mono hW.sees) hp9) rfl ?_)
     refine Ok.b 2 [9, 10, 11, 15, 16, 17] [(3, iv (w6 (c0 + (wgT e7))))] ?_
     refine Ok.j (Ok.kn (Ok.t (Ok.r (Ok.b 2 [3, 9, 10, 11, 15, 16] [(17, iv (w6 (v0 + 1)))] ?_))))
     refine Ok.j (Ok.t ?_)
     subst hg7
     exact fun a W hA hW => ⟨k23, Nat.lt_succ_self _, w6 (c0 + (wgT (e4.getD (Int.toNat v0) default))), w6 (v0 + 1), hA.sub kr, hW.sub (.cons _ .slnil), hF⟩
    replace hF := hF.2 hc5
    refine Ok.x (Ok.thenE (Ok.thenE (Ok.blockHit (Ok.kn (Ok.t (Ok.r (Ok.b 2 [3, 9, 10] [(11, iv (w6 (q0 + 1)))] ?_)))))))
    refine Ok.j (Ok.t ?_)
    subst hg4
    exact fun a W hA hW => ⟨k9, Nat.lt_succ_self _, c0, w6 (q0 + 1), hA.sub kr, hW, hF⟩
  replace hF := hF.2 hc2
  refine Ok.x (Ok.thenE (Ok.thenE (Ok.blockHit (Ok.t (Ok.sr ((Ok.B 2 [(2, iv z0)] kr (Ok.nt ((Ok.ret ?_))))))))))
  exact Ok.resH (vs := [iv z0]) (.inl rfl) rfl (.cons (.tmp rfl) .nil) (Gext.r w0 g) ⟨z0, rfl, rfl, hF⟩
def whvl9b (N : Nat) (xl : List PH) (K : Int → Prop) (z0 : Int) (b0 : Int) (C9 : Int → Int → Prop) : Prop :=
 ((decide (b0 < (xl.length : Int))) = true → 0 ≤ b0 ∧ Int.toNat b0 < xl.length ∧ wpaP N (xl.getD (Int.toNat b0) default) ∧ C9 (if z0 < (wgP (xl.getD (Int.toNat b0) default)) then (wgP (xl.getD (Int.toNat b0) default)) else z0) (w6 (b0 + 1))) ∧ ((decide (b0 < (xl.length : Int))) = false → K z0)
def whvl9 (N : Nat) (xl : List PH) (K : Int → Prop) : Nat → Int → Int → Prop
 | 0, _, _ => False
 | k + 1, z0, b0 => whvl9b N xl K z0 b0 (whvl9 N xl K k)
def whvF (N : Nat) (xl : List PH) (K : Int → Prop) : Prop :=
 ∃ k, whvl9 N xl K k 0 0
theorem whv_ok {g : Ghost} (N : Nat) (ih_wts : wts_C N) (ih_wpa : wpa_C N) (ih_whv : whv_C N) {axl_0 : Option Addr} {cxl_0 : Nat} (xl : List PH) (hRxl_0 : Rep g (.slice yP) [.slice axl_0 xl.length cxl_0] xl) (K : Int → Prop)
  (hF : whvF N xl K) : CallsH Tryz.prog 24 #[.slice axl_0 xl.length cxl_0] g [] (fun g' H' v => ∃ (r0 : Int), v = iv r0 ∧ H' = [] ∧ K r0) := by
 refine CallsH.enter 18 [(0, .slice axl_0 xl.length cxl_0)] Tryz.func24 rfl kr kr kr fun w0 => ?_
 refine Ok.sr ((Ok.B 1 [(0, .slice axl_0 xl.length cxl_0)] kr (Ok.nt ((Ok.sr ((Ok.b 1 [0] [(3, iv 0)] ?_)))))))
 refine Ok.nt ((Ok.q (Ok.sr ((Ok.b 3 [3] [(6, .slice axl_0 xl.length cxl_0), (7, iv (xl.length : Int)), (8, iv 0)] ?_)))))
 refine Ok.nt ((Ok.block ?_))
 obtain ⟨k, hF⟩ := hF
 refine Ok.L (fun k a W => ∃ (z0 : Int) (b0 : Int), StA 18 [(3, iv z0), (6, .slice axl_0 xl.length cxl_0), (7, iv (xl.length : Int)), (8, iv b0)] a ∧ StW w0 [] g W ∧ whvl9 N xl K k z0 b0) k ?_ ?_
 ·
  exact fun a W hA hW => ⟨0, 0, hA.sub kr, hW, hF⟩
 clear hF
 rintro k9 a W ⟨z0, b0, hA, hW, hF⟩
 cases k9 with
 | zero => exact (hF : False).elim
 | succ k9 =>
  refine (?_ : Ok _ _ _ _ _ _) a W hA hW
  clear hA hW
  refine Ok.sr ((Ok.b 1 [3, 6, 7, 8] [(9, .bool (decide (b0 < (xl.length : Int))))] ?_))
  refine Ok.nt ((Ok.q (Ok.cn hF rfl (fun hc1 => ?_) (fun hc1 => ?_))))
  ·replace hF := hF.1 hc1
   refine Ok.k (Ok.t (Ok.q (Ok.block (Ok.q (Ok.r ?_)))))
   obtain ⟨h03, h13, hF⟩ := hF
   have he3 := get_of (l := xl) (default : PH) h13
   generalize hg3 : (xl.getD (Int.toNat b0) default) = e3 at he3 hF ⊢
   refine Ok.op rfl (OpOk.indexRo (e := yP) (i := b0) (el := e3) rfl rfl Tryz.underlying29 kr hRxl_0 h03 he3 rfl fun q2 o2 cs2 _ P0 hr2 => ?_)
   obtain ⟨_, _, rfl, ⟨g0, m0, rfl, hm2_0, hr2_0⟩, ⟨p0, t0, rfl, hm2_1, hr2_1⟩⟩ := hr2
   have Y0 : Rep g (.slice (.slice yS)) [.slice g0 e3.1.length m0] e3.1 := ⟨g0, m0, rfl, hm2_0, hr2_0⟩
   have hR2_1 : Rep g (.slice yb) [.slice p0 e3.2.length t0] e3.2 := ⟨p0, t0, rfl, hm2_1, hr2_1⟩
   replace P0 : At g q2 o2 [.slice g0 e3.1.length m0, .slice p0 e3.2.length t0] := P0
   refine Ok.op rfl (OpOk.s (v := .agg #[.slice g0 e3.1.length m0, .slice p0 e3.2.length t0]) (Yields.loadAggRo 0 2 #[.slice g0 e3.1.length m0, .slice p0 e3.2.length t0] P0 kr Tryz.underlying25 rfl kr kr kr) rfl rfl (Ok.op rfl (OpOk.a (z := .agg #[.slice none 0 0, .slice none 0 0]) (cs := #[.slice none 0 0, .slice none 0 0]) kr kr rfl fun bs5 => ?_)))
   refine Ok.op rfl (OpOk.sto (k := 2) (v := .agg #[.slice g0 e3.1.length m0, .slice p0 e3.2.length t0]) 0 #[.slice g0 e3.1.length m0, .slice p0 e3.2.length t0] rfl rfl rfl ?_)
   refine Ok.nt ((Ok.r (Ok.b 1 [6, 7, 8] [(5, pv bs5 0), (12, iv z0)] ?_)))
   refine Ok.op rfl (OpOk.s (v := .agg #[.slice g0 e3.1.length m0, .slice p0 e3.2.length t0]) (Yields.loadAgg 0 2 #[.slice g0 e3.1.length m0, .slice p0 e3.2.length t0] rfl rfl Tryz.underlying25 rfl kr kr kr) rfl rfl ?_)
   obtain ⟨hp5, hF⟩ := hF
   refine Ok.op rfl (OpOk.f enr (fun W hW => ih_wpa _ e3 (Y0.mono hW.sees) (hR2_1.mono hW.sees) hp5) rfl ?_)
   refine Ok.b 2 [6, 7, 8] [(3, iv (if z0 < (wgP e3) then (wgP e3) else z0))] ?_
   refine Ok.j (Ok.kn (Ok.t (Ok.r (Ok.b 2 [3, 6, 7] [(8, iv (w6 (b0 + 1)))] ?_))))
   refine Ok.j (Ok.t ?_)
   subst hg3
   exact fun a W hA hW => ⟨k9, Nat.lt_succ_self _, (if z0 < (wgP (xl.getD (Int.toNat b0) default)) then (wgP (xl.getD (Int.toNat b0) default)) else z0), w6 (b0 + 1), hA.sub kr, hW.sub (.cons _ .slnil), hF⟩
  replace hF := hF.2 hc1
  refine Ok.x (Ok.thenE (Ok.thenE (Ok.blockHit (Ok.t (Ok.sr ((Ok.B 2 [(2, iv z0)] kr (Ok.nt ((Ok.ret ?_))))))))))
  exact Ok.resH (vs := [iv z0]) (.inl rfl) rfl (.cons (.tmp rfl) .nil) (Gext.r w0 g) ⟨z0, rfl, rfl, hF⟩
theorem wts_0 (t : Ts) : ¬ wtsP 0 t := fun h => absurd h.1 (Nat.not_lt_zero _)
theorem wpa_0 (p : Ph) : ¬ wpaP 0 p := fun h => absurd h.1 (Nat.not_lt_zero _)
theorem whv_0 (l : List Ph) : ¬ whvP 0 l := fun h => absurd h.1 (Nat.not_lt_zero _)
theorem wts_F (N : Nat) (t : Ts) (h : wtsP (N + 1) t) : wtsF N t (fun r => r = wgT t) := by
 have e := wgT_eq t
 have hb := bT_kids t
 obtain ⟨h1, h2⟩ := h
 refine ⟨fun c1 => by rw [e, if_t c1], fun c1 => ⟨fun c2 => by rw [e, if_f c1, if_t c2], fun c2 => ⟨fun c3 => by rw [e, if_f c1, if_f c2, if_t c3], fun c3 => ?_⟩⟩⟩
 rw [if_f c1, if_f c2, if_f c3] at e
 have j : wtsj25 N t (fun r => r = wgT t) := ⟨fun c => ⟨⟨by omega, by omega⟩, by rw [e, if_t c]⟩, fun c => by rw [e, if_f c]⟩
 exact ⟨fun _ => j, fun _ => j⟩
theorem wpa23 {N : Nat} {r : Int} (s : List Ts) (hs : ∀ t ∈ s, wtsP N t) (hl : s.length ≤ 1048600) (k : Int) (C : Int → Int → Prop) (F : Int → Int) (U : Int) (hU : U ≤ 1000000000000000)
  (hC : ∀ n, 0 ≤ n → n ≤ U → r = F n → C n (w6 (k + 1))) : ∀ (m i : Nat) (n : Int), i + m = s.length → 0 ≤ n → n + 1000000 * w1 (s.drop i) ≤ U → r = F (wg1 (s.drop i) n) → wpal23 N s k C (m + 1) n (i : Int) := by
 intro m
 induction m with
 | zero =>
  intro i n hi hn hu he
  rw [List.drop_of_length_le om] at he hu
  rw [w1] at hu
  exact ⟨fun hc => absurd (of_decide_eq_true hc) om, fun _ => hC n hn om (by rw [he, wg1])⟩
 | succ m ih =>
  intro i n hi hn hu he
  have hi' : i < s.length := by omega
  have ht := hs _ (get_in default hi')
  have hb := wgB (s.getD i default)
  rw [drop_get (l := s) default hi'] at he hu
  rw [wg1] at he
  rw [w1] at hu
  obtain ⟨hb1, hb2⟩ := hb
  refine ⟨fun _ => ⟨by omega, by rw [Int.toNat_natCast]; omega, ?_⟩, fun hc => absurd (of_decide_eq_false hc) om⟩
  rw [Int.toNat_natCast]
  refine ⟨ht, ?_⟩
  rw [w64 om, w64 om, show (i : Int) + 1 = ((i + 1 : Nat) : Int) by omega]
  exact ih (i + 1) _ om om om he
theorem wpa_F (N : Nat) (p : Ph) (h : wpaP (N + 1) p) : wpaF N p (fun r => r = wgP p) := by
 obtain ⟨h1, h2⟩ := h
 unfold pw at h1 h2
 have hl := w2_len p.1
 have loop : ∀ (m i : Nat) (n : Int), i + m = p.1.length → 0 ≤ n → n + 1000000 * w2 (p.1.drop i) ≤ 1000000 * w2 p.1 → wgP p = wg2 (p.1.drop i) n → wpal9 N p (fun r => r = wgP p) (m + 1) n (i : Int) := by
  intro m
  induction m with
  | zero =>
   intro i n hi hn hu he
   rw [List.drop_of_length_le om, wg2] at he
   exact ⟨fun hc => absurd (of_decide_eq_true hc) om, fun _ => he.symm⟩
  | succ m ih =>
   intro i n hi hn hu he
   have hi' : i < p.1.length := by omega
   have hin := get_in default hi'
   have h3 := w2_in hin
   have h4 := w1_len (p.1.getD i default)
   rw [drop_get (l := p.1) default hi'] at he hu
   rw [wg2] at he
   rw [w2] at hu
   refine ⟨fun _ => ⟨by omega, by rw [Int.toNat_natCast]; omega, ?_⟩, fun hc => absurd (of_decide_eq_false hc) om⟩
   rw [Int.toNat_natCast]
   refine ⟨_, wpa23 (r := wgP p) (p.1.getD i default) (fun t ht => ⟨by have := w1_in ht; omega, by have := w1_in ht; omega⟩) om (i : Int) _ (fun n => wg2 (p.1.drop (i + 1)) n) (n + 1000000 * w1 (p.1.getD i default)) om (fun n' h0 h1 h2 => ?_) (p.1.getD i default).length 0 n om hn (by rw [List.drop_zero]; omega) (by rw [List.drop_zero]; exact he)⟩
   rw [w64 om, show (i : Int) + 1 = ((i + 1 : Nat) : Int) by omega]
   exact ih (i + 1) n' om h0 om h2
 exact ⟨_, loop p.1.length 0 0 om om (by rw [List.drop_zero]; omega) (by rw [List.drop_zero]; rfl)⟩
theorem whv_F (N : Nat) (l : List Ph) (h : whvP (N + 1) l) : whvF N l (fun r => r = wgH l) := by
 obtain ⟨h1, h2⟩ := h
 have h5 := b3_eq l
 have hl := w3_len l
 have loop : ∀ (m i : Nat) (n : Int), i + m = l.length → wgH l = wg3 (l.drop i) n → whvl9 N l (fun r => r = wgH l) (m + 1) n (i : Int) := by
  intro m
  induction m with
  | zero =>
   intro i n hi he
   rw [List.drop_of_length_le om, wg3] at he
   exact ⟨fun hc => absurd (of_decide_eq_true hc) om, fun _ => he.symm⟩
  | succ m ih =>
   intro i n hi he
   have hi' : i < l.length := by omega
   have h3 := w3_in (get_in default hi')
   rw [drop_get (l := l) default hi', wg3_cons] at he
   refine ⟨fun _ => ⟨by omega, by rw [Int.toNat_natCast]; omega, ?_⟩, fun hc => absurd (of_decide_eq_false hc) om⟩
   rw [Int.toNat_natCast]
   refine ⟨⟨by unfold pw; omega, by unfold pw; omega⟩, ?_⟩
   rw [w64 om, show (i : Int) + 1 = ((i + 1 : Nat) : Int) by omega]
   exact ih (i + 1) _ om he
 exact ⟨_, loop l.length 0 0 om (by rw [List.drop_zero]; rfl)⟩
theorem wts_rec : ∀ N, wts_C N ∧ wpa_C N ∧ whv_C N
 | 0 => ⟨(by intro g axt_0 cxt_0 xt hRxt_0 hp; exact (wts_0 xt hp).elim), (by intro g axp_0 cxp_0 axp_1 cxp_1 xp hRxp_0 hRxp_1 hp; exact (wpa_0 xp hp).elim), (by intro g axl_0 cxl_0 xl hRxl_0 hp; exact (whv_0 xl hp).elim)⟩
 | N + 1 =>
  have ih := wts_rec N
  ⟨(by intro g axt_0 cxt_0 xt hRxt_0 hp; exact (wts_ok N ih.1 ih.2.1 ih.2.2 xt hRxt_0 _ (wts_F N xt hp)).gives (by rintro g' H' v _ ⟨r0, rfl, rfl, hK⟩; subst hK; rfl)), (by intro g axp_0 cxp_0 axp_1 cxp_1 xp hRxp_0 hRxp_1 hp; exact (wpa_ok N ih.1 ih.2.1 ih.2.2 xp hRxp_0 hRxp_1 _ (wpa_F N xp hp)).gives (by rintro g' H' v _ ⟨r0, rfl, rfl, hK⟩; subst hK; rfl)), (by intro g axl_0 cxl_0 xl hRxl_0 hp; exact (whv_ok N ih.1 ih.2.1 ih.2.2 xl hRxl_0 _ (whv_F N xl hp)).gives (by rintro g' H' v _ ⟨r0, rfl, rfl, hK⟩; subst hK; rfl))⟩
def whvPE (xl : List PH) : Prop := ∃ N, whvP N xl
theorem whv_c {g : Ghost} {axl_0 : Option Addr} {cxl_0 : Nat} (xl : List PH) (hRxl_0 : Rep g (.slice yP) [.slice axl_0 xl.length cxl_0] xl)  (hp : whvPE xl) : CallsG Tryz.prog 24 #[.slice axl_0 xl.length cxl_0] g (iv (wgH xl)) := by
 obtain ⟨N, hp⟩ := hp
 exact (wts_rec N).2.2 _ xl hRxl_0 hp
def rtsP (N : Nat) (t : Ts) : Prop := wtsP N t
def rpaP (N : Nat) (p : Ph) : Prop := wpaP N p
def rts_C (N : Nat) : Prop := ∀ (g : Ghost) {axt_0 : Option Addr} {cxt_0 : Nat} (xt : TS) (hRxt_0 : Rep g (.slice yP) [.slice axt_0 xt.kids.length cxt_0] xt.kids)  (hp : rtsP N xt), CallsG Tryz.prog 19 #[.agg (aL xt.lab axt_0 xt.kids.length cxt_0)] g (iv (wgT xt))
def rpa_C (N : Nat) : Prop := ∀ (g : Ghost) {axp_0 : Option Addr} {cxp_0 : Nat} {axp_1 : Option Addr} {cxp_1 : Nat} (xp : PH) (hRxp_0 : Rep g (.slice (.slice yS)) [.slice axp_0 xp.1.length cxp_0] xp.1) (hRxp_1 : Rep g (.slice yb) [.slice axp_1 xp.2.length cxp_1] xp.2)  (hp : rpaP N xp), CallsG Tryz.prog 9 #[.agg #[.slice axp_0 xp.1.length cxp_0, .slice axp_1 xp.2.length cxp_1]] g (iv (wgP xp))
def rtsl37b (N : Nat) (xt : TS) (K : Int → Prop) (s0 : Int) (y0 : Int) (C37 : Int → Int → Prop) : Prop :=
 ((decide (y0 < (xt.kids.length : Int))) = true → 0 ≤ y0 ∧ Int.toNat y0 < xt.kids.length ∧ rpaP N (xt.kids.getD (Int.toNat y0) default) ∧ C37 (if s0 < (wgP (xt.kids.getD (Int.toNat y0) default)) then (wgP (xt.kids.getD (Int.toNat y0) default)) else s0) (w6 (y0 + 1))) ∧ ((decide (y0 < (xt.kids.length : Int))) = false → K s0)
def rtsl37 (N : Nat) (xt : TS) (K : Int → Prop) : Nat → Int → Int → Prop
 | 0, _, _ => False
 | k + 1, s0, y0 => rtsl37b N xt K s0 y0 (rtsl37 N xt K k)
def rtsj28 (N : Nat) (xt : TS) (K : Int → Prop) : Prop :=
 ((((xt.lab.1 == 10) || (xt.lab.1 == 11))) = true → ∃ k, rtsl37 N xt K k 0 0) ∧ ((((xt.lab.1 == 10) || (xt.lab.1 == 11))) = false → K 1000)
def rtsF (N : Nat) (xt : TS) (K : Int → Prop) : Prop :=
 (((xt.lab.1 == 1)) = true → K 0) ∧ (((xt.lab.1 == 1)) = false → (((xt.lab.1 == 2)) = true → K 1) ∧ (((xt.lab.1 == 2)) = false → (((xt.lab.1 == 3)) = true → K 1000000) ∧ (((xt.lab.1 == 3)) = false → (((xt.lab.1 == 10)) = true → rtsj28 N xt K) ∧ (((xt.lab.1 == 10)) = false → rtsj28 N xt K))))
theorem rts_ok {g : Ghost} (N : Nat) (ih_rts : rts_C N) (ih_rpa : rpa_C N) {axt_0 : Option Addr} {cxt_0 : Nat} (xt : TS) (hRxt_0 : Rep g (.slice yP) [.slice axt_0 xt.kids.length cxt_0] xt.kids) (K : Int → Prop)
  (hF : rtsF N xt K) : CallsH Tryz.prog 19 #[.agg (aL xt.lab axt_0 xt.kids.length cxt_0)] g [] (fun g' H' v => ∃ (r0 : Int), v = iv r0 ∧ H' = [] ∧ K r0) := by
 refine CallsH.enter 38 [(0, .agg (aL xt.lab axt_0 xt.kids.length cxt_0))] Tryz.func19 rfl kr kr kr fun w0 => ?_
 refine Ok.sr ((Ok.op rfl (OpOk.box (v := .agg (aL xt.lab axt_0 xt.kids.length cxt_0)) (cs := (aL xt.lab axt_0 xt.kids.length cxt_0)) rfl kr rfl fun bs1 => ?_)))
 refine Ok.B 1 [(1, pv bs1 0)] kr (Ok.nt ((Ok.q (Ok.sr ((Ok.b 1 [1] [(5, pv bs1 0)] ?_))))))
 refine Ok.op rfl (OpOk.s (v := iv xt.lab.1) (Yields.l 0 rfl rfl Tryz.underlying3 rfl kr) rfl rfl (Ok.b 1 [1] [(7, .bool (xt.lab.1 == 1))] ?_))
 refine Ok.nt ((Ok.cn hF rfl (fun hc2 => ?_) (fun hc2 => ?_)))
 ·replace hF := hF.1 hc2
  refine Ok.sr ((Ok.B 1 [(2, iv 0)] kr (Ok.nt ((Ok.ret (Ok.tr ?_))))))
  exact Ok.p (vs := [iv 0]) [] [] dc rfl (.inl rfl) rfl (.cons (.tmp rfl) .nil) (Gext.r w0 g) ⟨0, rfl, rfl, hF⟩
 replace hF := hF.2 hc2
 refine Ok.k (Ok.t (Ok.q (Ok.sr ((Ok.b 1 [1] [(8, pv bs1 0)] ?_)))))
 refine Ok.op rfl (OpOk.s (v := iv xt.lab.1) (Yields.l 0 rfl rfl Tryz.underlying3 rfl kr) rfl rfl (Ok.b 1 [1] [(10, .bool (xt.lab.1 == 2))] ?_))
 refine Ok.nt ((Ok.cn hF rfl (fun hc3 => ?_) (fun hc3 => ?_)))
 ·replace hF := hF.1 hc3
  refine Ok.sr ((Ok.B 1 [(2, iv 1)] kr (Ok.nt ((Ok.ret (Ok.tr ?_))))))
  exact Ok.p (vs := [iv 1]) [] [] dc rfl (.inl rfl) rfl (.cons (.tmp rfl) .nil) (Gext.r w0 g) ⟨1, rfl, rfl, hF⟩
 replace hF := hF.2 hc3
 refine Ok.k (Ok.t (Ok.q (Ok.sr ((Ok.b 1 [1] [(11, pv bs1 0)] ?_)))))
 refine Ok.op rfl (OpOk.s (v := iv xt.lab.1) (Yields.l 0 rfl rfl Tryz.underlying3 rfl kr) rfl rfl (Ok.b 1 [1] [(13, .bool (xt.lab.1 == 3))] ?_))
 refine Ok.nt ((Ok.cn hF rfl (fun hc4 => ?_) (fun hc4 => ?_)))
 ·replace hF := hF.1 hc4
  refine Ok.sr ((Ok.B 1 [(2, iv 1000000)] kr (Ok.nt ((Ok.ret (Ok.tr ?_))))))
  exact Ok.p (vs := [iv 1000000]) [] [] dc rfl (.inl rfl) rfl (.cons (.tmp rfl) .nil) (Gext.r w0 g) ⟨1000000, rfl, rfl, hF⟩
 replace hF := hF.2 hc4
 refine Ok.k (Ok.t (Ok.q (Ok.cut (fun a W => StA 38 [(1, pv bs1 0), (21, .bool ((xt.lab.1 == 10) || (xt.lab.1 == 11)))] a ∧ StW w0 [.blk bs1 (.cells (aL xt.lab axt_0 xt.kids.length cxt_0) 48)] g W ∧ rtsj28 N xt K) ?_ ?_)))
 ·
  refine Ok.r (Ok.b 1 [1] [(14, pv bs1 0)] ?_)
  refine Ok.op rfl (OpOk.s (v := iv xt.lab.1) (Yields.l 0 rfl rfl Tryz.underlying3 rfl kr) rfl rfl (Ok.b 2 [1] [(17, .bool (xt.lab.1 == 10))] ?_))
  refine Ok.a 17 ((xt.lab.1 == 10)) rfl (fun U0 => ?_) (fun U0 => ?_)
  ·replace hF := hF.1 U0
   refine Ok.b 4 [1] [(21, .bool true)] ?_
   refine Ok.nt ((Ok.v 21 rfl (show (.bool true : Value) = .bool ((xt.lab.1 == 10) || (xt.lab.1 == 11)) from congrArg (Value.bool) (mor_t U0)) ?_))
   exact fun a W hA hW => ⟨hA.sub kr, hW, hF⟩
  replace hF := hF.2 U0
  refine Ok.b 1 [1] [(17, .bool false), (18, pv bs1 0)] ?_
  refine Ok.y (j := 3) (d := 17) (want := false) (b := false) rfl kr kr rfl (OpOk.s (v := iv xt.lab.1) (Yields.l 0 rfl rfl Tryz.underlying3 rfl kr) rfl rfl (Ok.b 2 [1] [(21, .bool (xt.lab.1 == 11))] ?_))
  refine Ok.nt ((Ok.v 21 rfl (show (.bool (xt.lab.1 == 11) : Value) = .bool ((xt.lab.1 == 10) || (xt.lab.1 == 11)) from congrArg (Value.bool) (mor_f U0)) ?_))
  exact fun a W hA hW => ⟨hA.sub kr, hW, hF⟩
 clear hF
 rintro a W ⟨hA, hW, hF⟩
 refine (?_ : Ok _ _ _ _ _ _) a W hA hW
 clear hA hW
 refine Ok.cn hF rfl (fun hc5 => ?_) (fun hc5 => ?_)
 ·replace hF := hF.1 hc5
  refine Ok.sr ((Ok.b 1 [1] [(3, iv 0)] ?_))
  refine Ok.nt ((Ok.q (Ok.sr ((Ok.b 1 [1, 3] [(4, iv 0)] ?_)))))
  refine Ok.nt ((Ok.block ?_))
  obtain ⟨k, hF⟩ := hF
  refine Ok.L (fun k a W => ∃ (s0 : Int) (y0 : Int), StA 38 [(1, pv bs1 0), (3, iv s0), (4, iv y0)] a ∧ StW w0 [.blk bs1 (.cells (aL xt.lab axt_0 xt.kids.length cxt_0) 48)] g W ∧ rtsl37 N xt K k s0 y0) k ?_ ?_
  ·
   exact fun a W hA hW => ⟨0, 0, hA.sub kr, hW, hF⟩
  clear hF
  rintro k37 a W ⟨s0, y0, hA, hW, hF⟩
  cases k37 with
  | zero => exact (hF : False).elim
  | succ k37 =>
   refine (?_ : Ok _ _ _ _ _ _) a W hA hW
   clear hA hW
   refine Ok.q (Ok.sr ((Ok.b 2 [1, 3, 4] [(22, iv y0), (23, pv bs1 6)] ?_)))
   refine Ok.op rfl (OpOk.s (v := .slice axt_0 xt.kids.length cxt_0) (Yields.l 0 rfl rfl Tryz.underlying29 rfl kr) rfl rfl (Ok.b 2 [1, 3, 4] [(26, .bool (decide (y0 < (xt.kids.length : Int))))] ?_))
   refine Ok.nt ((Ok.cn hF rfl (fun hc6 => ?_) (fun hc6 => ?_)))
   ·replace hF := hF.1 hc6
    refine Ok.k (Ok.t (Ok.q (Ok.block (Ok.r (Ok.b 2 [1, 4] [(29, iv s0), (30, pv bs1 6)] ?_)))))
    refine Ok.op rfl (OpOk.s (v := .slice axt_0 xt.kids.length cxt_0) (Yields.l 0 rfl rfl Tryz.underlying29 rfl kr) rfl rfl (Ok.b 1 [1, 4, 29] [(31, .slice axt_0 xt.kids.length cxt_0), (32, iv y0)] ?_))
    obtain ⟨h08, h18, hF⟩ := hF
    have he8 := get_of (l := xt.kids) (default : PH) h18
    generalize hg8 : (xt.kids.getD (Int.toNat y0) default) = e8 at he8 hF ⊢
    refine Ok.op rfl (OpOk.indexRo (e := yP) (i := y0) (el := e8) rfl rfl Tryz.underlying29 kr hRxt_0 h08 he8 rfl fun q7 o7 cs7 _ Z0 hr7 => ?_)
    obtain ⟨_, _, rfl, ⟨J0, W0, rfl, hm7_0, hr7_0⟩, ⟨X0, S0, rfl, hm7_1, hr7_1⟩⟩ := hr7
    have hR7_0 : Rep g (.slice (.slice yS)) [.slice J0 e8.1.length W0] e8.1 := ⟨J0, W0, rfl, hm7_0, hr7_0⟩
    have hR7_1 : Rep g (.slice yb) [.slice X0 e8.2.length S0] e8.2 := ⟨X0, S0, rfl, hm7_1, hr7_1⟩
    replace Z0 : At g q7 o7 [.slice J0 e8.1.length W0, .slice X0 e8.2.length S0] := Z0
    refine Ok.op rfl (OpOk.s (v := .agg #[.slice J0 e8.1.length W0, .slice X0 e8.2.length S0]) (Yields.loadAggRo 0 2 #[.slice J0 e8.1.length W0, .slice X0 e8.2.length S0] Z0 kr Tryz.underlying25 rfl kr kr kr) rfl rfl ?_)
    obtain ⟨hp9, hF⟩ := hF
    refine Ok.op rfl (OpOk.f enr (fun W hW => ih_rpa _ e8 (hR7_0.mono hW.sees) (hR7_1.mono hW.sees) hp9) rfl ?_)
    refine Ok.b 2 [1, 4] [(3, iv (if s0 < (wgP e8) then (wgP e8) else s0))] ?_
    refine Ok.j (Ok.kn (Ok.t (Ok.r (Ok.b 3 [1, 3] [(4, iv (w6 (y0 + 1)))] ?_))))
    refine Ok.j (Ok.t ?_)
    subst hg8
    exact fun a W hA hW => ⟨k37, Nat.lt_succ_self _, (if s0 < (wgP (xt.kids.getD (Int.toNat y0) default)) then (wgP (xt.kids.getD (Int.toNat y0) default)) else s0), w6 (y0 + 1), hA.sub kr, hW, hF⟩
   replace hF := hF.2 hc6
   refine Ok.x (Ok.thenE (Ok.thenE (Ok.blockHit (Ok.t (Ok.sr ((Ok.B 2 [(2, iv s0)] kr (Ok.nt ((Ok.ret (Ok.tr ?_)))))))))))
   exact Ok.p (vs := [iv s0]) [] [] dc rfl (.inl rfl) rfl (.cons (.tmp rfl) .nil) (Gext.r w0 g) ⟨s0, rfl, rfl, hF⟩
 replace hF := hF.2 hc5
 refine Ok.k (Ok.t (Ok.sr ((Ok.B 1 [(2, iv 1000)] kr (Ok.nt ((Ok.ret ?_)))))))
 exact Ok.p (vs := [iv 1000]) [] [] dc rfl (.inl rfl) rfl (.cons (.tmp rfl) .nil) (Gext.r w0 g) ⟨1000, rfl, rfl, hF⟩
def rpal21b (N : Nat) (xp : PH) (j0 : Int) (C9 : Int → Int → Prop) (d0 : Int) (x0 : Int) (C21 : Int → Int → Prop) : Prop :=
 0 ≤ j0 ∧ Int.toNat j0 < xp.1.length ∧ ((decide (x0 < ((xp.1.getD (Int.toNat j0) default).length : Int))) = true → 0 ≤ x0 ∧ Int.toNat x0 < (xp.1.getD (Int.toNat j0) default).length ∧ rtsP N ((xp.1.getD (Int.toNat j0) default).getD (Int.toNat x0) default) ∧ C21 (w6 (d0 + (wgT ((xp.1.getD (Int.toNat j0) default).getD (Int.toNat x0) default)))) (w6 (x0 + 1))) ∧ ((decide (x0 < ((xp.1.getD (Int.toNat j0) default).length : Int))) = false → C9 d0 (w6 (j0 + 1)))
def rpal21 (N : Nat) (xp : PH) (j0 : Int) (C9 : Int → Int → Prop) : Nat → Int → Int → Prop
 | 0, _, _ => False
 | k + 1, d0, x0 => rpal21b N xp j0 C9 d0 x0 (rpal21 N xp j0 C9 k)
def rpal9b (N : Nat) (xp : PH) (K : Int → Prop) (z0 : Int) (j0 : Int) (C9 : Int → Int → Prop) : Prop :=
 ((decide (j0 < (xp.1.length : Int))) = true → ∃ k, rpal21 N xp j0 C9 k z0 0) ∧ ((decide (j0 < (xp.1.length : Int))) = false → K z0)
def rpal9 (N : Nat) (xp : PH) (K : Int → Prop) : Nat → Int → Int → Prop
 | 0, _, _ => False
 | k + 1, z0, j0 => rpal9b N xp K z0 j0 (rpal9 N xp K k)
def rpaF (N : Nat) (xp : PH) (K : Int → Prop) : Prop :=
 ∃ k, rpal9 N xp K k 0 0
theorem rpa_ok {g : Ghost} (N : Nat) (ih_rts : rts_C N) (ih_rpa : rpa_C N) {axp_0 : Option Addr} {cxp_0 : Nat} {axp_1 : Option Addr} {cxp_1 : Nat} (xp : PH) (hRxp_0 : Rep g (.slice (.slice yS)) [.slice axp_0 xp.1.length cxp_0] xp.1) (hRxp_1 : Rep g (.slice yb) [.slice axp_1 xp.2.length cxp_1] xp.2) (K : Int → Prop)
  (hF : rpaF N xp K) : CallsH Tryz.prog 9 #[.agg #[.slice axp_0 xp.1.length cxp_0, .slice axp_1 xp.2.length cxp_1]] g [] (fun g' H' v => ∃ (r0 : Int), v = iv r0 ∧ H' = [] ∧ K r0) := by
 refine CallsH.enter 35 [(0, .agg #[.slice axp_0 xp.1.length cxp_0, .slice axp_1 xp.2.length cxp_1])] Tryz.func9 rfl kr kr kr fun w0 => ?_
 refine Ok.sr ((Ok.op rfl (OpOk.box (v := .agg #[.slice axp_0 xp.1.length cxp_0, .slice axp_1 xp.2.length cxp_1]) (cs := #[.slice axp_0 xp.1.length cxp_0, .slice axp_1 xp.2.length cxp_1]) rfl kr rfl fun bs1 => ?_)))
 refine Ok.B 1 [(1, pv bs1 0)] kr (Ok.nt ((Ok.sr ((Ok.b 1 [1] [(3, iv 0)] ?_)))))
 refine Ok.nt ((Ok.q (Ok.sr ((Ok.b 1 [1, 3] [(4, iv 0)] ?_)))))
 refine Ok.nt ((Ok.block ?_))
 obtain ⟨k, hF⟩ := hF
 refine Ok.L (fun k a W => ∃ (z0 : Int) (j0 : Int), StA 35 [(1, pv bs1 0), (3, iv z0), (4, iv j0)] a ∧ StW w0 [.blk bs1 (.cells #[.slice axp_0 xp.1.length cxp_0, .slice axp_1 xp.2.length cxp_1] 25)] g W ∧ rpal9 N xp K k z0 j0) k ?_ ?_
 ·
  exact fun a W hA hW => ⟨0, 0, hA.sub kr, hW, hF⟩
 clear hF
 rintro k9 a W ⟨z0, j0, hA, hW, hF⟩
 cases k9 with
 | zero => exact (hF : False).elim
 | succ k9 =>
  refine (?_ : Ok _ _ _ _ _ _) a W hA hW
  clear hA hW
  refine Ok.q (Ok.sr ((Ok.b 2 [1, 3, 4] [(6, iv j0), (7, pv bs1 0)] ?_)))
  refine Ok.op rfl (OpOk.s (v := .slice axp_0 xp.1.length cxp_0) (Yields.l 0 rfl rfl Tryz.underlying22 rfl kr) rfl rfl (Ok.b 2 [1, 3, 4] [(10, .bool (decide (j0 < (xp.1.length : Int))))] ?_))
  refine Ok.nt ((Ok.cn hF rfl (fun hc2 => ?_) (fun hc2 => ?_)))
  ·replace hF := hF.1 hc2
   refine Ok.k (Ok.t (Ok.q (Ok.block (Ok.sr ((Ok.b 1 [1, 3, 4] [(5, iv 0)] ?_))))))
   refine Ok.nt ((Ok.block ?_))
   obtain ⟨k, hF⟩ := hF
   refine Ok.L (fun k a W => ∃ (d0 : Int) (x0 : Int), StA 35 [(1, pv bs1 0), (3, iv d0), (4, iv j0), (5, iv x0)] a ∧ StW w0 [.blk bs1 (.cells #[.slice axp_0 xp.1.length cxp_0, .slice axp_1 xp.2.length cxp_1] 25)] g W ∧ rpal21 N xp j0 (rpal9 N xp K k9) k d0 x0) k ?_ ?_
   ·
    exact fun a W hA hW => ⟨z0, 0, hA.sub kr, hW, hF⟩
   clear hF
   rintro k21 a W ⟨d0, x0, hA, hW, hF⟩
   cases k21 with
   | zero => exact (hF : False).elim
   | succ k21 =>
    refine (?_ : Ok _ _ _ _ _ _) a W hA hW
    clear hA hW
    refine Ok.q (Ok.sr ((Ok.b 2 [1, 3, 4, 5] [(13, iv x0), (14, pv bs1 0)] ?_)))
    refine Ok.op rfl (OpOk.s (v := .slice axp_0 xp.1.length cxp_0) (Yields.l 0 rfl rfl Tryz.underlying22 rfl kr) rfl rfl (Ok.b 1 [1, 3, 4, 5, 13] [(15, .slice axp_0 xp.1.length cxp_0), (16, iv j0)] ?_))
    obtain ⟨h04, h14, hF⟩ := hF
    have he4 := get_of (l := xp.1) (default : List TS) h14
    generalize hg4 : (xp.1.getD (Int.toNat j0) default) = e4 at he4 hF ⊢
    refine Ok.op rfl (OpOk.indexRo (e := .slice yS) (i := j0) (el := e4) rfl rfl Tryz.underlying22 kr hRxp_0 h04 he4 rfl fun q3 o3 cs3 _ a0 hr3 => ?_)
    obtain ⟨e0, f0, rfl, V0, Q0⟩ := hr3
    have O0 : Rep g (.slice yS) [.slice e0 e4.length f0] e4 := ⟨e0, f0, rfl, V0, Q0⟩
    replace a0 : At g q3 o3 [.slice e0 e4.length f0] := a0
    refine Ok.op rfl (OpOk.s (v := .slice e0 e4.length f0) (Yields.lr 0 a0 kr Tryz.underlying41 rfl kr) rfl rfl (Ok.b 2 [1, 3, 4, 5] [(20, .bool (decide (x0 < (e4.length : Int))))] ?_))
    refine Ok.nt ((Ok.cn hF rfl (fun hc5 => ?_) (fun hc5 => ?_)))
    ·replace hF := hF.1 hc5
     refine Ok.k (Ok.t (Ok.q (Ok.block (Ok.r (Ok.b 2 [1, 4, 5] [(23, iv d0), (24, pv bs1 0)] ?_)))))
     refine Ok.op rfl (OpOk.s (v := .slice axp_0 xp.1.length cxp_0) (Yields.l 0 rfl rfl Tryz.underlying22 rfl kr) rfl rfl (Ok.b 1 [1, 4, 5, 23] [(25, .slice axp_0 xp.1.length cxp_0), (26, iv j0)] ?_))
     refine Ok.op rfl (OpOk.indexRo (e := .slice yS) (i := j0) (el := e4) rfl rfl Tryz.underlying22 kr hRxp_0 h04 he4 rfl fun q6 o6 cs6 _ i0 hr6 => ?_)
     obtain ⟨B0, C0, rfl, hm6_0, hr6_0⟩ := hr6
     have hR6_0 : Rep g (.slice yS) [.slice B0 e4.length C0] e4 := ⟨B0, C0, rfl, hm6_0, hr6_0⟩
     replace i0 : At g q6 o6 [.slice B0 e4.length C0] := i0
     refine Ok.op rfl (OpOk.s (v := .slice B0 e4.length C0) (Yields.lr 0 i0 kr Tryz.underlying41 rfl kr) rfl rfl (Ok.b 1 [1, 4, 5, 23] [(28, .slice B0 e4.length C0), (29, iv x0)] ?_))
     obtain ⟨h08, h18, hF⟩ := hF
     have he8 := get_of (l := e4) (default : TS) h18
     generalize hg8 : (e4.getD (Int.toNat x0) default) = e8 at he8 hF ⊢
     refine Ok.op rfl (OpOk.indexRo (e := yS) (i := x0) (el := e8) rfl rfl Tryz.underlying41 kr hR6_0 h08 he8 rfl fun q7 o7 cs7 _ Z0 hr7 => ?_)
     have D0 := hr7
     replace D0 := Rep.tst.1 D0
     obtain ⟨_, _, rfl, ⟨_, _, rfl, rfl, ⟨_, _, rfl, rfl, ⟨_, _, rfl, rfl, ⟨_, _, rfl, rfl, ⟨_, _, rfl, rfl, rfl⟩⟩⟩⟩⟩, ⟨E0, F0, rfl, hm7_6, hr7_6⟩⟩ := D0
     have hR7_6 : Rep g (.slice yP) [.slice E0 e8.kids.length F0] e8.kids := ⟨E0, F0, rfl, hm7_6, hr7_6⟩
     replace Z0 : At g q7 o7 (vL e8.lab E0 e8.kids.length F0) := Z0
     refine Ok.op rfl (OpOk.s (v := .agg (aL e8.lab E0 e8.kids.length F0)) (Yields.loadAggRo 0 7 (aL e8.lab E0 e8.kids.length F0) Z0 kr Tryz.underlying48 rfl kr kr kr) rfl rfl ?_)
     obtain ⟨hp9, hF⟩ := hF
     refine Ok.op rfl (OpOk.f enr (fun W hW => ih_rts _ e8 (hR7_6.mono hW.sees) hp9) rfl ?_)
     refine Ok.b 2 [1, 4, 5] [(3, iv (w6 (d0 + (wgT e8))))] ?_
     refine Ok.j (Ok.kn (Ok.t (Ok.r (Ok.b 3 [1, 3, 4] [(5, iv (w6 (x0 + 1)))] ?_))))
     refine Ok.j (Ok.t ?_)
     subst hg8
     subst hg4
     exact fun a W hA hW => ⟨k21, Nat.lt_succ_self _, w6 (d0 + (wgT ((xp.1.getD (Int.toNat j0) default).getD (Int.toNat x0) default))), w6 (x0 + 1), hA.sub kr, hW, hF⟩
    replace hF := hF.2 hc5
    refine Ok.x (Ok.thenE (Ok.thenE (Ok.blockHit (Ok.kn (Ok.t (Ok.r (Ok.b 3 [1, 3] [(4, iv (w6 (j0 + 1)))] ?_)))))))
    refine Ok.j (Ok.t ?_)
    subst hg4
    exact fun a W hA hW => ⟨k9, Nat.lt_succ_self _, d0, w6 (j0 + 1), hA.sub kr, hW, hF⟩
  replace hF := hF.2 hc2
  refine Ok.x (Ok.thenE (Ok.thenE (Ok.blockHit (Ok.t (Ok.sr ((Ok.B 2 [(2, iv z0)] kr (Ok.nt ((Ok.ret ?_))))))))))
  exact Ok.p (vs := [iv z0]) [] [] dc rfl (.inl rfl) rfl (.cons (.tmp rfl) .nil) (Gext.r w0 g) ⟨z0, rfl, rfl, hF⟩
theorem rts_0 (t : Ts) : ¬ rtsP 0 t := fun h => absurd h.1 (Nat.not_lt_zero _)
theorem rpa_0 (p : Ph) : ¬ rpaP 0 p := fun h => absurd h.1 (Nat.not_lt_zero _)
theorem rts_F (N : Nat) (t : Ts) (h : rtsP (N + 1) t) : rtsF N t (fun r => r = wgT t) := by
 have e := wgT_eq t
 have hb := bT_kids t
 obtain ⟨h1, h2⟩ := h
 refine ⟨fun c1 => by rw [e, if_t c1], fun c1 => ⟨fun c2 => by rw [e, if_f c1, if_t c2], fun c2 => ⟨fun c3 => by rw [e, if_f c1, if_f c2, if_t c3], fun c3 => ?_⟩⟩⟩
 rw [if_f c1, if_f c2, if_f c3] at e
 have j : rtsj28 N t (fun r => r = wgT t) := by
  refine ⟨fun c => ?_, fun c => by rw [e, if_f c]⟩
  rw [if_t c] at e
  have h5 := b3_eq t.kids
  have hl := w3_len t.kids
  have loop : ∀ (m i : Nat) (n : Int), i + m = t.kids.length → wgT t = wg3 (t.kids.drop i) n → rtsl37 N t (fun r => r = wgT t) (m + 1) n (i : Int) := by
   intro m
   induction m with
   | zero =>
    intro i n hi he
    rw [List.drop_of_length_le om, wg3] at he
    exact ⟨fun hc => absurd (of_decide_eq_true hc) om, fun _ => he.symm⟩
   | succ m ih =>
    intro i n hi he
    have hi' : i < t.kids.length := by omega
    have h3 := w3_in (get_in default hi')
    rw [drop_get (l := t.kids) default hi', wg3_cons] at he
    refine ⟨fun _ => ⟨by omega, by rw [Int.toNat_natCast]; omega, ?_⟩, fun hc => absurd (of_decide_eq_false hc) om⟩
    rw [Int.toNat_natCast]
    refine ⟨⟨by unfold pw; omega, by unfold pw; omega⟩, ?_⟩
    rw [w64 om, show (i : Int) + 1 = ((i + 1 : Nat) : Int) by omega]
    exact ih (i + 1) _ om he
  exact ⟨_, loop t.kids.length 0 0 om (by rw [List.drop_zero]; exact e)⟩
 exact ⟨fun _ => j, fun _ => j⟩
theorem rpa21 {N : Nat} {r : Int} (p : Ph) (k : Nat) (hk : k < p.1.length) (hs : ∀ t ∈ p.1.getD k default, rtsP N t) (hl : (p.1.getD k default).length ≤ 1048600) (C : Int → Int → Prop) (F : Int → Int) (U : Int) (hU : U ≤ 1000000000000000)
  (hC : ∀ n, 0 ≤ n → n ≤ U → r = F n → C n (w6 ((k : Int) + 1))) : ∀ (m i : Nat) (n : Int), i + m = (p.1.getD k default).length → 0 ≤ n → n + 1000000 * w1 ((p.1.getD k default).drop i) ≤ U → r = F (wg1 ((p.1.getD k default).drop i) n) → rpal21 N p (k : Int) C (m + 1) n (i : Int) := by
 intro m
 induction m with
 | zero =>
  intro i n hi hn hu he
  rw [List.drop_of_length_le om] at he hu
  rw [w1] at hu
  refine ⟨by omega, by rw [Int.toNat_natCast]; omega, ?_⟩
  rw [Int.toNat_natCast]
  exact ⟨fun hc => absurd (of_decide_eq_true hc) om, fun _ => hC n hn om (by rw [he, wg1])⟩
 | succ m ih =>
  intro i n hi hn hu he
  have hi' : i < (p.1.getD k default).length := by omega
  have ht := hs _ (get_in default hi')
  have hb := wgB ((p.1.getD k default).getD i default)
  rw [drop_get (l := p.1.getD k default) default hi'] at he hu
  rw [wg1] at he
  rw [w1] at hu
  obtain ⟨hb1, hb2⟩ := hb
  refine ⟨by omega, by rw [Int.toNat_natCast]; omega, ?_⟩
  rw [Int.toNat_natCast]
  refine ⟨fun _ => ⟨by omega, by rw [Int.toNat_natCast]; omega, ?_⟩, fun hc => absurd (of_decide_eq_false hc) om⟩
  rw [Int.toNat_natCast]
  refine ⟨ht, ?_⟩
  rw [w64 om, w64 om, show (i : Int) + 1 = ((i + 1 : Nat) : Int) by omega]
  exact ih (i + 1) _ om om om he
theorem rpa_F (N : Nat) (p : Ph) (h : rpaP (N + 1) p) : rpaF N p (fun r => r = wgP p) := by
 obtain ⟨h1, h2⟩ := h
 unfold pw at h1 h2
 have hl := w2_len p.1
 have loop : ∀ (m i : Nat) (n : Int), i + m = p.1.length → 0 ≤ n → n + 1000000 * w2 (p.1.drop i) ≤ 1000000 * w2 p.1 → wgP p = wg2 (p.1.drop i) n → rpal9 N p (fun r => r = wgP p) (m + 1) n (i : Int) := by
  intro m
  induction m with
  | zero =>
   intro i n hi hn hu he
   rw [List.drop_of_length_le om, wg2] at he
   exact ⟨fun hc => absurd (of_decide_eq_true hc) om, fun _ => he.symm⟩
  | succ m ih =>
   intro i n hi hn hu he
   have hi' : i < p.1.length := by omega
   have hin := get_in default hi'
   have h3 := w2_in hin
   have h4 := w1_len (p.1.getD i default)
   rw [drop_get (l := p.1) default hi'] at he hu
   rw [wg2] at he
   rw [w2] at hu
   refine ⟨fun _ => ?_, fun hc => absurd (of_decide_eq_false hc) om⟩
   refine ⟨_, rpa21 (r := wgP p) p i hi' (fun t ht => ⟨by have := w1_in ht; omega, by have := w1_in ht; omega⟩) om _ (fun n => wg2 (p.1.drop (i + 1)) n) (n + 1000000 * w1 (p.1.getD i default)) om (fun n' h0 h1 h2 => ?_) (p.1.getD i default).length 0 n om hn (by rw [List.drop_zero]; omega) (by rw [List.drop_zero]; exact he)⟩
   rw [w64 om, show (i : Int) + 1 = ((i + 1 : Nat) : Int) by omega]
   exact ih (i + 1) n' om h0 om h2
 exact ⟨_, loop p.1.length 0 0 om om (by rw [List.drop_zero]; omega) (by rw [List.drop_zero]; rfl)⟩
theorem rts_rec : ∀ N, rts_C N ∧ rpa_C N
 | 0 => ⟨(by intro g axt_0 cxt_0 xt hRxt_0 hp; exact (rts_0 xt hp).elim), (by intro g axp_0 cxp_0 axp_1 cxp_1 xp hRxp_0 hRxp_1 hp; exact (rpa_0 xp hp).elim)⟩
 | N + 1 =>
  have ih := rts_rec N
  ⟨(by intro g axt_0 cxt_0 xt hRxt_0 hp; exact (rts_ok N ih.1 ih.2 xt hRxt_0 _ (rts_F N xt hp)).gives (by rintro g' H' v _ ⟨r0, rfl, rfl, hK⟩; subst hK; rfl)), (by intro g axp_0 cxp_0 axp_1 cxp_1 xp hRxp_0 hRxp_1 hp; exact (rpa_ok N ih.1 ih.2 xp hRxp_0 hRxp_1 _ (rpa_F N xp hp)).gives (by rintro g' H' v _ ⟨r0, rfl, rfl, hK⟩; subst hK; rfl))⟩
def rpaPE (xp : PH) : Prop := ∃ N, rpaP N xp
theorem rpa_c {g : Ghost} {axp_0 : Option Addr} {cxp_0 : Nat} {axp_1 : Option Addr} {cxp_1 : Nat} (xp : PH) (hRxp_0 : Rep g (.slice (.slice yS)) [.slice axp_0 xp.1.length cxp_0] xp.1) (hRxp_1 : Rep g (.slice yb) [.slice axp_1 xp.2.length cxp_1] xp.2)  (hp : rpaPE xp) : CallsG Tryz.prog 9 #[.agg #[.slice axp_0 xp.1.length cxp_0, .slice axp_1 xp.2.length cxp_1]] g (iv (wgP xp)) := by
 obtain ⟨N, hp⟩ := hp
 exact (rts_rec N).2 _ xp hRxp_0 hRxp_1 hp
def wofF (xs : Bs) (K : Int → Int → Prop) : Prop :=
 rdP xs ∧ ((((rdS xs).2 != 0)) = true → K 0 (rdS xs).2) ∧ ((((rdS xs).2 != 0)) = false → whvPE (rdS xs).1 ∧ K (wgH (rdS xs).1) 0)
theorem wof_ok {g : Ghost} (xs : Bs) (hG0 : SomeInt g 0) (K : Int → Int → Prop)
  (hF : wofF xs K) : CallsH Tryz.prog 13 #[sv xs] g [] (fun g' H' v => ∃ (r0 : Int), ∃ (r1 : Int), v = .tuple #[iv r0, iv r1] ∧ H' = [] ∧ K r0 r1) := by
 refine CallsH.enter 16 [(0, sv xs)] Tryz.func13 rfl kr kr kr fun w0 => ?_
 refine Ok.sr ((Ok.B 2 [(0, sv xs)] kr (Ok.nt ((Ok.sr ((Ok.B 1 [(7, sv xs)] kr ?_)))))))
 obtain ⟨hp1, hF⟩ := hF
 refine Ok.op rfl (OpOk.callH [] _ enr rfl (rd_c xs hG0 hp1) rfl fun g2 _ _ hx2 hV2 => ?_)
 obtain ⟨g0, m0, rfl, Y0, rfl⟩ := hV2
 replace hG0 := hG0.mono hx2.1
 refine Ok.B 5 [(4, .slice g0 ((rdS xs).1).length m0), (5, iv (rdS xs).2)] kr (Ok.nt ((Ok.q (Ok.sr ((Ok.b 2 [4, 5] [(12, .bool ((rdS xs).2 != 0))] ?_))))))
 refine Ok.nt ((Ok.cn hF rfl (fun hc3 => ?_) (fun hc3 => ?_)))
 ·replace hF := hF.1 hc3
  refine Ok.sr ((Ok.B 3 [(2, iv 0), (3, iv (rdS xs).2)] kr (Ok.nt ((Ok.ret (Ok.tr ?_))))))
  exact Ok.resH (vs := [iv 0, iv (rdS xs).2]) (.inl rfl) rfl (.cons (.tmp rfl) (.cons (.tmp rfl) .nil)) hx2 ⟨0, (rdS xs).2, rfl, rfl, hF⟩
 replace hF := hF.2 hc3
 refine Ok.k (Ok.t (Ok.sr ((Ok.B 1 [(14, .slice g0 ((rdS xs).1).length m0)] kr ?_))))
 obtain ⟨hp4, hF⟩ := hF
 refine Ok.op rfl (OpOk.f enr (fun W hW => whv_c (rdS xs).1 (Y0.mono hW.sees) hp4) rfl ?_)
 refine Ok.B 2 [(2, iv (wgH (rdS xs).1)), (3, iv 0)] kr (Ok.nt ((Ok.ret ?_)))
 exact Ok.resH (vs := [iv (wgH (rdS xs).1), iv 0]) (.inl rfl) rfl (.cons (.tmp rfl) (.cons (.tmp rfl) .nil)) hx2 ⟨(wgH (rdS xs).1), 0, rfl, rfl, hF⟩
def wofS (s : Bs) : Int × Int := (wgH (rdS s).1, 0)
theorem told_whv {l : List Ph} (h : Told l) : whvPE l := ⟨b3 l + 1, by omega, by have := h.1.1; omega⟩
theorem wof_F (s : Bs) (hp : rdP s) : wofF s (fun a b => (a, b) = wofS s) := by
 obtain ⟨l, h, rfl⟩ := hp
 unfold wofS wofF
 rw [rd_eq h]
 exact ⟨⟨l, h, rfl⟩, fun h => absurd h (by show ¬ ((0 : Int) != 0) = true; decide), fun _ => ⟨told_whv h, rfl⟩⟩
theorem wof_c {g : Ghost} (xs : Bs) (hG0 : SomeInt g 0)  (hp : rdP xs) : CallsG Tryz.prog 13 #[sv xs] g (.tuple #[iv (wofS xs).1, iv (wofS xs).2]) :=
 (wof_ok xs hG0 _ (wof_F xs hp)).gives (by rintro g' H' v _ ⟨r0, r1, rfl, rfl, hK⟩; obtain ⟨rfl, rfl⟩ : r0 = (wofS xs).1 ∧ r1 = (wofS xs).2 := ⟨congrArg (fun z => z.1) hK, congrArg (fun z => z.2) hK⟩; rfl)
def lwol21b (xl : List PH) (K : Bool → Prop) (k0 : Int) (u0 : Int) (C21 : Int → Int → Prop) : Prop :=
 ((decide (u0 < (xl.length : Int))) = true → 0 ≤ u0 ∧ Int.toNat u0 < xl.length ∧ rpaPE (xl.getD (Int.toNat u0) default) ∧ C21 (if k0 < (wgP (xl.getD (Int.toNat u0) default)) then (wgP (xl.getD (Int.toNat u0) default)) else k0) (w6 (u0 + 1))) ∧ ((decide (u0 < (xl.length : Int))) = false → rdP (sxtS xl).1 ∧ K ((true && ((wofS (sxtS xl).1).2 == 0)) && ((wofS (sxtS xl).1).1 == k0)))
def lwol21 (xl : List PH) (K : Bool → Prop) : Nat → Int → Int → Prop
 | 0, _, _ => False
 | k + 1, k0, u0 => lwol21b xl K k0 u0 (lwol21 xl K k)
def lwoF (xl : List PH) (K : Bool → Prop) : Prop :=
 chkP xl ∧ ((((sxtS xl).2 != 0)) = true → K true) ∧ ((((sxtS xl).2 != 0)) = false → ∃ k, lwol21 xl K k 0 0)
theorem lwo_ok {g : Ghost} {axl_0 : Option Addr} {cxl_0 : Nat} (xl : List PH) (hRxl_0 : Rep g (.slice yP) [.slice axl_0 xl.length cxl_0] xl) (hG0 : SomeInt g 0) (hG3 : GlobL g 3 (.int .u64) DPow) (K : Bool → Prop)
  (hF : lwoF xl K) : CallsH Tryz.prog 5 #[.slice axl_0 xl.length cxl_0] g [] (fun g' H' v => ∃ (r0 : Bool), v = .bool r0 ∧ H' = [] ∧ K r0) := by
 refine CallsH.enter 47 [(0, .slice axl_0 xl.length cxl_0)] Tryz.func5 rfl kr kr kr fun w0 => ?_
 refine Ok.sr ((Ok.B 1 [(0, .slice axl_0 xl.length cxl_0)] kr (Ok.nt ((Ok.sr ((Ok.op rfl (OpOk.f enr (fun W hW => lsd_c  (hG0.mono hW.sees)) rfl ?_))))))))
 refine Ok.b 1 [0] [(3, .bool true)] ?_
 refine Ok.nt ((Ok.sr ((Ok.b 1 [0, 3] [(12, .slice axl_0 xl.length cxl_0)] ?_))))
 obtain ⟨hp1, hF⟩ := hF
 refine Ok.op rfl (OpOk.f enr (fun W hW => sxt_c xl (hRxl_0.mono hW.sees) (hG0.mono hW.sees) (hG3.mono hW.sees) hp1) rfl ?_)
 refine Ok.b 5 [0, 3] [(4, sv ((sxtS xl).1)), (5, iv (sxtS xl).2)] ?_
 refine Ok.nt ((Ok.q (Ok.sr ((Ok.b 2 [0, 3, 4] [(17, .bool ((sxtS xl).2 != 0))] ?_)))))
 refine Ok.nt ((Ok.cn hF rfl (fun hc2 => ?_) (fun hc2 => ?_)))
 ·replace hF := hF.1 hc2
  refine Ok.sr ((Ok.B 2 [(2, .bool true)] kr (Ok.nt ((Ok.ret (Ok.tr ?_))))))
  exact Ok.resH (vs := [.bool true]) (.inl rfl) rfl (.cons (.tmp rfl) .nil) (Gext.r w0 g) ⟨true, rfl, rfl, hF⟩
 replace hF := hF.2 hc2
 refine Ok.k (Ok.t (Ok.sr ((Ok.b 1 [0, 3, 4] [(6, iv 0)] ?_))))
 refine Ok.nt ((Ok.q (Ok.sr ((Ok.b 1 [0, 3, 4, 6] [(7, iv 0)] ?_)))))
 refine Ok.nt ((Ok.block ?_))
 obtain ⟨k, hF⟩ := hF
 refine Ok.L (fun k a W => ∃ (k0 : Int) (u0 : Int), StA 47 [(0, .slice axl_0 xl.length cxl_0), (3, .bool true), (4, sv ((sxtS xl).1)), (6, iv k0), (7, iv u0)] a ∧ StW w0 [] g W ∧ lwol21 xl K k k0 u0) k ?_ ?_
 ·
  exact fun a W hA hW => ⟨0, 0, hA.sub kr, hW, hF⟩
 clear hF
 rintro k21 a W ⟨k0, u0, hA, hW, hF⟩
 cases k21 with
 | zero => exact (hF : False).elim
 | succ k21 =>
  refine (?_ : Ok _ _ _ _ _ _) a W hA hW
  clear hA hW
  refine Ok.q (Ok.sr ((Ok.b 4 [0, 3, 4, 6, 7] [(22, .bool (decide (u0 < (xl.length : Int))))] ?_)))
  refine Ok.nt ((Ok.cn hF rfl (fun hc3 => ?_) (fun hc3 => ?_)))
  ·replace hF := hF.1 hc3
   refine Ok.k (Ok.t (Ok.q (Ok.block (Ok.r (Ok.b 3 [0, 3, 4, 7] [(25, iv k0), (26, .slice axl_0 xl.length cxl_0), (27, iv u0)] ?_)))))
   obtain ⟨h05, h15, hF⟩ := hF
   have he5 := get_of (l := xl) (default : PH) h15
   generalize hg5 : (xl.getD (Int.toNat u0) default) = e5 at he5 hF ⊢
   refine Ok.op rfl (OpOk.indexRo (e := yP) (i := u0) (el := e5) rfl rfl Tryz.underlying29 kr hRxl_0 h05 he5 rfl fun q4 o4 cs4 _ R0 hr4 => ?_)
   obtain ⟨_, _, rfl, ⟨G0, H0, rfl, hm4_0, hr4_0⟩, ⟨M0, N0, rfl, hm4_1, hr4_1⟩⟩ := hr4
   have hR4_0 : Rep g (.slice (.slice yS)) [.slice G0 e5.1.length H0] e5.1 := ⟨G0, H0, rfl, hm4_0, hr4_0⟩
   have hR4_1 : Rep g (.slice yb) [.slice M0 e5.2.length N0] e5.2 := ⟨M0, N0, rfl, hm4_1, hr4_1⟩
   replace R0 : At g q4 o4 [.slice G0 e5.1.length H0, .slice M0 e5.2.length N0] := R0
   refine Ok.op rfl (OpOk.s (v := .agg #[.slice G0 e5.1.length H0, .slice M0 e5.2.length N0]) (Yields.loadAggRo 0 2 #[.slice G0 e5.1.length H0, .slice M0 e5.2.length N0] R0 kr Tryz.underlying25 rfl kr kr kr) rfl rfl ?_)
   obtain ⟨hp6, hF⟩ := hF
   refine Ok.op rfl (OpOk.f enr (fun W hW => rpa_c e5 (hR4_0.mono hW.sees) (hR4_1.mono hW.sees) hp6) rfl ?_)
   refine Ok.b 2 [0, 3, 4, 7] [(6, iv (if k0 < (wgP e5) then (wgP e5) else k0))] ?_
   refine Ok.j (Ok.kn (Ok.t (Ok.r (Ok.b 3 [0, 3, 4, 6] [(7, iv (w6 (u0 + 1)))] ?_))))
   refine Ok.j (Ok.t ?_)
   subst hg5
   exact fun a W hA hW => ⟨k21, Nat.lt_succ_self _, (if k0 < (wgP (xl.getD (Int.toNat u0) default)) then (wgP (xl.getD (Int.toNat u0) default)) else k0), w6 (u0 + 1), hA.sub kr, hW, hF⟩
  replace hF := hF.2 hc3
  refine Ok.x (Ok.thenE (Ok.thenE (Ok.blockHit (Ok.t (Ok.sr ((Ok.b 1 [3, 6] [(33, sv ((sxtS xl).1))] ?_)))))))
  obtain ⟨hp7, hF⟩ := hF
  refine Ok.op rfl (OpOk.f enr (fun W hW => wof_c (sxtS xl).1 (hG0.mono hW.sees) hp7) rfl ?_)
  refine Ok.b 5 [3, 6] [(8, iv (wofS (sxtS xl).1).1), (9, iv (wofS (sxtS xl).1).2)] ?_
  refine Ok.nt ((Ok.sr ((Ok.b 2 [6, 8, 9] [(38, .bool true)] ?_))))
  refine Ok.w 3 [(6, iv k0), (8, iv (wofS (sxtS xl).1).1), (41, .bool (true && ((wofS (sxtS xl).1).2 == 0)))] (fun hR8 => ?_) ?_
  ·refine Ok.a 38 (true) rfl (fun hc9 => ?_) (fun hc9 => ?_)
   ·skip
    refine Ok.b 3 [6, 8] [(41, .bool ((wofS (sxtS xl).1).2 == 0))] ?_
    refine Ok.v 41 rfl (show (.bool ((wofS (sxtS xl).1).2 == 0) : Value) = .bool (true && ((wofS (sxtS xl).1).2 == 0)) from congrArg Value.bool (mand_t hc9)) (Ok.b 0 [6, 8] [(41, .bool (true && ((wofS (sxtS xl).1).2 == 0)))] ?_)
    exact hR8
   skip
   refine Ok.b 3 [6, 8] [(41, .bool false)] ?_
   refine Ok.v 41 rfl (show (.bool false : Value) = .bool (true && ((wofS (sxtS xl).1).2 == 0)) from congrArg Value.bool (mand_f hc9)) (Ok.b 0 [6, 8] [(41, .bool (true && ((wofS (sxtS xl).1).2 == 0)))] ?_)
   exact hR8
  refine Ok.b 1 [6, 8] [(42, .bool (true && ((wofS (sxtS xl).1).2 == 0)))] ?_
  refine Ok.w 4 [(46, .bool ((true && ((wofS (sxtS xl).1).2 == 0)) && ((wofS (sxtS xl).1).1 == k0)))] (fun L0 => ?_) ?_
  ·refine Ok.a 42 ((true && ((wofS (sxtS xl).1).2 == 0))) rfl (fun T0 => ?_) (fun T0 => ?_)
   ·skip
    refine Ok.B 4 [(46, .bool ((wofS (sxtS xl).1).1 == k0))] kr (Ok.v 46 rfl (show (.bool ((wofS (sxtS xl).1).1 == k0) : Value) = .bool ((true && ((wofS (sxtS xl).1).2 == 0)) && ((wofS (sxtS xl).1).1 == k0)) from congrArg Value.bool (mand_t T0)) (Ok.B 0 [(46, .bool ((true && ((wofS (sxtS xl).1).2 == 0)) && ((wofS (sxtS xl).1).1 == k0)))] kr ?_))
    exact L0
   skip
   refine Ok.B 4 [(46, .bool false)] kr (Ok.v 46 rfl (show (.bool false : Value) = .bool ((true && ((wofS (sxtS xl).1).2 == 0)) && ((wofS (sxtS xl).1).1 == k0)) from congrArg Value.bool (mand_f T0)) (Ok.B 0 [(46, .bool ((true && ((wofS (sxtS xl).1).2 == 0)) && ((wofS (sxtS xl).1).1 == k0)))] kr ?_))
   exact L0
  refine Ok.B 1 [(2, .bool ((true && ((wofS (sxtS xl).1).2 == 0)) && ((wofS (sxtS xl).1).1 == k0)))] kr (Ok.nt ((Ok.ret ?_)))
  exact Ok.resH (vs := [.bool ((true && ((wofS (sxtS xl).1).2 == 0)) && ((wofS (sxtS xl).1).1 == k0))]) (.inl rfl) rfl (.cons (.tmp rfl) .nil) (Gext.r w0 g) ⟨((true && ((wofS (sxtS xl).1).2 == 0)) && ((wofS (sxtS xl).1).1 == k0)), rfl, rfl, hF⟩
def lwoP (l : List Ph) : Prop := DomU (.slice yP) l
theorem lwo_F (l : List Ph) (h : lwoP l) : lwoF l (fun r => r = true) := by
 have hc := chkU h
 refine ⟨hc, fun _ => rfl, fun h0 => ?_⟩
 obtain ⟨hT, hS⟩ := sxt_told hc (by simpa using h0)
 have h2 := hc.1
 have h5 := b3_eq l
 have hl := w3_len l
 have loop : ∀ (m i : Nat) (n : Int), i + m = l.length → wgH l = wg3 (l.drop i) n → lwol21 l (fun r => r = true) (m + 1) n (i : Int) := by
  intro m
  induction m with
  | zero =>
   intro i n hi he
   rw [List.drop_of_length_le om, wg3] at he
   refine ⟨fun hc => absurd (of_decide_eq_true hc) om, fun _ => ?_⟩
   rw [hS]
   refine ⟨⟨l, hT, rfl⟩, ?_⟩
   unfold wofS
   rw [rd_eq hT, he]
   simp
  | succ m ih =>
   intro i n hi he
   have hi' : i < l.length := by omega
   have h3 := w3_in (get_in default hi')
   rw [drop_get (l := l) default hi', wg3_cons] at he
   refine ⟨fun _ => ⟨by omega, by rw [Int.toNat_natCast]; omega, ?_⟩, fun hc => absurd (of_decide_eq_false hc) om⟩
   rw [Int.toNat_natCast]
   refine ⟨⟨pw (l.getD i default) + 1, by unfold pw; omega, by unfold pw; omega⟩, ?_⟩
   rw [w64 om, show (i : Int) + 1 = ((i + 1 : Nat) : Int) by omega]
   exact ih (i + 1) _ om he
 exact ⟨_, loop l.length 0 0 om (by rw [List.drop_zero]; rfl)⟩
theorem lwo_c {g : Ghost} {axl_0 : Option Addr} {cxl_0 : Nat} (xl : List PH) (hRxl_0 : Rep g (.slice yP) [.slice axl_0 xl.length cxl_0] xl) (hG0 : SomeInt g 0) (hG3 : GlobL g 3 (.int .u64) DPow)  (hp : lwoP xl) : CallsG Tryz.prog 5 #[.slice axl_0 xl.length cxl_0] g (.bool true) :=
 (lwo_ok xl hRxl_0 hG0 hG3 _ (lwo_F xl hp)).gives (by rintro g' H' v _ ⟨r0, rfl, rfl, hK⟩; subst hK; rfl)
end Go.Proofs.YtcnhdkhkadiohaaGreatDoor.Se
