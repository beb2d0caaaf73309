/- weight: what a path weighs, by the program and by the document. -/
import Derived.Test.YtcnhdkhkadiohaaGreatDoorSfs
namespace Go.Proofs.YtcnhdkhkadiohaaGreatDoor.Se
open Go Go.Eng Go.RowKit Bld Trm Css Tk Ti
set_option maxHeartbeats 4000000
set_option maxRecDepth 100000
set_option linter.unusedSimpArgs false
set_option linter.unusedVariables false
def mx (a b : Int) : Int := if a < b then b else a
mutual
def wgT : Ts → Int
 | .mk x l => if (x.1 == 1) = true then 0 else if (x.1 == 2) = true then 1 else if (x.1 == 3) = true then 1000000 else if ((x.1 == 10) || (x.1 == 11)) = true then wg3 l 0 else 1000
def wg3 : List Ph → Int → Int
 | [], m => m
 | (p, _) :: l, m => wg3 l (mx m (wg2 p 0))
def wg2 : List (List Ts) → Int → Int
 | [], n => n
 | s :: l, n => wg2 l (wg1 s n)
def wg1 : List Ts → Int → Int
 | [], n => n
 | t :: l, n => wg1 l (n + wgT t)
end
def wgP (p : Ph) : Int := wg2 p.1 0
def wgH (l : List Ph) : Int := wg3 l 0
def pw (p : Ph) : Nat := w2 p.1 + 1
theorem wgT_eq (t : Ts) : wgT t = if (t.lab.1 == 1) = true then 0 else if (t.lab.1 == 2) = true then 1 else if (t.lab.1 == 3) = true then 1000000 else if ((t.lab.1 == 10) || (t.lab.1 == 11)) = true then wgH t.kids else 1000 := by obtain ⟨x, l⟩ := t; rw [wgT]; rfl
theorem wg3_cons (q : Ph) (l : List Ph) (m : Int) : wg3 (q :: l) m = wg3 l (mx m (wgP q)) := by obtain ⟨p, js⟩ := q; rw [wg3]; rfl
def WgB (t : Ts) : Prop := 0 ≤ wgT t ∧ wgT t ≤ 1000000 * bT t
theorem wg1_bd : ∀ {s : List Ts} (h : ∀ t ∈ s, WgB t) (n : Int), n ≤ wg1 s n ∧ wg1 s n ≤ n + 1000000 * w1 s
 | [], _, n => by rw [wg1, w1]; omega
 | t :: s, h, n => by
  have ht := h t (List.mem_cons_self ..)
  have ih := wg1_bd (fun k hk => h k (List.mem_cons_of_mem _ hk)) (n + wgT t)
  obtain ⟨a, b⟩ := ht
  rw [wg1, w1]; omega
theorem wg2_bd : ∀ {p : List (List Ts)} (h : ∀ s ∈ p, ∀ t ∈ s, WgB t) (n : Int), n ≤ wg2 p n ∧ wg2 p n ≤ n + 1000000 * w2 p
 | [], _, n => by rw [wg2, w2]; omega
 | s :: p, h, n => by
  have ht := wg1_bd (h s (List.mem_cons_self ..)) n
  have ih := wg2_bd (fun k hk => h k (List.mem_cons_of_mem _ hk)) (wg1 s n)
  rw [wg2, w2]; omega
theorem mx_bd (a b U : Int) (h : a ≤ U) (h2 : b ≤ U) : a ≤ mx a b ∧ mx a b ≤ U := by unfold mx; split <;> omega
theorem wg3_bd (U : Int) : ∀ {l : List Ph} (h : ∀ q ∈ l, ∀ s ∈ q.1, ∀ t ∈ s, WgB t) (m : Int), m ≤ U → 1000000 * (w3 l : Int) ≤ U → m ≤ wg3 l m ∧ wg3 l m ≤ U
 | [], _, m, hm, _ => by rw [wg3]; omega
 | q :: l, h, m, hm, hU => by
  have ht := wg2_bd (h q (List.mem_cons_self ..)) 0
  rw [w3] at hU
  have h1 := mx_bd m (wgP q) U hm (by unfold wgP; omega)
  have ih := wg3_bd U (l := l) (fun k hk => h k (List.mem_cons_of_mem _ hk)) (mx m (wgP q)) h1.2 (by omega)
  rw [wg3_cons]; omega
theorem wgB : ∀ t : Ts, WgB t := Tst.ind fun x l ih => by
 have h := wg3_bd (1000000 * w3 l) ih 0 (by omega) (by omega)
 have hb := bT_mk x l
 have h3 := b3_eq l
 unfold WgB
 rw [wgT_eq]
 show 0 ≤ (if (x.1 == 1) = true then 0 else if (x.1 == 2) = true then 1 else if (x.1 == 3) = true then 1000000 else if ((x.1 == 10) || (x.1 == 11)) = true then wg3 l 0 else 1000) ∧ (if (x.1 == 1) = true then 0 else if (x.1 == 2) = true then 1 else if (x.1 == 3) = true then 1000000 else if ((x.1 == 10) || (x.1 == 11)) = true then wg3 l 0 else 1000) ≤ _
 split
 ·omega
 split
 ·omega
 split
 ·omega
 split <;> omega
def wtsP (N : Nat) (t : Ts) : Prop := bT t < N ∧ bT t ≤ 1048576
def wpaP (N : Nat) (p : Ph) : Prop := pw p < N ∧ pw p + p.2.length ≤ 1048576
def whvP (N : Nat) (l : List Ph) : Prop := b3 l < N ∧ b3 l ≤ 1048576
def wts_C (N : Nat) : Prop := ∀ (g : Ghost) {axt_0 : Option Addr} {cxt_0 : Nat} (xt : Tst (Int × Bs × Int × Bs × Int × Int)) (hRxt_0 : Rep g (.slice (.pair (.slice (.slice (.tst (.pair (.int .i64) (.pair (.str) (.pair (.int .u8) (.pair (.str) (.pair (.int .i64) (.int .i64))))))))) (.slice (.int .u8)))) [.slice axt_0 xt.kids.length cxt_0] xt.kids)  (hp : wtsP N xt), CallsG Tryz.prog 33 #[.agg #[.int .i64 xt.lab.1, sv xt.lab.2.1, .int .u8 xt.lab.2.2.1, sv xt.lab.2.2.2.1, .int .i64 xt.lab.2.2.2.2.1, .int .i64 xt.lab.2.2.2.2.2, .slice axt_0 xt.kids.length cxt_0]] g (.int .i64 (wgT xt))
def wpa_C (N : Nat) : Prop := ∀ (g : Ghost) {axp_0 : Option Addr} {cxp_0 : Nat} {axp_1 : Option Addr} {cxp_1 : Nat} (xp : (List (List (Tst (Int × Bs × Int × Bs × Int × Int)))) × List (Int)) (hRxp_0 : Rep g (.slice (.slice (.tst (.pair (.int .i64) (.pair (.str) (.pair (.int .u8) (.pair (.str) (.pair (.int .i64) (.int .i64))))))))) [.slice axp_0 xp.1.length cxp_0] xp.1) (hRxp_1 : Rep g (.slice (.int .u8)) [.slice axp_1 xp.2.length cxp_1] xp.2)  (hp : wpaP N xp), CallsG Tryz.prog 21 #[.agg #[.slice axp_0 xp.1.length cxp_0, .slice axp_1 xp.2.length cxp_1]] g (.int .i64 (wgP xp))
def whv_C (N : Nat) : Prop := ∀ (g : Ghost) {axl_0 : Option Addr} {cxl_0 : Nat} (xl : List ((List (List (Tst (Int × Bs × Int × Bs × Int × Int)))) × List (Int))) (hRxl_0 : Rep g (.slice (.pair (.slice (.slice (.tst (.pair (.int .i64) (.pair (.str) (.pair (.int .u8) (.pair (.str) (.pair (.int .i64) (.int .i64))))))))) (.slice (.int .u8)))) [.slice axl_0 xl.length cxl_0] xl)  (hp : whvP N xl), CallsG Tryz.prog 24 #[.slice axl_0 xl.length cxl_0] g (.int .i64 (wgH xl))
def wtsj25 (N : Nat) (xt : Tst (Int × Bs × Int × Bs × Int × Int)) (K : Int → Prop) : Prop :=
 ((((xt.lab.1 == 10) || (xt.lab.1 == 11))) = true → whvP N xt.kids ∧ K (wgH xt.kids)) ∧ ((((xt.lab.1 == 10) || (xt.lab.1 == 11))) = false → K 1000)
def wtsF (N : Nat) (xt : Tst (Int × Bs × Int × Bs × Int × Int)) (K : Int → Prop) : Prop :=
 (((xt.lab.1 == 1)) = true → K 0) ∧ (((xt.lab.1 == 1)) = false → (((xt.lab.1 == 2)) = true → K 1) ∧ (((xt.lab.1 == 2)) = false → (((xt.lab.1 == 3)) = true → K 1000000) ∧ (((xt.lab.1 == 3)) = false → (((xt.lab.1 == 10)) = true → wtsj25 N xt K) ∧ (((xt.lab.1 == 10)) = false → wtsj25 N xt K))))
theorem wts_ok {g : Ghost} (N : Nat) (ih_wts : wts_C N) (ih_wpa : wpa_C N) (ih_whv : whv_C N) {axt_0 : Option Addr} {cxt_0 : Nat} (xt : Tst (Int × Bs × Int × Bs × Int × Int)) (hRxt_0 : Rep g (.slice (.pair (.slice (.slice (.tst (.pair (.int .i64) (.pair (.str) (.pair (.int .u8) (.pair (.str) (.pair (.int .i64) (.int .i64))))))))) (.slice (.int .u8)))) [.slice axt_0 xt.kids.length cxt_0] xt.kids) (K : Int → Prop)
  (hF : wtsF N xt K) : CallsH Tryz.prog 33 #[.agg #[.int .i64 xt.lab.1, sv xt.lab.2.1, .int .u8 xt.lab.2.2.1, sv xt.lab.2.2.2.1, .int .i64 xt.lab.2.2.2.2.1, .int .i64 xt.lab.2.2.2.2.2, .slice axt_0 xt.kids.length cxt_0]] g [] (fun g' H' v => ∃ (r0 : Int), v = .int .i64 r0 ∧ H' = [] ∧ K r0) := by
 refine CallsH.enter 17 [(0, .agg #[.int .i64 xt.lab.1, sv xt.lab.2.1, .int .u8 xt.lab.2.2.1, sv xt.lab.2.2.2.1, .int .i64 xt.lab.2.2.2.2.1, .int .i64 xt.lab.2.2.2.2.2, .slice axt_0 xt.kids.length cxt_0])] Tryz.func33 rfl (by kernel_rfl) (by kernel_rfl) (by kernel_rfl) fun w0 => ?_
 refine Ok.seq (Ok.region (Ok.op rfl (OpOk.box (v := .agg #[.int .i64 xt.lab.1, sv xt.lab.2.1, .int .u8 xt.lab.2.2.1, sv xt.lab.2.2.2.1, .int .i64 xt.lab.2.2.2.2.1, .int .i64 xt.lab.2.2.2.2.2, .slice axt_0 xt.kids.length cxt_0]) (cs := #[.int .i64 xt.lab.1, sv xt.lab.2.1, .int .u8 xt.lab.2.2.1, sv xt.lab.2.2.2.1, .int .i64 xt.lab.2.2.2.2.1, .int .i64 xt.lab.2.2.2.2.2, .slice axt_0 xt.kids.length cxt_0]) rfl (by kernel_rfl) rfl fun bs1 => ?_)))
 refine Ok.batch 1 [(1, pv bs1 0)] (by kernel_rfl) (Ok.nil (Ok.thenN (Ok.seq (Ok.seq (Ok.region (Ok.bat 1 [1] [(3, pv bs1 0)] ?_))))))
 refine Ok.op rfl (OpOk.step (v := .int .i64 xt.lab.1) (Yields.load 0 rfl rfl Tryz.underlying3 rfl (by kernel_rfl)) rfl rfl (Ok.nil (Ok.thenN (Ok.block (Ok.seq (Ok.region (Ok.bat 2 [1] [(4, .int .i64 xt.lab.1), (5, .bool (xt.lab.1 == 1))] ?_)))))))
 refine Ok.nil (Ok.thenN (Ok.cond (b := (xt.lab.1 == 1)) rfl (fun hc2 => ?_) (fun hc2 => ?_)))
 ·replace hF := hF.1 hc2
  refine Ok.seq (Ok.region (Ok.batch 1 [(2, .int .i64 0)] (by kernel_rfl) (Ok.nil (Ok.thenN (Ok.ret (Ok.blockR (Ok.thenR ?_)))))))
  exact Ok.resP (vs := [.int .i64 0]) [] [] (by decide) rfl (.inl rfl) rfl (.cons (.tmp rfl) .nil) (Gext.refl w0 g) ⟨0, rfl, rfl, hF⟩
 ·replace hF := hF.2 hc2
  refine Ok.seq (Ok.region (Ok.bat 2 [1, 4] [(7, .bool (xt.lab.1 == 2))] ?_))
  refine Ok.nil (Ok.thenN (Ok.cond (b := (xt.lab.1 == 2)) rfl (fun hc3 => ?_) (fun hc3 => ?_)))
  ·replace hF := hF.1 hc3
   refine Ok.seq (Ok.region (Ok.batch 1 [(2, .int .i64 1)] (by kernel_rfl) (Ok.nil (Ok.thenN (Ok.ret (Ok.blockR (Ok.thenR ?_)))))))
   exact Ok.resP (vs := [.int .i64 1]) [] [] (by decide) rfl (.inl rfl) rfl (.cons (.tmp rfl) .nil) (Gext.refl w0 g) ⟨1, rfl, rfl, hF⟩
  ·replace hF := hF.2 hc3
   refine Ok.seq (Ok.region (Ok.bat 2 [1, 4] [(9, .bool (xt.lab.1 == 3))] ?_))
   refine Ok.nil (Ok.thenN (Ok.cond (b := (xt.lab.1 == 3)) rfl (fun hc4 => ?_) (fun hc4 => ?_)))
   ·replace hF := hF.1 hc4
    refine Ok.seq (Ok.region (Ok.batch 1 [(2, .int .i64 1000000)] (by kernel_rfl) (Ok.nil (Ok.thenN (Ok.ret (Ok.blockR (Ok.thenR ?_)))))))
    exact Ok.resP (vs := [.int .i64 1000000]) [] [] (by decide) rfl (.inl rfl) rfl (.cons (.tmp rfl) .nil) (Gext.refl w0 g) ⟨1000000, rfl, rfl, hF⟩
   ·replace hF := hF.2 hc4
    refine Ok.cut (fun a W => StA 17 [(1, pv bs1 0), (11, .bool ((xt.lab.1 == 10) || (xt.lab.1 == 11)))] a ∧ StW w0 [.blk bs1 (.cells #[.int .i64 xt.lab.1, sv xt.lab.2.1, .int .u8 xt.lab.2.2.1, sv xt.lab.2.2.2.1, .int .i64 xt.lab.2.2.2.2.1, .int .i64 xt.lab.2.2.2.2.2, .slice axt_0 xt.kids.length cxt_0] 48)] g W ∧ wtsj25 N xt K) ?_ ?_
    ·
     refine Ok.seq (Ok.region (Ok.bat 2 [1, 4] [(11, .bool (xt.lab.1 == 10))] ?_))
     refine Ok.nil (Ok.thenN (Ok.cond (b := (xt.lab.1 == 10)) rfl (fun hc7 => ?_) (fun hc7 => ?_)))
     ·replace hF := hF.1 hc7
      refine Ok.skip (Ok.thenN (Ok.reval 11 rfl (show (.bool (xt.lab.1 == 10) : Value) = .bool ((xt.lab.1 == 10) || (xt.lab.1 == 11)) from congrArg (Value.bool) ((Eq.trans (hc7) (mor_t hc7)))) ?_))
      exact fun a W hA hW => ⟨hA.sub (by kernel_rfl), hW, hF⟩
     ·replace hF := hF.2 hc7
      refine Ok.region (Ok.bat 2 [1] [(11, .bool (xt.lab.1 == 11))] ?_)
      refine Ok.nil (Ok.thenN (Ok.reval 11 rfl (show (.bool (xt.lab.1 == 11) : Value) = .bool ((xt.lab.1 == 10) || (xt.lab.1 == 11)) from congrArg (Value.bool) (mor_f hc7)) ?_))
      exact fun a W hA hW => ⟨hA.sub (by kernel_rfl), hW, hF⟩
    ·
     clear hF
     rintro a W ⟨hA, hW, hF⟩
     refine (?_ : Ok _ _ _ _ _ _) a W hA hW
     clear hA hW
     refine Ok.cond (b := ((xt.lab.1 == 10) || (xt.lab.1 == 11))) rfl (fun hc5 => ?_) (fun hc5 => ?_)
     ·replace hF := hF.1 hc5
      refine Ok.seq (Ok.region (Ok.batch 1 [(14, pv bs1 6)] (by kernel_rfl) (Ok.op rfl (OpOk.step (v := .slice axt_0 xt.kids.length cxt_0) (Yields.load 0 rfl rfl Tryz.underlying29 rfl (by kernel_rfl)) rfl rfl ?_))))
      obtain ⟨hp6, hF⟩ := hF
      refine Ok.op rfl (OpOk.callG (v := .int .i64 (wgH xt.kids)) enr (fun W hW => ih_whv _ xt.kids (hRxt_0.mono hW.sees) hp6) rfl ?_)
      refine Ok.batch 1 [(2, .int .i64 (wgH xt.kids))] (by kernel_rfl) (Ok.nil (Ok.thenN (Ok.ret (Ok.blockR (Ok.thenR ?_)))))
      exact Ok.resP (vs := [.int .i64 (wgH xt.kids)]) [] [] (by decide) rfl (.inl rfl) rfl (.cons (.tmp rfl) .nil) (Gext.refl w0 g) ⟨(wgH xt.kids), rfl, rfl, hF⟩
     ·replace hF := hF.2 hc5
      refine Ok.skip (Ok.blockN (Ok.thenN (Ok.seq (Ok.region (Ok.batch 1 [(2, .int .i64 1000)] (by kernel_rfl) (Ok.nil (Ok.thenN (Ok.ret ?_))))))))
      exact Ok.resP (vs := [.int .i64 1000]) [] [] (by decide) rfl (.inl rfl) rfl (.cons (.tmp rfl) .nil) (Gext.refl w0 g) ⟨1000, rfl, rfl, hF⟩
def wpal23b (N : Nat) (e4 : List (Tst (Int × Bs × Int × Bs × Int × Int))) (x11l9 : Int) (C9 : Int → Int → Prop) (x3l23 : Int) (x17l23 : Int) (C23 : Int → Int → Prop) : Prop :=
 ((decide (x17l23 < (e4.length : Int))) = true → (0 : Int) ≤ x17l23 ∧ Int.toNat x17l23 < e4.length ∧ wtsP N (e4.getD (Int.toNat x17l23) default) ∧ C23 (w6 (x3l23 + (wgT (e4.getD (Int.toNat x17l23) default)))) (w6 (x17l23 + 1))) ∧ ((decide (x17l23 < (e4.length : Int))) = false → C9 x3l23 (w6 (x11l9 + 1)))
def wpal23 (N : Nat) (e4 : List (Tst (Int × Bs × Int × Bs × Int × Int))) (x11l9 : Int) (C9 : Int → Int → Prop) : Nat → Int → Int → Prop
 | 0, _, _ => False
 | k + 1, x3l23, x17l23 => wpal23b N e4 x11l9 C9 x3l23 x17l23 (wpal23 N e4 x11l9 C9 k)
def wpal9b (N : Nat) (xp : (List (List (Tst (Int × Bs × Int × Bs × Int × Int)))) × List (Int)) (K : Int → Prop) (x3l9 : Int) (x11l9 : Int) (C9 : Int → Int → Prop) : Prop :=
 ((decide (x11l9 < (xp.1.length : Int))) = true → (0 : Int) ≤ x11l9 ∧ Int.toNat x11l9 < xp.1.length ∧ ∃ k, wpal23 N (xp.1.getD (Int.toNat x11l9) default) x11l9 C9 k x3l9 0) ∧ ((decide (x11l9 < (xp.1.length : Int))) = false → K x3l9)
def wpal9 (N : Nat) (xp : (List (List (Tst (Int × Bs × Int × Bs × Int × Int)))) × List (Int)) (K : Int → Prop) : Nat → Int → Int → Prop
 | 0, _, _ => False
 | k + 1, x3l9, x11l9 => wpal9b N xp K x3l9 x11l9 (wpal9 N xp K k)
def wpaF (N : Nat) (xp : (List (List (Tst (Int × Bs × Int × Bs × Int × Int)))) × List (Int)) (K : Int → Prop) : Prop :=
 ∃ k, wpal9 N xp K k 0 0
theorem wpa_ok {g : Ghost} (N : Nat) (ih_wts : wts_C N) (ih_wpa : wpa_C N) (ih_whv : whv_C N) {axp_0 : Option Addr} {cxp_0 : Nat} {axp_1 : Option Addr} {cxp_1 : Nat} (xp : (List (List (Tst (Int × Bs × Int × Bs × Int × Int)))) × List (Int)) (hRxp_0 : Rep g (.slice (.slice (.tst (.pair (.int .i64) (.pair (.str) (.pair (.int .u8) (.pair (.str) (.pair (.int .i64) (.int .i64))))))))) [.slice axp_0 xp.1.length cxp_0] xp.1) (hRxp_1 : Rep g (.slice (.int .u8)) [.slice axp_1 xp.2.length cxp_1] xp.2) (K : Int → Prop)
  (hF : wpaF N xp K) : CallsH Tryz.prog 21 #[.agg #[.slice axp_0 xp.1.length cxp_0, .slice axp_1 xp.2.length cxp_1]] g [] (fun g' H' v => ∃ (r0 : Int), v = .int .i64 r0 ∧ H' = [] ∧ K r0) := by
 refine CallsH.enter 28 [(0, .agg #[.slice axp_0 xp.1.length cxp_0, .slice axp_1 xp.2.length cxp_1])] Tryz.func21 rfl (by kernel_rfl) (by kernel_rfl) (by kernel_rfl) fun w0 => ?_
 refine Ok.seq (Ok.region (Ok.op rfl (OpOk.box (v := .agg #[.slice axp_0 xp.1.length cxp_0, .slice axp_1 xp.2.length cxp_1]) (cs := #[.slice axp_0 xp.1.length cxp_0, .slice axp_1 xp.2.length cxp_1]) rfl (by kernel_rfl) rfl fun bs1 => ?_)))
 refine Ok.batch 1 [(1, pv bs1 0)] (by kernel_rfl) (Ok.nil (Ok.thenN (Ok.seq (Ok.region (Ok.bat 1 [1] [(3, .int .i64 0)] ?_)))))
 refine Ok.nil (Ok.thenN (Ok.seq (Ok.seq (Ok.region (Ok.bat 1 [3] [(8, pv bs1 0)] ?_)))))
 refine Ok.op rfl (OpOk.step (v := .slice axp_0 xp.1.length cxp_0) (Yields.load 0 rfl rfl Tryz.underlying22 rfl (by kernel_rfl)) rfl rfl (Ok.bat 2 [3] [(9, .slice axp_0 xp.1.length cxp_0), (10, .int .i64 (xp.1.length : Int)), (11, .int .i64 0)] ?_))
 refine Ok.nil (Ok.thenN (Ok.block ?_))
 obtain ⟨k, hF⟩ := hF
 refine Ok.loop (fun k a W => ∃ (x3l9 : Int) (x11l9 : Int), StA 28 [(3, .int .i64 x3l9), (9, .slice axp_0 xp.1.length cxp_0), (10, .int .i64 (xp.1.length : Int)), (11, .int .i64 x11l9)] a ∧ StW w0 [] g W ∧ wpal9 N xp K k x3l9 x11l9) k ?_ ?_
 ·
  exact fun a W hA hW => ⟨0, 0, hA.sub (by kernel_rfl), hW.sub (.cons _ .slnil), hF⟩
 ·
  clear hF
  rintro k9 a W ⟨x3l9, x11l9, hA, hW, hF⟩
  cases k9 with
  | zero => exact (hF : False).elim
  | succ k9 =>
   refine (?_ : Ok _ _ _ _ _ _) a W hA hW
   clear hA hW
   refine Ok.seq (Ok.region (Ok.bat 1 [3, 9, 10, 11] [(12, .bool (decide (x11l9 < (xp.1.length : Int))))] ?_))
   refine Ok.nil (Ok.thenN (Ok.seq (Ok.cond (b := decide (x11l9 < (xp.1.length : Int))) rfl (fun hc2 => ?_) (fun hc2 => ?_))))
   ·replace hF := hF.1 hc2
    refine Ok.skip (Ok.thenN (Ok.seq (Ok.block (Ok.seq (Ok.region ?_)))))
    obtain ⟨h04, h14, hF⟩ := hF
    have he4 := get_of (l := xp.1) (default : List (Tst (Int × Bs × Int × Bs × Int × Int))) h14
    generalize hg4 : (xp.1.getD (Int.toNat x11l9) default) = e4 at he4 hF ⊢
    refine Ok.op rfl (OpOk.indexRo (e := .slice (.tst (.pair (.int .i64) (.pair (.str) (.pair (.int .u8) (.pair (.str) (.pair (.int .i64) (.int .i64)))))))) (i := x11l9) (el := e4) rfl rfl Tryz.underlying22 (by kernel_rfl) hRxp_0 h04 he4 rfl fun q3 o3 cs3 _ hat3 hr3 => ?_)
    obtain ⟨a3_0, c3_0, rfl, hm3_0, hr3_0⟩ := hr3
    have hR3_0 : Rep g (.slice (.tst (.pair (.int .i64) (.pair (.str) (.pair (.int .u8) (.pair (.str) (.pair (.int .i64) (.int .i64)))))))) [.slice a3_0 e4.length c3_0] e4 := ⟨a3_0, c3_0, rfl, hm3_0, hr3_0⟩
    replace hat3 : At g q3 o3 [.slice a3_0 e4.length c3_0] := hat3
    refine Ok.op rfl (OpOk.step (v := .slice a3_0 e4.length c3_0) (Yields.loadRo 0 hat3 (by kernel_rfl) Tryz.underlying41 rfl (by kernel_rfl)) rfl rfl (Ok.bat 1 [3, 9, 10, 11] [(5, .slice a3_0 e4.length c3_0)] ?_))
    refine Ok.nil (Ok.thenN (Ok.seq (Ok.region (Ok.bat 3 [3, 9, 10, 11] [(15, .slice a3_0 e4.length c3_0), (16, .int .i64 (e4.length : Int)), (17, .int .i64 0)] ?_))))
    refine Ok.nil (Ok.thenN (Ok.block ?_))
    obtain ⟨k, hF⟩ := hF
    refine Ok.loop (fun k a W => ∃ (x3l23 : Int) (x17l23 : Int), StA 28 [(3, .int .i64 x3l23), (9, .slice axp_0 xp.1.length cxp_0), (10, .int .i64 (xp.1.length : Int)), (11, .int .i64 x11l9), (15, .slice a3_0 e4.length c3_0), (16, .int .i64 (e4.length : Int)), (17, .int .i64 x17l23)] a ∧ StW w0 [] g W ∧ wpal23 N e4 x11l9 (wpal9 N xp K k9) k x3l23 x17l23) k ?_ ?_
    ·
     exact fun a W hA hW => ⟨x3l9, 0, hA.sub (by kernel_rfl), hW, hF⟩
    ·
     clear hF
     rintro k23 a W ⟨x3l23, x17l23, hA, hW, hF⟩
     cases k23 with
     | zero => exact (hF : False).elim
     | succ k23 =>
      refine (?_ : Ok _ _ _ _ _ _) a W hA hW
      clear hA hW
      refine Ok.seq (Ok.region (Ok.bat 1 [3, 9, 10, 11, 15, 16, 17] [(18, .bool (decide (x17l23 < (e4.length : Int))))] ?_))
      refine Ok.nil (Ok.thenN (Ok.seq (Ok.cond (b := decide (x17l23 < (e4.length : Int))) rfl (fun hc5 => ?_) (fun hc5 => ?_))))
      ·replace hF := hF.1 hc5
       refine Ok.skip (Ok.thenN (Ok.seq (Ok.block (Ok.seq (Ok.region ?_)))))
       obtain ⟨h07, h17, hF⟩ := hF
       have he7 := get_of (l := e4) (default : Tst (Int × Bs × Int × Bs × Int × Int)) h17
       generalize hg7 : (e4.getD (Int.toNat x17l23) default) = e7 at he7 hF ⊢
       refine Ok.op rfl (OpOk.indexRo (e := .tst (.pair (.int .i64) (.pair (.str) (.pair (.int .u8) (.pair (.str) (.pair (.int .i64) (.int .i64))))))) (i := x17l23) (el := e7) rfl rfl Tryz.underlying41 (by kernel_rfl) hR3_0 h07 he7 rfl fun q6 o6 cs6 _ hat6 hr6 => ?_)
       have hT6_0 := hr6
       replace hT6_0 := Rep.tst.1 hT6_0
       obtain ⟨_, _, rfl, ⟨_, _, rfl, rfl, ⟨_, _, rfl, rfl, ⟨_, _, rfl, rfl, ⟨_, _, rfl, rfl, ⟨_, _, rfl, rfl, rfl⟩⟩⟩⟩⟩, ⟨a6_6, c6_6, rfl, hm6_6, hr6_6⟩⟩ := hT6_0
       have hR6_6 : Rep g (.slice (.pair (.slice (.slice (.tst (.pair (.int .i64) (.pair (.str) (.pair (.int .u8) (.pair (.str) (.pair (.int .i64) (.int .i64))))))))) (.slice (.int .u8)))) [.slice a6_6 e7.kids.length c6_6] e7.kids := ⟨a6_6, c6_6, rfl, hm6_6, hr6_6⟩
       replace hat6 : At g q6 o6 [.int .i64 e7.lab.1, sv e7.lab.2.1, .int .u8 e7.lab.2.2.1, sv e7.lab.2.2.2.1, .int .i64 e7.lab.2.2.2.2.1, .int .i64 e7.lab.2.2.2.2.2, .slice a6_6 e7.kids.length c6_6] := hat6
       refine Ok.op rfl (OpOk.step (v := .agg #[.int .i64 e7.lab.1, sv e7.lab.2.1, .int .u8 e7.lab.2.2.1, sv e7.lab.2.2.2.1, .int .i64 e7.lab.2.2.2.2.1, .int .i64 e7.lab.2.2.2.2.2, .slice a6_6 e7.kids.length c6_6]) (Yields.loadAggRo 0 7 #[.int .i64 e7.lab.1, sv e7.lab.2.1, .int .u8 e7.lab.2.2.1, sv e7.lab.2.2.2.1, .int .i64 e7.lab.2.2.2.2.1, .int .i64 e7.lab.2.2.2.2.2, .slice a6_6 e7.kids.length c6_6] hat6 (by kernel_rfl) Tryz.underlying48 rfl (by kernel_rfl) (by kernel_rfl) (by kernel_rfl)) rfl rfl (Ok.op rfl (OpOk.alloc (z := .agg #[.int .i64 0, sv ([] : Bs), .int .u8 0, sv ([] : Bs), .int .i64 0, .int .i64 0, .slice none 0 0]) (cs := #[.int .i64 0, sv ([] : Bs), .int .u8 0, sv ([] : Bs), .int .i64 0, .int .i64 0, .slice none 0 0]) (by kernel_rfl) (by kernel_rfl) rfl fun bs7 => ?_)))
       refine Ok.op rfl (OpOk.sto (k := 7) (v := .agg #[.int .i64 e7.lab.1, sv e7.lab.2.1, .int .u8 e7.lab.2.2.1, sv e7.lab.2.2.2.1, .int .i64 e7.lab.2.2.2.2.1, .int .i64 e7.lab.2.2.2.2.2, .slice a6_6 e7.kids.length c6_6]) 0 #[.int .i64 e7.lab.1, sv e7.lab.2.1, .int .u8 e7.lab.2.2.1, sv e7.lab.2.2.2.1, .int .i64 e7.lab.2.2.2.2.1, .int .i64 e7.lab.2.2.2.2.2, .slice a6_6 e7.kids.length c6_6] rfl rfl rfl ?_)
       refine Ok.nil (Ok.thenN (Ok.region (Ok.bat 1 [9, 10, 11, 15, 16, 17] [(7, pv bs7 0), (21, .int .i64 x3l23)] ?_)))
       refine Ok.op rfl (OpOk.step (v := .agg #[.int .i64 e7.lab.1, sv e7.lab.2.1, .int .u8 e7.lab.2.2.1, sv e7.lab.2.2.2.1, .int .i64 e7.lab.2.2.2.2.1, .int .i64 e7.lab.2.2.2.2.2, .slice a6_6 e7.kids.length c6_6]) (Yields.loadAgg 0 7 #[.int .i64 e7.lab.1, sv e7.lab.2.1, .int .u8 e7.lab.2.2.1, sv e7.lab.2.2.2.1, .int .i64 e7.lab.2.2.2.2.1, .int .i64 e7.lab.2.2.2.2.2, .slice a6_6 e7.kids.length c6_6] rfl rfl Tryz.underlying48 rfl (by kernel_rfl) (by kernel_rfl) (by kernel_rfl)) rfl rfl ?_)
       obtain ⟨hp9, hF⟩ := hF
       refine Ok.op rfl (OpOk.callG (v := .int .i64 (wgT e7)) enr (fun W hW => ih_wts _ e7 (hR6_6.mono hW.sees) hp9) rfl ?_)
       refine Ok.bat 2 [9, 10, 11, 15, 16, 17] [(3, .int .i64 (w6 (x3l23 + (wgT e7))))] ?_
       refine Ok.nil (Ok.blockN (Ok.thenN (Ok.region (Ok.bat 2 [3, 9, 10, 11, 15, 16] [(17, .int .i64 (w6 (x17l23 + 1)))] ?_))))
       refine Ok.nil (Ok.thenN ?_)
       subst hg7
       exact fun a W hA hW => ⟨k23, Nat.lt_succ_self _, w6 (x3l23 + (wgT (e4.getD (Int.toNat x17l23) default))), w6 (x17l23 + 1), hA.sub (by kernel_rfl), hW.sub (.cons _ .slnil), hF⟩
      ·replace hF := hF.2 hc5
       refine Ok.exit (Ok.thenE (Ok.thenE (Ok.blockHit (Ok.blockN (Ok.thenN (Ok.region (Ok.bat 2 [3, 9, 10] [(11, .int .i64 (w6 (x11l9 + 1)))] ?_)))))))
       refine Ok.nil (Ok.thenN ?_)
       subst hg4
       exact fun a W hA hW => ⟨k9, Nat.lt_succ_self _, x3l23, w6 (x11l9 + 1), hA.sub (by kernel_rfl), hW, hF⟩
   ·replace hF := hF.2 hc2
    refine Ok.exit (Ok.thenE (Ok.thenE (Ok.blockHit (Ok.thenN (Ok.seq (Ok.region (Ok.batch 2 [(2, .int .i64 x3l9)] (by kernel_rfl) (Ok.nil (Ok.thenN (Ok.ret ?_))))))))))
    exact Ok.resH (vs := [.int .i64 x3l9]) (.inl rfl) rfl (.cons (.tmp rfl) .nil) (Gext.refl w0 g) ⟨x3l9, rfl, rfl, hF⟩
def whvl9b (N : Nat) (xl : List ((List (List (Tst (Int × Bs × Int × Bs × Int × Int)))) × List (Int))) (K : Int → Prop) (x3l9 : Int) (x8l9 : Int) (C9 : Int → Int → Prop) : Prop :=
 ((decide (x8l9 < (xl.length : Int))) = true → (0 : Int) ≤ x8l9 ∧ Int.toNat x8l9 < xl.length ∧ wpaP N (xl.getD (Int.toNat x8l9) default) ∧ C9 (if x3l9 < (wgP (xl.getD (Int.toNat x8l9) default)) then (wgP (xl.getD (Int.toNat x8l9) default)) else x3l9) (w6 (x8l9 + 1))) ∧ ((decide (x8l9 < (xl.length : Int))) = false → K x3l9)
def whvl9 (N : Nat) (xl : List ((List (List (Tst (Int × Bs × Int × Bs × Int × Int)))) × List (Int))) (K : Int → Prop) : Nat → Int → Int → Prop
 | 0, _, _ => False
 | k + 1, x3l9, x8l9 => whvl9b N xl K x3l9 x8l9 (whvl9 N xl K k)
def whvF (N : Nat) (xl : List ((List (List (Tst (Int × Bs × Int × Bs × Int × Int)))) × List (Int))) (K : Int → Prop) : Prop :=
 ∃ k, whvl9 N xl K k 0 0
theorem whv_ok {g : Ghost} (N : Nat) (ih_wts : wts_C N) (ih_wpa : wpa_C N) (ih_whv : whv_C N) {axl_0 : Option Addr} {cxl_0 : Nat} (xl : List ((List (List (Tst (Int × Bs × Int × Bs × Int × Int)))) × List (Int))) (hRxl_0 : Rep g (.slice (.pair (.slice (.slice (.tst (.pair (.int .i64) (.pair (.str) (.pair (.int .u8) (.pair (.str) (.pair (.int .i64) (.int .i64))))))))) (.slice (.int .u8)))) [.slice axl_0 xl.length cxl_0] xl) (K : Int → Prop)
  (hF : whvF N xl K) : CallsH Tryz.prog 24 #[.slice axl_0 xl.length cxl_0] g [] (fun g' H' v => ∃ (r0 : Int), v = .int .i64 r0 ∧ H' = [] ∧ K r0) := by
 refine CallsH.enter 18 [(0, .slice axl_0 xl.length cxl_0)] Tryz.func24 rfl (by kernel_rfl) (by kernel_rfl) (by kernel_rfl) fun w0 => ?_
 refine Ok.seq (Ok.region (Ok.batch 1 [(0, .slice axl_0 xl.length cxl_0)] (by kernel_rfl) (Ok.nil (Ok.thenN (Ok.seq (Ok.region (Ok.bat 1 [0] [(3, .int .i64 0)] ?_)))))))
 refine Ok.nil (Ok.thenN (Ok.seq (Ok.seq (Ok.region (Ok.bat 3 [3] [(6, .slice axl_0 xl.length cxl_0), (7, .int .i64 (xl.length : Int)), (8, .int .i64 0)] ?_)))))
 refine Ok.nil (Ok.thenN (Ok.block ?_))
 obtain ⟨k, hF⟩ := hF
 refine Ok.loop (fun k a W => ∃ (x3l9 : Int) (x8l9 : Int), StA 18 [(3, .int .i64 x3l9), (6, .slice axl_0 xl.length cxl_0), (7, .int .i64 (xl.length : Int)), (8, .int .i64 x8l9)] a ∧ StW w0 [] g W ∧ whvl9 N xl K k x3l9 x8l9) k ?_ ?_
 ·
  exact fun a W hA hW => ⟨0, 0, hA.sub (by kernel_rfl), hW, hF⟩
 ·
  clear hF
  rintro k9 a W ⟨x3l9, x8l9, hA, hW, hF⟩
  cases k9 with
  | zero => exact (hF : False).elim
  | succ k9 =>
   refine (?_ : Ok _ _ _ _ _ _) a W hA hW
   clear hA hW
   refine Ok.seq (Ok.region (Ok.bat 1 [3, 6, 7, 8] [(9, .bool (decide (x8l9 < (xl.length : Int))))] ?_))
   refine Ok.nil (Ok.thenN (Ok.seq (Ok.cond (b := decide (x8l9 < (xl.length : Int))) rfl (fun hc1 => ?_) (fun hc1 => ?_))))
   ·replace hF := hF.1 hc1
    refine Ok.skip (Ok.thenN (Ok.seq (Ok.block (Ok.seq (Ok.region ?_)))))
    obtain ⟨h03, h13, hF⟩ := hF
    have he3 := get_of (l := xl) (default : (List (List (Tst (Int × Bs × Int × Bs × Int × Int)))) × List (Int)) h13
    generalize hg3 : (xl.getD (Int.toNat x8l9) default) = e3 at he3 hF ⊢
    refine Ok.op rfl (OpOk.indexRo (e := .pair (.slice (.slice (.tst (.pair (.int .i64) (.pair (.str) (.pair (.int .u8) (.pair (.str) (.pair (.int .i64) (.int .i64))))))))) (.slice (.int .u8))) (i := x8l9) (el := e3) rfl rfl Tryz.underlying29 (by kernel_rfl) hRxl_0 h03 he3 rfl fun q2 o2 cs2 _ hat2 hr2 => ?_)
    obtain ⟨_, _, rfl, ⟨a2_0, c2_0, rfl, hm2_0, hr2_0⟩, ⟨a2_1, c2_1, rfl, hm2_1, hr2_1⟩⟩ := hr2
    have hR2_0 : Rep g (.slice (.slice (.tst (.pair (.int .i64) (.pair (.str) (.pair (.int .u8) (.pair (.str) (.pair (.int .i64) (.int .i64))))))))) [.slice a2_0 e3.1.length c2_0] e3.1 := ⟨a2_0, c2_0, rfl, hm2_0, hr2_0⟩
    have hR2_1 : Rep g (.slice (.int .u8)) [.slice a2_1 e3.2.length c2_1] e3.2 := ⟨a2_1, c2_1, rfl, hm2_1, hr2_1⟩
    replace hat2 : At g q2 o2 [.slice a2_0 e3.1.length c2_0, .slice a2_1 e3.2.length c2_1] := hat2
    refine Ok.op rfl (OpOk.step (v := .agg #[.slice a2_0 e3.1.length c2_0, .slice a2_1 e3.2.length c2_1]) (Yields.loadAggRo 0 2 #[.slice a2_0 e3.1.length c2_0, .slice a2_1 e3.2.length c2_1] hat2 (by kernel_rfl) Tryz.underlying25 rfl (by kernel_rfl) (by kernel_rfl) (by kernel_rfl)) rfl rfl (Ok.op rfl (OpOk.alloc (z := .agg #[.slice none 0 0, .slice none 0 0]) (cs := #[.slice none 0 0, .slice none 0 0]) (by kernel_rfl) (by kernel_rfl) rfl fun bs5 => ?_)))
    refine Ok.op rfl (OpOk.sto (k := 2) (v := .agg #[.slice a2_0 e3.1.length c2_0, .slice a2_1 e3.2.length c2_1]) 0 #[.slice a2_0 e3.1.length c2_0, .slice a2_1 e3.2.length c2_1] rfl rfl rfl ?_)
    refine Ok.nil (Ok.thenN (Ok.region (Ok.bat 1 [6, 7, 8] [(5, pv bs5 0), (12, .int .i64 x3l9)] ?_)))
    refine Ok.op rfl (OpOk.step (v := .agg #[.slice a2_0 e3.1.length c2_0, .slice a2_1 e3.2.length c2_1]) (Yields.loadAgg 0 2 #[.slice a2_0 e3.1.length c2_0, .slice a2_1 e3.2.length c2_1] rfl rfl Tryz.underlying25 rfl (by kernel_rfl) (by kernel_rfl) (by kernel_rfl)) rfl rfl ?_)
    obtain ⟨hp5, hF⟩ := hF
    refine Ok.op rfl (OpOk.callG (v := .int .i64 (wgP e3)) enr (fun W hW => ih_wpa _ e3 (hR2_0.mono hW.sees) (hR2_1.mono hW.sees) hp5) rfl ?_)
    refine Ok.bat 2 [6, 7, 8] [(3, .int .i64 (if x3l9 < (wgP e3) then (wgP e3) else x3l9))] ?_
    refine Ok.nil (Ok.blockN (Ok.thenN (Ok.region (Ok.bat 2 [3, 6, 7] [(8, .int .i64 (w6 (x8l9 + 1)))] ?_))))
    refine Ok.nil (Ok.thenN ?_)
    subst hg3
    exact fun a W hA hW => ⟨k9, Nat.lt_succ_self _, (if x3l9 < (wgP (xl.getD (Int.toNat x8l9) default)) then (wgP (xl.getD (Int.toNat x8l9) default)) else x3l9), w6 (x8l9 + 1), hA.sub (by kernel_rfl), hW.sub (.cons _ .slnil), hF⟩
   ·replace hF := hF.2 hc1
    refine Ok.exit (Ok.thenE (Ok.thenE (Ok.blockHit (Ok.thenN (Ok.seq (Ok.region (Ok.batch 2 [(2, .int .i64 x3l9)] (by kernel_rfl) (Ok.nil (Ok.thenN (Ok.ret ?_))))))))))
    exact Ok.resH (vs := [.int .i64 x3l9]) (.inl rfl) rfl (.cons (.tmp rfl) .nil) (Gext.refl w0 g) ⟨x3l9, rfl, rfl, hF⟩
theorem wts_0 (t : Ts) : ¬ wtsP 0 t := fun h => absurd h.1 (Nat.not_lt_zero _)
theorem wpa_0 (p : Ph) : ¬ wpaP 0 p := fun h => absurd h.1 (Nat.not_lt_zero _)
theorem whv_0 (l : List Ph) : ¬ whvP 0 l := fun h => absurd h.1 (Nat.not_lt_zero _)
theorem wts_F (N : Nat) (t : Ts) (h : wtsP (N + 1) t) : wtsF N t (fun r => r = wgT t) := by
 have e := wgT_eq t
 have hb := bT_kids t
 obtain ⟨h1, h2⟩ := h
 refine ⟨fun c1 => by rw [e, if_t c1], fun c1 => ⟨fun c2 => by rw [e, if_f c1, if_t c2], fun c2 => ⟨fun c3 => by rw [e, if_f c1, if_f c2, if_t c3], fun c3 => ?_⟩⟩⟩
 rw [if_f c1, if_f c2, if_f c3] at e
 have j : wtsj25 N t (fun r => r = wgT t) := ⟨fun c => ⟨⟨by omega, by omega⟩, by rw [e, if_t c]⟩, fun c => by rw [e, if_f c]⟩
 exact ⟨fun _ => j, fun _ => j⟩
theorem wpa23 {N : Nat} {r : Int} (s : List Ts) (hs : ∀ t ∈ s, wtsP N t) (hl : s.length ≤ 1048576) (k : Int) (C : Int → Int → Prop) (F : Int → Int) (U : Int) (hU : U ≤ 1000000000000000)
  (hC : ∀ n, 0 ≤ n → n ≤ U → r = F n → C n (w6 (k + 1))) : ∀ (m i : Nat) (n : Int), i + m = s.length → 0 ≤ n → n + 1000000 * w1 (s.drop i) ≤ U → r = F (wg1 (s.drop i) n) → wpal23 N s k C (m + 1) n (i : Int) := by
 intro m
 induction m with
 | zero =>
  intro i n hi hn hu he
  rw [List.drop_of_length_le (by omega)] at he hu
  rw [w1] at hu
  exact ⟨fun hc => absurd (of_decide_eq_true hc) (by omega), fun _ => hC n hn (by omega) (by rw [he, wg1])⟩
 | succ m ih =>
  intro i n hi hn hu he
  have hi' : i < s.length := by omega
  have ht := hs _ (get_in default hi')
  have hb := wgB (s.getD i default)
  rw [drop_get (l := s) default hi'] at he hu
  rw [wg1] at he
  rw [w1] at hu
  obtain ⟨hb1, hb2⟩ := hb
  refine ⟨fun _ => ⟨by omega, by rw [Int.toNat_natCast]; omega, ?_⟩, fun hc => absurd (of_decide_eq_false hc) (by omega)⟩
  rw [Int.toNat_natCast]
  refine ⟨ht, ?_⟩
  rw [w64 (by omega), w64 (by omega), show (i : Int) + 1 = ((i + 1 : Nat) : Int) by omega]
  exact ih (i + 1) _ (by omega) (by omega) (by omega) he
theorem wpa_F (N : Nat) (p : Ph) (h : wpaP (N + 1) p) : wpaF N p (fun r => r = wgP p) := by
 obtain ⟨h1, h2⟩ := h
 unfold pw at h1 h2
 have hl := w2_len p.1
 have loop : ∀ (m i : Nat) (n : Int), i + m = p.1.length → 0 ≤ n → n + 1000000 * w2 (p.1.drop i) ≤ 1000000 * w2 p.1 → wgP p = wg2 (p.1.drop i) n → wpal9 N p (fun r => r = wgP p) (m + 1) n (i : Int) := by
  intro m
  induction m with
  | zero =>
   intro i n hi hn hu he
   rw [List.drop_of_length_le (by omega), wg2] at he
   exact ⟨fun hc => absurd (of_decide_eq_true hc) (by omega), fun _ => he.symm⟩
  | succ m ih =>
   intro i n hi hn hu he
   have hi' : i < p.1.length := by omega
   have hin := get_in default hi'
   have h3 := w2_in hin
   have h4 := w1_len (p.1.getD i default)
   rw [drop_get (l := p.1) default hi'] at he hu
   rw [wg2] at he
   rw [w2] at hu
   refine ⟨fun _ => ⟨by omega, by rw [Int.toNat_natCast]; omega, ?_⟩, fun hc => absurd (of_decide_eq_false hc) (by omega)⟩
   rw [Int.toNat_natCast]
   refine ⟨_, wpa23 (r := wgP p) (p.1.getD i default) (fun t ht => ⟨by have := w1_in ht; omega, by have := w1_in ht; omega⟩) (by omega) (i : Int) _ (fun n => wg2 (p.1.drop (i + 1)) n) (n + 1000000 * w1 (p.1.getD i default)) (by omega) (fun n' h0 h1 h2 => ?_) (p.1.getD i default).length 0 n (by omega) hn (by rw [List.drop_zero]; omega) (by rw [List.drop_zero]; exact he)⟩
   rw [w64 (by omega), show (i : Int) + 1 = ((i + 1 : Nat) : Int) by omega]
   exact ih (i + 1) n' (by omega) h0 (by omega) h2
 exact ⟨_, loop p.1.length 0 0 (by omega) (by omega) (by rw [List.drop_zero]; omega) (by rw [List.drop_zero]; rfl)⟩
theorem whv_F (N : Nat) (l : List Ph) (h : whvP (N + 1) l) : whvF N l (fun r => r = wgH l) := by
 obtain ⟨h1, h2⟩ := h
 have h5 := b3_eq l
 have hl := w3_len l
 have loop : ∀ (m i : Nat) (n : Int), i + m = l.length → wgH l = wg3 (l.drop i) n → whvl9 N l (fun r => r = wgH l) (m + 1) n (i : Int) := by
  intro m
  induction m with
  | zero =>
   intro i n hi he
   rw [List.drop_of_length_le (by omega), wg3] at he
   exact ⟨fun hc => absurd (of_decide_eq_true hc) (by omega), fun _ => he.symm⟩
  | succ m ih =>
   intro i n hi he
   have hi' : i < l.length := by omega
   have h3 := w3_in (get_in default hi')
   rw [drop_get (l := l) default hi', wg3_cons] at he
   refine ⟨fun _ => ⟨by omega, by rw [Int.toNat_natCast]; omega, ?_⟩, fun hc => absurd (of_decide_eq_false hc) (by omega)⟩
   rw [Int.toNat_natCast]
   refine ⟨⟨by unfold pw; omega, by unfold pw; omega⟩, ?_⟩
   rw [w64 (by omega), show (i : Int) + 1 = ((i + 1 : Nat) : Int) by omega]
   exact ih (i + 1) _ (by omega) he
 exact ⟨_, loop l.length 0 0 (by omega) (by rw [List.drop_zero]; rfl)⟩
theorem wts_rec : ∀ N, wts_C N ∧ wpa_C N ∧ whv_C N
 | 0 => ⟨(by intro g axt_0 cxt_0 xt hRxt_0 hp; exact (wts_0 xt hp).elim), (by intro g axp_0 cxp_0 axp_1 cxp_1 xp hRxp_0 hRxp_1 hp; exact (wpa_0 xp hp).elim), (by intro g axl_0 cxl_0 xl hRxl_0 hp; exact (whv_0 xl hp).elim)⟩
 | N + 1 =>
  have ih := wts_rec N
  ⟨(by intro g axt_0 cxt_0 xt hRxt_0 hp; exact (wts_ok N ih.1 ih.2.1 ih.2.2 xt hRxt_0 _ (wts_F N xt hp)).gives (by rintro g' H' v _ ⟨r0, rfl, rfl, hK⟩; subst hK; rfl)), (by intro g axp_0 cxp_0 axp_1 cxp_1 xp hRxp_0 hRxp_1 hp; exact (wpa_ok N ih.1 ih.2.1 ih.2.2 xp hRxp_0 hRxp_1 _ (wpa_F N xp hp)).gives (by rintro g' H' v _ ⟨r0, rfl, rfl, hK⟩; subst hK; rfl)), (by intro g axl_0 cxl_0 xl hRxl_0 hp; exact (whv_ok N ih.1 ih.2.1 ih.2.2 xl hRxl_0 _ (whv_F N xl hp)).gives (by rintro g' H' v _ ⟨r0, rfl, rfl, hK⟩; subst hK; rfl))⟩
def wpaPE (xp : (List (List (Tst (Int × Bs × Int × Bs × Int × Int)))) × List (Int)) : Prop := ∃ N, wpaP N xp
theorem wpa_c {g : Ghost} {axp_0 : Option Addr} {cxp_0 : Nat} {axp_1 : Option Addr} {cxp_1 : Nat} (xp : (List (List (Tst (Int × Bs × Int × Bs × Int × Int)))) × List (Int)) (hRxp_0 : Rep g (.slice (.slice (.tst (.pair (.int .i64) (.pair (.str) (.pair (.int .u8) (.pair (.str) (.pair (.int .i64) (.int .i64))))))))) [.slice axp_0 xp.1.length cxp_0] xp.1) (hRxp_1 : Rep g (.slice (.int .u8)) [.slice axp_1 xp.2.length cxp_1] xp.2)  (hp : wpaPE xp) : CallsG Tryz.prog 21 #[.agg #[.slice axp_0 xp.1.length cxp_0, .slice axp_1 xp.2.length cxp_1]] g (.int .i64 (wgP xp)) := by
 obtain ⟨N, hp⟩ := hp
 exact (wts_rec N).2.1 _ xp hRxp_0 hRxp_1 hp
def rtsP (N : Nat) (t : Ts) : Prop := wtsP N t
def rpaP (N : Nat) (p : Ph) : Prop := wpaP N p
def rts_C (N : Nat) : Prop := ∀ (g : Ghost) {axt_0 : Option Addr} {cxt_0 : Nat} (xt : Tst (Int × Bs × Int × Bs × Int × Int)) (hRxt_0 : Rep g (.slice (.pair (.slice (.slice (.tst (.pair (.int .i64) (.pair (.str) (.pair (.int .u8) (.pair (.str) (.pair (.int .i64) (.int .i64))))))))) (.slice (.int .u8)))) [.slice axt_0 xt.kids.length cxt_0] xt.kids)  (hp : rtsP N xt), CallsG Tryz.prog 19 #[.agg #[.int .i64 xt.lab.1, sv xt.lab.2.1, .int .u8 xt.lab.2.2.1, sv xt.lab.2.2.2.1, .int .i64 xt.lab.2.2.2.2.1, .int .i64 xt.lab.2.2.2.2.2, .slice axt_0 xt.kids.length cxt_0]] g (.int .i64 (wgT xt))
def rpa_C (N : Nat) : Prop := ∀ (g : Ghost) {axp_0 : Option Addr} {cxp_0 : Nat} {axp_1 : Option Addr} {cxp_1 : Nat} (xp : (List (List (Tst (Int × Bs × Int × Bs × Int × Int)))) × List (Int)) (hRxp_0 : Rep g (.slice (.slice (.tst (.pair (.int .i64) (.pair (.str) (.pair (.int .u8) (.pair (.str) (.pair (.int .i64) (.int .i64))))))))) [.slice axp_0 xp.1.length cxp_0] xp.1) (hRxp_1 : Rep g (.slice (.int .u8)) [.slice axp_1 xp.2.length cxp_1] xp.2)  (hp : rpaP N xp), CallsG Tryz.prog 9 #[.agg #[.slice axp_0 xp.1.length cxp_0, .slice axp_1 xp.2.length cxp_1]] g (.int .i64 (wgP xp))
def rtsl37b (N : Nat) (xt : Tst (Int × Bs × Int × Bs × Int × Int)) (K : Int → Prop) (x3l37 : Int) (x4l37 : Int) (C37 : Int → Int → Prop) : Prop :=
 ((decide (x4l37 < (xt.kids.length : Int))) = true → (0 : Int) ≤ x4l37 ∧ Int.toNat x4l37 < xt.kids.length ∧ rpaP N (xt.kids.getD (Int.toNat x4l37) default) ∧ C37 (if x3l37 < (wgP (xt.kids.getD (Int.toNat x4l37) default)) then (wgP (xt.kids.getD (Int.toNat x4l37) default)) else x3l37) (w6 (x4l37 + 1))) ∧ ((decide (x4l37 < (xt.kids.length : Int))) = false → K x3l37)
def rtsl37 (N : Nat) (xt : Tst (Int × Bs × Int × Bs × Int × Int)) (K : Int → Prop) : Nat → Int → Int → Prop
 | 0, _, _ => False
 | k + 1, x3l37, x4l37 => rtsl37b N xt K x3l37 x4l37 (rtsl37 N xt K k)
def rtsj28 (N : Nat) (xt : Tst (Int × Bs × Int × Bs × Int × Int)) (K : Int → Prop) : Prop :=
 ((((xt.lab.1 == 10) || (xt.lab.1 == 11))) = true → ∃ k, rtsl37 N xt K k 0 0) ∧ ((((xt.lab.1 == 10) || (xt.lab.1 == 11))) = false → K 1000)
def rtsF (N : Nat) (xt : Tst (Int × Bs × Int × Bs × Int × Int)) (K : Int → Prop) : Prop :=
 (((xt.lab.1 == 1)) = true → K 0) ∧ (((xt.lab.1 == 1)) = false → (((xt.lab.1 == 2)) = true → K 1) ∧ (((xt.lab.1 == 2)) = false → (((xt.lab.1 == 3)) = true → K 1000000) ∧ (((xt.lab.1 == 3)) = false → (((xt.lab.1 == 10)) = true → rtsj28 N xt K) ∧ (((xt.lab.1 == 10)) = false → rtsj28 N xt K))))
theorem rts_ok {g : Ghost} (N : Nat) (ih_rts : rts_C N) (ih_rpa : rpa_C N) {axt_0 : Option Addr} {cxt_0 : Nat} (xt : Tst (Int × Bs × Int × Bs × Int × Int)) (hRxt_0 : Rep g (.slice (.pair (.slice (.slice (.tst (.pair (.int .i64) (.pair (.str) (.pair (.int .u8) (.pair (.str) (.pair (.int .i64) (.int .i64))))))))) (.slice (.int .u8)))) [.slice axt_0 xt.kids.length cxt_0] xt.kids) (K : Int → Prop)
  (hF : rtsF N xt K) : CallsH Tryz.prog 19 #[.agg #[.int .i64 xt.lab.1, sv xt.lab.2.1, .int .u8 xt.lab.2.2.1, sv xt.lab.2.2.2.1, .int .i64 xt.lab.2.2.2.2.1, .int .i64 xt.lab.2.2.2.2.2, .slice axt_0 xt.kids.length cxt_0]] g [] (fun g' H' v => ∃ (r0 : Int), v = .int .i64 r0 ∧ H' = [] ∧ K r0) := by
 refine CallsH.enter 38 [(0, .agg #[.int .i64 xt.lab.1, sv xt.lab.2.1, .int .u8 xt.lab.2.2.1, sv xt.lab.2.2.2.1, .int .i64 xt.lab.2.2.2.2.1, .int .i64 xt.lab.2.2.2.2.2, .slice axt_0 xt.kids.length cxt_0])] Tryz.func19 rfl (by kernel_rfl) (by kernel_rfl) (by kernel_rfl) fun w0 => ?_
 refine Ok.seq (Ok.region (Ok.op rfl (OpOk.box (v := .agg #[.int .i64 xt.lab.1, sv xt.lab.2.1, .int .u8 xt.lab.2.2.1, sv xt.lab.2.2.2.1, .int .i64 xt.lab.2.2.2.2.1, .int .i64 xt.lab.2.2.2.2.2, .slice axt_0 xt.kids.length cxt_0]) (cs := #[.int .i64 xt.lab.1, sv xt.lab.2.1, .int .u8 xt.lab.2.2.1, sv xt.lab.2.2.2.1, .int .i64 xt.lab.2.2.2.2.1, .int .i64 xt.lab.2.2.2.2.2, .slice axt_0 xt.kids.length cxt_0]) rfl (by kernel_rfl) rfl fun bs1 => ?_)))
 refine Ok.batch 1 [(1, pv bs1 0)] (by kernel_rfl) (Ok.nil (Ok.thenN (Ok.seq (Ok.seq (Ok.region (Ok.bat 1 [1] [(5, pv bs1 0)] ?_))))))
 refine Ok.op rfl (OpOk.step (v := .int .i64 xt.lab.1) (Yields.load 0 rfl rfl Tryz.underlying3 rfl (by kernel_rfl)) rfl rfl (Ok.bat 1 [1] [(7, .bool (xt.lab.1 == 1))] ?_))
 refine Ok.nil (Ok.thenN (Ok.cond (b := (xt.lab.1 == 1)) rfl (fun hc2 => ?_) (fun hc2 => ?_)))
 ·replace hF := hF.1 hc2
  refine Ok.seq (Ok.region (Ok.batch 1 [(2, .int .i64 0)] (by kernel_rfl) (Ok.nil (Ok.thenN (Ok.ret (Ok.thenR ?_))))))
  exact Ok.resP (vs := [.int .i64 0]) [] [] (by decide) rfl (.inl rfl) rfl (.cons (.tmp rfl) .nil) (Gext.refl w0 g) ⟨0, rfl, rfl, hF⟩
 ·replace hF := hF.2 hc2
  refine Ok.skip (Ok.thenN (Ok.seq (Ok.seq (Ok.region (Ok.bat 1 [1] [(8, pv bs1 0)] ?_)))))
  refine Ok.op rfl (OpOk.step (v := .int .i64 xt.lab.1) (Yields.load 0 rfl rfl Tryz.underlying3 rfl (by kernel_rfl)) rfl rfl (Ok.bat 1 [1] [(10, .bool (xt.lab.1 == 2))] ?_))
  refine Ok.nil (Ok.thenN (Ok.cond (b := (xt.lab.1 == 2)) rfl (fun hc3 => ?_) (fun hc3 => ?_)))
  ·replace hF := hF.1 hc3
   refine Ok.seq (Ok.region (Ok.batch 1 [(2, .int .i64 1)] (by kernel_rfl) (Ok.nil (Ok.thenN (Ok.ret (Ok.thenR ?_))))))
   exact Ok.resP (vs := [.int .i64 1]) [] [] (by decide) rfl (.inl rfl) rfl (.cons (.tmp rfl) .nil) (Gext.refl w0 g) ⟨1, rfl, rfl, hF⟩
  ·replace hF := hF.2 hc3
   refine Ok.skip (Ok.thenN (Ok.seq (Ok.seq (Ok.region (Ok.bat 1 [1] [(11, pv bs1 0)] ?_)))))
   refine Ok.op rfl (OpOk.step (v := .int .i64 xt.lab.1) (Yields.load 0 rfl rfl Tryz.underlying3 rfl (by kernel_rfl)) rfl rfl (Ok.bat 1 [1] [(13, .bool (xt.lab.1 == 3))] ?_))
   refine Ok.nil (Ok.thenN (Ok.cond (b := (xt.lab.1 == 3)) rfl (fun hc4 => ?_) (fun hc4 => ?_)))
   ·replace hF := hF.1 hc4
    refine Ok.seq (Ok.region (Ok.batch 1 [(2, .int .i64 1000000)] (by kernel_rfl) (Ok.nil (Ok.thenN (Ok.ret (Ok.thenR ?_))))))
    exact Ok.resP (vs := [.int .i64 1000000]) [] [] (by decide) rfl (.inl rfl) rfl (.cons (.tmp rfl) .nil) (Gext.refl w0 g) ⟨1000000, rfl, rfl, hF⟩
   ·replace hF := hF.2 hc4
    refine Ok.skip (Ok.thenN (Ok.seq (Ok.cut (fun a W => StA 38 [(1, pv bs1 0), (21, .bool ((xt.lab.1 == 10) || (xt.lab.1 == 11)))] a ∧ StW w0 [.blk bs1 (.cells #[.int .i64 xt.lab.1, sv xt.lab.2.1, .int .u8 xt.lab.2.2.1, sv xt.lab.2.2.2.1, .int .i64 xt.lab.2.2.2.2.1, .int .i64 xt.lab.2.2.2.2.2, .slice axt_0 xt.kids.length cxt_0] 48)] g W ∧ rtsj28 N xt K) ?_ ?_)))
    ·
     refine Ok.region (Ok.bat 1 [1] [(14, pv bs1 0)] ?_)
     refine Ok.op rfl (OpOk.step (v := .int .i64 xt.lab.1) (Yields.load 0 rfl rfl Tryz.underlying3 rfl (by kernel_rfl)) rfl rfl (Ok.bat 2 [1] [(17, .bool (xt.lab.1 == 10))] ?_))
     refine Ok.boolAt 17 ((xt.lab.1 == 10)) rfl (fun hc10 => ?_) (fun hc10 => ?_)
     ·replace hF := hF.1 hc10
      refine Ok.bat 4 [1] [(21, .bool true)] ?_
      refine Ok.nil (Ok.thenN (Ok.reval 21 rfl (show (.bool true : Value) = .bool ((xt.lab.1 == 10) || (xt.lab.1 == 11)) from congrArg (Value.bool) (mor_t hc10)) ?_))
      exact fun a W hA hW => ⟨hA.sub (by kernel_rfl), hW, hF⟩
     ·replace hF := hF.2 hc10
      refine Ok.bat 1 [1] [(17, .bool false), (18, pv bs1 0)] ?_
      refine Ok.opYes (j := 3) (d := 17) (want := false) (b := false) rfl (by kernel_rfl) (by kernel_rfl) rfl (OpOk.step (v := .int .i64 xt.lab.1) (Yields.load 0 rfl rfl Tryz.underlying3 rfl (by kernel_rfl)) rfl rfl (Ok.bat 2 [1] [(21, .bool (xt.lab.1 == 11))] ?_))
      refine Ok.nil (Ok.thenN (Ok.reval 21 rfl (show (.bool (xt.lab.1 == 11) : Value) = .bool ((xt.lab.1 == 10) || (xt.lab.1 == 11)) from congrArg (Value.bool) (mor_f hc10)) ?_))
      exact fun a W hA hW => ⟨hA.sub (by kernel_rfl), hW, hF⟩
    ·
     clear hF
     rintro a W ⟨hA, hW, hF⟩
     refine (?_ : Ok _ _ _ _ _ _) a W hA hW
     clear hA hW
     refine Ok.cond (b := ((xt.lab.1 == 10) || (xt.lab.1 == 11))) rfl (fun hc5 => ?_) (fun hc5 => ?_)
     ·replace hF := hF.1 hc5
      refine Ok.seq (Ok.region (Ok.bat 1 [1] [(3, .int .i64 0)] ?_))
      refine Ok.nil (Ok.thenN (Ok.seq (Ok.seq (Ok.region (Ok.bat 1 [1, 3] [(4, .int .i64 0)] ?_)))))
      refine Ok.nil (Ok.thenN (Ok.block ?_))
      obtain ⟨k, hF⟩ := hF
      refine Ok.loop (fun k a W => ∃ (x3l37 : Int) (x4l37 : Int), StA 38 [(1, pv bs1 0), (3, .int .i64 x3l37), (4, .int .i64 x4l37)] a ∧ StW w0 [.blk bs1 (.cells #[.int .i64 xt.lab.1, sv xt.lab.2.1, .int .u8 xt.lab.2.2.1, sv xt.lab.2.2.2.1, .int .i64 xt.lab.2.2.2.2.1, .int .i64 xt.lab.2.2.2.2.2, .slice axt_0 xt.kids.length cxt_0] 48)] g W ∧ rtsl37 N xt K k x3l37 x4l37) k ?_ ?_
      ·
       exact fun a W hA hW => ⟨0, 0, hA.sub (by kernel_rfl), hW, hF⟩
      ·
       clear hF
       rintro k37 a W ⟨x3l37, x4l37, hA, hW, hF⟩
       cases k37 with
       | zero => exact (hF : False).elim
       | succ k37 =>
        refine (?_ : Ok _ _ _ _ _ _) a W hA hW
        clear hA hW
        refine Ok.seq (Ok.seq (Ok.region (Ok.bat 2 [1, 3, 4] [(22, .int .i64 x4l37), (23, pv bs1 6)] ?_)))
        refine Ok.op rfl (OpOk.step (v := .slice axt_0 xt.kids.length cxt_0) (Yields.load 0 rfl rfl Tryz.underlying29 rfl (by kernel_rfl)) rfl rfl (Ok.bat 2 [1, 3, 4] [(26, .bool (decide (x4l37 < (xt.kids.length : Int))))] ?_))
        refine Ok.nil (Ok.thenN (Ok.cond (b := decide (x4l37 < (xt.kids.length : Int))) rfl (fun hc6 => ?_) (fun hc6 => ?_)))
        ·replace hF := hF.1 hc6
         refine Ok.skip (Ok.thenN (Ok.seq (Ok.block (Ok.region (Ok.bat 2 [1, 4] [(29, .int .i64 x3l37), (30, pv bs1 6)] ?_)))))
         refine Ok.op rfl (OpOk.step (v := .slice axt_0 xt.kids.length cxt_0) (Yields.load 0 rfl rfl Tryz.underlying29 rfl (by kernel_rfl)) rfl rfl (Ok.bat 1 [1, 4, 29] [(31, .slice axt_0 xt.kids.length cxt_0), (32, .int .i64 x4l37)] ?_))
         obtain ⟨h08, h18, hF⟩ := hF
         have he8 := get_of (l := xt.kids) (default : (List (List (Tst (Int × Bs × Int × Bs × Int × Int)))) × List (Int)) h18
         generalize hg8 : (xt.kids.getD (Int.toNat x4l37) default) = e8 at he8 hF ⊢
         refine Ok.op rfl (OpOk.indexRo (e := .pair (.slice (.slice (.tst (.pair (.int .i64) (.pair (.str) (.pair (.int .u8) (.pair (.str) (.pair (.int .i64) (.int .i64))))))))) (.slice (.int .u8))) (i := x4l37) (el := e8) rfl rfl Tryz.underlying29 (by kernel_rfl) hRxt_0 h08 he8 rfl fun q7 o7 cs7 _ hat7 hr7 => ?_)
         obtain ⟨_, _, rfl, ⟨a7_0, c7_0, rfl, hm7_0, hr7_0⟩, ⟨a7_1, c7_1, rfl, hm7_1, hr7_1⟩⟩ := hr7
         have hR7_0 : Rep g (.slice (.slice (.tst (.pair (.int .i64) (.pair (.str) (.pair (.int .u8) (.pair (.str) (.pair (.int .i64) (.int .i64))))))))) [.slice a7_0 e8.1.length c7_0] e8.1 := ⟨a7_0, c7_0, rfl, hm7_0, hr7_0⟩
         have hR7_1 : Rep g (.slice (.int .u8)) [.slice a7_1 e8.2.length c7_1] e8.2 := ⟨a7_1, c7_1, rfl, hm7_1, hr7_1⟩
         replace hat7 : At g q7 o7 [.slice a7_0 e8.1.length c7_0, .slice a7_1 e8.2.length c7_1] := hat7
         refine Ok.op rfl (OpOk.step (v := .agg #[.slice a7_0 e8.1.length c7_0, .slice a7_1 e8.2.length c7_1]) (Yields.loadAggRo 0 2 #[.slice a7_0 e8.1.length c7_0, .slice a7_1 e8.2.length c7_1] hat7 (by kernel_rfl) Tryz.underlying25 rfl (by kernel_rfl) (by kernel_rfl) (by kernel_rfl)) rfl rfl ?_)
         obtain ⟨hp9, hF⟩ := hF
         refine Ok.op rfl (OpOk.callG (v := .int .i64 (wgP e8)) enr (fun W hW => ih_rpa _ e8 (hR7_0.mono hW.sees) (hR7_1.mono hW.sees) hp9) rfl ?_)
         refine Ok.bat 2 [1, 4] [(3, .int .i64 (if x3l37 < (wgP e8) then (wgP e8) else x3l37))] ?_
         refine Ok.nil (Ok.blockN (Ok.thenN (Ok.region (Ok.bat 3 [1, 3] [(4, .int .i64 (w6 (x4l37 + 1)))] ?_))))
         refine Ok.nil (Ok.thenN ?_)
         subst hg8
         exact fun a W hA hW => ⟨k37, Nat.lt_succ_self _, (if x3l37 < (wgP (xt.kids.getD (Int.toNat x4l37) default)) then (wgP (xt.kids.getD (Int.toNat x4l37) default)) else x3l37), w6 (x4l37 + 1), hA.sub (by kernel_rfl), hW, hF⟩
        ·replace hF := hF.2 hc6
         refine Ok.exit (Ok.thenE (Ok.thenE (Ok.blockHit (Ok.thenN (Ok.seq (Ok.region (Ok.batch 2 [(2, .int .i64 x3l37)] (by kernel_rfl) (Ok.nil (Ok.thenN (Ok.ret (Ok.thenR ?_)))))))))))
         exact Ok.resP (vs := [.int .i64 x3l37]) [] [] (by decide) rfl (.inl rfl) rfl (.cons (.tmp rfl) .nil) (Gext.refl w0 g) ⟨x3l37, rfl, rfl, hF⟩
     ·replace hF := hF.2 hc5
      refine Ok.skip (Ok.thenN (Ok.seq (Ok.region (Ok.batch 1 [(2, .int .i64 1000)] (by kernel_rfl) (Ok.nil (Ok.thenN (Ok.ret ?_)))))))
      exact Ok.resP (vs := [.int .i64 1000]) [] [] (by decide) rfl (.inl rfl) rfl (.cons (.tmp rfl) .nil) (Gext.refl w0 g) ⟨1000, rfl, rfl, hF⟩
def rpal21b (N : Nat) (xp : (List (List (Tst (Int × Bs × Int × Bs × Int × Int)))) × List (Int)) (x4l9 : Int) (C9 : Int → Int → Prop) (x3l21 : Int) (x5l21 : Int) (C21 : Int → Int → Prop) : Prop :=
 (0 : Int) ≤ x4l9 ∧ Int.toNat x4l9 < xp.1.length ∧ ((decide (x5l21 < ((xp.1.getD (Int.toNat x4l9) default).length : Int))) = true → (0 : Int) ≤ x5l21 ∧ Int.toNat x5l21 < (xp.1.getD (Int.toNat x4l9) default).length ∧ rtsP N ((xp.1.getD (Int.toNat x4l9) default).getD (Int.toNat x5l21) default) ∧ C21 (w6 (x3l21 + (wgT ((xp.1.getD (Int.toNat x4l9) default).getD (Int.toNat x5l21) default)))) (w6 (x5l21 + 1))) ∧ ((decide (x5l21 < ((xp.1.getD (Int.toNat x4l9) default).length : Int))) = false → C9 x3l21 (w6 (x4l9 + 1)))
def rpal21 (N : Nat) (xp : (List (List (Tst (Int × Bs × Int × Bs × Int × Int)))) × List (Int)) (x4l9 : Int) (C9 : Int → Int → Prop) : Nat → Int → Int → Prop
 | 0, _, _ => False
 | k + 1, x3l21, x5l21 => rpal21b N xp x4l9 C9 x3l21 x5l21 (rpal21 N xp x4l9 C9 k)
def rpal9b (N : Nat) (xp : (List (List (Tst (Int × Bs × Int × Bs × Int × Int)))) × List (Int)) (K : Int → Prop) (x3l9 : Int) (x4l9 : Int) (C9 : Int → Int → Prop) : Prop :=
 ((decide (x4l9 < (xp.1.length : Int))) = true → ∃ k, rpal21 N xp x4l9 C9 k x3l9 0) ∧ ((decide (x4l9 < (xp.1.length : Int))) = false → K x3l9)
def rpal9 (N : Nat) (xp : (List (List (Tst (Int × Bs × Int × Bs × Int × Int)))) × List (Int)) (K : Int → Prop) : Nat → Int → Int → Prop
 | 0, _, _ => False
 | k + 1, x3l9, x4l9 => rpal9b N xp K x3l9 x4l9 (rpal9 N xp K k)
def rpaF (N : Nat) (xp : (List (List (Tst (Int × Bs × Int × Bs × Int × Int)))) × List (Int)) (K : Int → Prop) : Prop :=
 ∃ k, rpal9 N xp K k 0 0
theorem rpa_ok {g : Ghost} (N : Nat) (ih_rts : rts_C N) (ih_rpa : rpa_C N) {axp_0 : Option Addr} {cxp_0 : Nat} {axp_1 : Option Addr} {cxp_1 : Nat} (xp : (List (List (Tst (Int × Bs × Int × Bs × Int × Int)))) × List (Int)) (hRxp_0 : Rep g (.slice (.slice (.tst (.pair (.int .i64) (.pair (.str) (.pair (.int .u8) (.pair (.str) (.pair (.int .i64) (.int .i64))))))))) [.slice axp_0 xp.1.length cxp_0] xp.1) (hRxp_1 : Rep g (.slice (.int .u8)) [.slice axp_1 xp.2.length cxp_1] xp.2) (K : Int → Prop)
  (hF : rpaF N xp K) : CallsH Tryz.prog 9 #[.agg #[.slice axp_0 xp.1.length cxp_0, .slice axp_1 xp.2.length cxp_1]] g [] (fun g' H' v => ∃ (r0 : Int), v = .int .i64 r0 ∧ H' = [] ∧ K r0) := by
 refine CallsH.enter 35 [(0, .agg #[.slice axp_0 xp.1.length cxp_0, .slice axp_1 xp.2.length cxp_1])] Tryz.func9 rfl (by kernel_rfl) (by kernel_rfl) (by kernel_rfl) fun w0 => ?_
 refine Ok.seq (Ok.region (Ok.op rfl (OpOk.box (v := .agg #[.slice axp_0 xp.1.length cxp_0, .slice axp_1 xp.2.length cxp_1]) (cs := #[.slice axp_0 xp.1.length cxp_0, .slice axp_1 xp.2.length cxp_1]) rfl (by kernel_rfl) rfl fun bs1 => ?_)))
 refine Ok.batch 1 [(1, pv bs1 0)] (by kernel_rfl) (Ok.nil (Ok.thenN (Ok.seq (Ok.region (Ok.bat 1 [1] [(3, .int .i64 0)] ?_)))))
 refine Ok.nil (Ok.thenN (Ok.seq (Ok.seq (Ok.region (Ok.bat 1 [1, 3] [(4, .int .i64 0)] ?_)))))
 refine Ok.nil (Ok.thenN (Ok.block ?_))
 obtain ⟨k, hF⟩ := hF
 refine Ok.loop (fun k a W => ∃ (x3l9 : Int) (x4l9 : Int), StA 35 [(1, pv bs1 0), (3, .int .i64 x3l9), (4, .int .i64 x4l9)] a ∧ StW w0 [.blk bs1 (.cells #[.slice axp_0 xp.1.length cxp_0, .slice axp_1 xp.2.length cxp_1] 25)] g W ∧ rpal9 N xp K k x3l9 x4l9) k ?_ ?_
 ·
  exact fun a W hA hW => ⟨0, 0, hA.sub (by kernel_rfl), hW, hF⟩
 ·
  clear hF
  rintro k9 a W ⟨x3l9, x4l9, hA, hW, hF⟩
  cases k9 with
  | zero => exact (hF : False).elim
  | succ k9 =>
   refine (?_ : Ok _ _ _ _ _ _) a W hA hW
   clear hA hW
   refine Ok.seq (Ok.seq (Ok.region (Ok.bat 2 [1, 3, 4] [(6, .int .i64 x4l9), (7, pv bs1 0)] ?_)))
   refine Ok.op rfl (OpOk.step (v := .slice axp_0 xp.1.length cxp_0) (Yields.load 0 rfl rfl Tryz.underlying22 rfl (by kernel_rfl)) rfl rfl (Ok.bat 2 [1, 3, 4] [(10, .bool (decide (x4l9 < (xp.1.length : Int))))] ?_))
   refine Ok.nil (Ok.thenN (Ok.cond (b := decide (x4l9 < (xp.1.length : Int))) rfl (fun hc2 => ?_) (fun hc2 => ?_)))
   ·replace hF := hF.1 hc2
    refine Ok.skip (Ok.thenN (Ok.seq (Ok.block (Ok.seq (Ok.region (Ok.bat 1 [1, 3, 4] [(5, .int .i64 0)] ?_))))))
    refine Ok.nil (Ok.thenN (Ok.block ?_))
    obtain ⟨k, hF⟩ := hF
    refine Ok.loop (fun k a W => ∃ (x3l21 : Int) (x5l21 : Int), StA 35 [(1, pv bs1 0), (3, .int .i64 x3l21), (4, .int .i64 x4l9), (5, .int .i64 x5l21)] a ∧ StW w0 [.blk bs1 (.cells #[.slice axp_0 xp.1.length cxp_0, .slice axp_1 xp.2.length cxp_1] 25)] g W ∧ rpal21 N xp x4l9 (rpal9 N xp K k9) k x3l21 x5l21) k ?_ ?_
    ·
     exact fun a W hA hW => ⟨x3l9, 0, hA.sub (by kernel_rfl), hW, hF⟩
    ·
     clear hF
     rintro k21 a W ⟨x3l21, x5l21, hA, hW, hF⟩
     cases k21 with
     | zero => exact (hF : False).elim
     | succ k21 =>
      refine (?_ : Ok _ _ _ _ _ _) a W hA hW
      clear hA hW
      refine Ok.seq (Ok.seq (Ok.region (Ok.bat 2 [1, 3, 4, 5] [(13, .int .i64 x5l21), (14, pv bs1 0)] ?_)))
      refine Ok.op rfl (OpOk.step (v := .slice axp_0 xp.1.length cxp_0) (Yields.load 0 rfl rfl Tryz.underlying22 rfl (by kernel_rfl)) rfl rfl (Ok.bat 1 [1, 3, 4, 5, 13] [(15, .slice axp_0 xp.1.length cxp_0), (16, .int .i64 x4l9)] ?_))
      obtain ⟨h04, h14, hF⟩ := hF
      have he4 := get_of (l := xp.1) (default : List (Tst (Int × Bs × Int × Bs × Int × Int))) h14
      generalize hg4 : (xp.1.getD (Int.toNat x4l9) default) = e4 at he4 hF ⊢
      refine Ok.op rfl (OpOk.indexRo (e := .slice (.tst (.pair (.int .i64) (.pair (.str) (.pair (.int .u8) (.pair (.str) (.pair (.int .i64) (.int .i64)))))))) (i := x4l9) (el := e4) rfl rfl Tryz.underlying22 (by kernel_rfl) hRxp_0 h04 he4 rfl fun q3 o3 cs3 _ hat3 hr3 => ?_)
      obtain ⟨a3_0, c3_0, rfl, hm3_0, hr3_0⟩ := hr3
      have hR3_0 : Rep g (.slice (.tst (.pair (.int .i64) (.pair (.str) (.pair (.int .u8) (.pair (.str) (.pair (.int .i64) (.int .i64)))))))) [.slice a3_0 e4.length c3_0] e4 := ⟨a3_0, c3_0, rfl, hm3_0, hr3_0⟩
      replace hat3 : At g q3 o3 [.slice a3_0 e4.length c3_0] := hat3
      refine Ok.op rfl (OpOk.step (v := .slice a3_0 e4.length c3_0) (Yields.loadRo 0 hat3 (by kernel_rfl) Tryz.underlying41 rfl (by kernel_rfl)) rfl rfl (Ok.bat 2 [1, 3, 4, 5] [(20, .bool (decide (x5l21 < (e4.length : Int))))] ?_))
      refine Ok.nil (Ok.thenN (Ok.cond (b := decide (x5l21 < (e4.length : Int))) rfl (fun hc5 => ?_) (fun hc5 => ?_)))
      ·replace hF := hF.1 hc5
       refine Ok.skip (Ok.thenN (Ok.seq (Ok.block (Ok.region (Ok.bat 2 [1, 4, 5] [(23, .int .i64 x3l21), (24, pv bs1 0)] ?_)))))
       refine Ok.op rfl (OpOk.step (v := .slice axp_0 xp.1.length cxp_0) (Yields.load 0 rfl rfl Tryz.underlying22 rfl (by kernel_rfl)) rfl rfl (Ok.bat 1 [1, 4, 5, 23] [(25, .slice axp_0 xp.1.length cxp_0), (26, .int .i64 x4l9)] ?_))
       refine Ok.op rfl (OpOk.indexRo (e := .slice (.tst (.pair (.int .i64) (.pair (.str) (.pair (.int .u8) (.pair (.str) (.pair (.int .i64) (.int .i64)))))))) (i := x4l9) (el := e4) rfl rfl Tryz.underlying22 (by kernel_rfl) hRxp_0 h04 he4 rfl fun q6 o6 cs6 _ hat6 hr6 => ?_)
       obtain ⟨a6_0, c6_0, rfl, hm6_0, hr6_0⟩ := hr6
       have hR6_0 : Rep g (.slice (.tst (.pair (.int .i64) (.pair (.str) (.pair (.int .u8) (.pair (.str) (.pair (.int .i64) (.int .i64)))))))) [.slice a6_0 e4.length c6_0] e4 := ⟨a6_0, c6_0, rfl, hm6_0, hr6_0⟩
       replace hat6 : At g q6 o6 [.slice a6_0 e4.length c6_0] := hat6
       refine Ok.op rfl (OpOk.step (v := .slice a6_0 e4.length c6_0) (Yields.loadRo 0 hat6 (by kernel_rfl) Tryz.underlying41 rfl (by kernel_rfl)) rfl rfl (Ok.bat 1 [1, 4, 5, 23] [(28, .slice a6_0 e4.length c6_0), (29, .int .i64 x5l21)] ?_))
       obtain ⟨h08, h18, hF⟩ := hF
       have he8 := get_of (l := e4) (default : Tst (Int × Bs × Int × Bs × Int × Int)) h18
       generalize hg8 : (e4.getD (Int.toNat x5l21) default) = e8 at he8 hF ⊢
       refine Ok.op rfl (OpOk.indexRo (e := .tst (.pair (.int .i64) (.pair (.str) (.pair (.int .u8) (.pair (.str) (.pair (.int .i64) (.int .i64))))))) (i := x5l21) (el := e8) rfl rfl Tryz.underlying41 (by kernel_rfl) hR6_0 h08 he8 rfl fun q7 o7 cs7 _ hat7 hr7 => ?_)
       have hT7_0 := hr7
       replace hT7_0 := Rep.tst.1 hT7_0
       obtain ⟨_, _, rfl, ⟨_, _, rfl, rfl, ⟨_, _, rfl, rfl, ⟨_, _, rfl, rfl, ⟨_, _, rfl, rfl, ⟨_, _, rfl, rfl, rfl⟩⟩⟩⟩⟩, ⟨a7_6, c7_6, rfl, hm7_6, hr7_6⟩⟩ := hT7_0
       have hR7_6 : Rep g (.slice (.pair (.slice (.slice (.tst (.pair (.int .i64) (.pair (.str) (.pair (.int .u8) (.pair (.str) (.pair (.int .i64) (.int .i64))))))))) (.slice (.int .u8)))) [.slice a7_6 e8.kids.length c7_6] e8.kids := ⟨a7_6, c7_6, rfl, hm7_6, hr7_6⟩
       replace hat7 : At g q7 o7 [.int .i64 e8.lab.1, sv e8.lab.2.1, .int .u8 e8.lab.2.2.1, sv e8.lab.2.2.2.1, .int .i64 e8.lab.2.2.2.2.1, .int .i64 e8.lab.2.2.2.2.2, .slice a7_6 e8.kids.length c7_6] := hat7
       refine Ok.op rfl (OpOk.step (v := .agg #[.int .i64 e8.lab.1, sv e8.lab.2.1, .int .u8 e8.lab.2.2.1, sv e8.lab.2.2.2.1, .int .i64 e8.lab.2.2.2.2.1, .int .i64 e8.lab.2.2.2.2.2, .slice a7_6 e8.kids.length c7_6]) (Yields.loadAggRo 0 7 #[.int .i64 e8.lab.1, sv e8.lab.2.1, .int .u8 e8.lab.2.2.1, sv e8.lab.2.2.2.1, .int .i64 e8.lab.2.2.2.2.1, .int .i64 e8.lab.2.2.2.2.2, .slice a7_6 e8.kids.length c7_6] hat7 (by kernel_rfl) Tryz.underlying48 rfl (by kernel_rfl) (by kernel_rfl) (by kernel_rfl)) rfl rfl ?_)
       obtain ⟨hp9, hF⟩ := hF
       refine Ok.op rfl (OpOk.callG (v := .int .i64 (wgT e8)) enr (fun W hW => ih_rts _ e8 (hR7_6.mono hW.sees) hp9) rfl ?_)
       refine Ok.bat 2 [1, 4, 5] [(3, .int .i64 (w6 (x3l21 + (wgT e8))))] ?_
       refine Ok.nil (Ok.blockN (Ok.thenN (Ok.region (Ok.bat 3 [1, 3, 4] [(5, .int .i64 (w6 (x5l21 + 1)))] ?_))))
       refine Ok.nil (Ok.thenN ?_)
       subst hg8
       subst hg4
       exact fun a W hA hW => ⟨k21, Nat.lt_succ_self _, w6 (x3l21 + (wgT ((xp.1.getD (Int.toNat x4l9) default).getD (Int.toNat x5l21) default))), w6 (x5l21 + 1), hA.sub (by kernel_rfl), hW, hF⟩
      ·replace hF := hF.2 hc5
       refine Ok.exit (Ok.thenE (Ok.thenE (Ok.blockHit (Ok.blockN (Ok.thenN (Ok.region (Ok.bat 3 [1, 3] [(4, .int .i64 (w6 (x4l9 + 1)))] ?_)))))))
       refine Ok.nil (Ok.thenN ?_)
       subst hg4
       exact fun a W hA hW => ⟨k9, Nat.lt_succ_self _, x3l21, w6 (x4l9 + 1), hA.sub (by kernel_rfl), hW, hF⟩
   ·replace hF := hF.2 hc2
    refine Ok.exit (Ok.thenE (Ok.thenE (Ok.blockHit (Ok.thenN (Ok.seq (Ok.region (Ok.batch 2 [(2, .int .i64 x3l9)] (by kernel_rfl) (Ok.nil (Ok.thenN (Ok.ret ?_))))))))))
    exact Ok.resP (vs := [.int .i64 x3l9]) [] [] (by decide) rfl (.inl rfl) rfl (.cons (.tmp rfl) .nil) (Gext.refl w0 g) ⟨x3l9, rfl, rfl, hF⟩
theorem rts_0 (t : Ts) : ¬ rtsP 0 t := fun h => absurd h.1 (Nat.not_lt_zero _)
theorem rpa_0 (p : Ph) : ¬ rpaP 0 p := fun h => absurd h.1 (Nat.not_lt_zero _)
theorem rts_F (N : Nat) (t : Ts) (h : rtsP (N + 1) t) : rtsF N t (fun r => r = wgT t) := by
 have e := wgT_eq t
 have hb := bT_kids t
 obtain ⟨h1, h2⟩ := h
 refine ⟨fun c1 => by rw [e, if_t c1], fun c1 => ⟨fun c2 => by rw [e, if_f c1, if_t c2], fun c2 => ⟨fun c3 => by rw [e, if_f c1, if_f c2, if_t c3], fun c3 => ?_⟩⟩⟩
 rw [if_f c1, if_f c2, if_f c3] at e
 have j : rtsj28 N t (fun r => r = wgT t) := by
  refine ⟨fun c => ?_, fun c => by rw [e, if_f c]⟩
  rw [if_t c] at e
  have h5 := b3_eq t.kids
  have hl := w3_len t.kids
  have loop : ∀ (m i : Nat) (n : Int), i + m = t.kids.length → wgT t = wg3 (t.kids.drop i) n → rtsl37 N t (fun r => r = wgT t) (m + 1) n (i : Int) := by
   intro m
   induction m with
   | zero =>
    intro i n hi he
    rw [List.drop_of_length_le (by omega), wg3] at he
    exact ⟨fun hc => absurd (of_decide_eq_true hc) (by omega), fun _ => he.symm⟩
   | succ m ih =>
    intro i n hi he
    have hi' : i < t.kids.length := by omega
    have h3 := w3_in (get_in default hi')
    rw [drop_get (l := t.kids) default hi', wg3_cons] at he
    refine ⟨fun _ => ⟨by omega, by rw [Int.toNat_natCast]; omega, ?_⟩, fun hc => absurd (of_decide_eq_false hc) (by omega)⟩
    rw [Int.toNat_natCast]
    refine ⟨⟨by unfold pw; omega, by unfold pw; omega⟩, ?_⟩
    rw [w64 (by omega), show (i : Int) + 1 = ((i + 1 : Nat) : Int) by omega]
    exact ih (i + 1) _ (by omega) he
  exact ⟨_, loop t.kids.length 0 0 (by omega) (by rw [List.drop_zero]; exact e)⟩
 exact ⟨fun _ => j, fun _ => j⟩
theorem rpa21 {N : Nat} {r : Int} (p : Ph) (k : Nat) (hk : k < p.1.length) (hs : ∀ t ∈ p.1.getD k default, rtsP N t) (hl : (p.1.getD k default).length ≤ 1048576) (C : Int → Int → Prop) (F : Int → Int) (U : Int) (hU : U ≤ 1000000000000000)
  (hC : ∀ n, 0 ≤ n → n ≤ U → r = F n → C n (w6 ((k : Int) + 1))) : ∀ (m i : Nat) (n : Int), i + m = (p.1.getD k default).length → 0 ≤ n → n + 1000000 * w1 ((p.1.getD k default).drop i) ≤ U → r = F (wg1 ((p.1.getD k default).drop i) n) → rpal21 N p (k : Int) C (m + 1) n (i : Int) := by
 intro m
 induction m with
 | zero =>
  intro i n hi hn hu he
  rw [List.drop_of_length_le (by omega)] at he hu
  rw [w1] at hu
  refine ⟨by omega, by rw [Int.toNat_natCast]; omega, ?_⟩
  rw [Int.toNat_natCast]
  exact ⟨fun hc => absurd (of_decide_eq_true hc) (by omega), fun _ => hC n hn (by omega) (by rw [he, wg1])⟩
 | succ m ih =>
  intro i n hi hn hu he
  have hi' : i < (p.1.getD k default).length := by omega
  have ht := hs _ (get_in default hi')
  have hb := wgB ((p.1.getD k default).getD i default)
  rw [drop_get (l := p.1.getD k default) default hi'] at he hu
  rw [wg1] at he
  rw [w1] at hu
  obtain ⟨hb1, hb2⟩ := hb
  refine ⟨by omega, by rw [Int.toNat_natCast]; omega, ?_⟩
  rw [Int.toNat_natCast]
  refine ⟨fun _ => ⟨by omega, by rw [Int.toNat_natCast]; omega, ?_⟩, fun hc => absurd (of_decide_eq_false hc) (by omega)⟩
  rw [Int.toNat_natCast]
  refine ⟨ht, ?_⟩
  rw [w64 (by omega), w64 (by omega), show (i : Int) + 1 = ((i + 1 : Nat) : Int) by omega]
  exact ih (i + 1) _ (by omega) (by omega) (by omega) he
theorem rpa_F (N : Nat) (p : Ph) (h : rpaP (N + 1) p) : rpaF N p (fun r => r = wgP p) := by
 obtain ⟨h1, h2⟩ := h
 unfold pw at h1 h2
 have hl := w2_len p.1
 have loop : ∀ (m i : Nat) (n : Int), i + m = p.1.length → 0 ≤ n → n + 1000000 * w2 (p.1.drop i) ≤ 1000000 * w2 p.1 → wgP p = wg2 (p.1.drop i) n → rpal9 N p (fun r => r = wgP p) (m + 1) n (i : Int) := by
  intro m
  induction m with
  | zero =>
   intro i n hi hn hu he
   rw [List.drop_of_length_le (by omega), wg2] at he
   exact ⟨fun hc => absurd (of_decide_eq_true hc) (by omega), fun _ => he.symm⟩
  | succ m ih =>
   intro i n hi hn hu he
   have hi' : i < p.1.length := by omega
   have hin := get_in default hi'
   have h3 := w2_in hin
   have h4 := w1_len (p.1.getD i default)
   rw [drop_get (l := p.1) default hi'] at he hu
   rw [wg2] at he
   rw [w2] at hu
   refine ⟨fun _ => ?_, fun hc => absurd (of_decide_eq_false hc) (by omega)⟩
   refine ⟨_, rpa21 (r := wgP p) p i hi' (fun t ht => ⟨by have := w1_in ht; omega, by have := w1_in ht; omega⟩) (by omega) _ (fun n => wg2 (p.1.drop (i + 1)) n) (n + 1000000 * w1 (p.1.getD i default)) (by omega) (fun n' h0 h1 h2 => ?_) (p.1.getD i default).length 0 n (by omega) hn (by rw [List.drop_zero]; omega) (by rw [List.drop_zero]; exact he)⟩
   rw [w64 (by omega), show (i : Int) + 1 = ((i + 1 : Nat) : Int) by omega]
   exact ih (i + 1) n' (by omega) h0 (by omega) h2
 exact ⟨_, loop p.1.length 0 0 (by omega) (by omega) (by rw [List.drop_zero]; omega) (by rw [List.drop_zero]; rfl)⟩
theorem rts_rec : ∀ N, rts_C N ∧ rpa_C N
 | 0 => ⟨(by intro g axt_0 cxt_0 xt hRxt_0 hp; exact (rts_0 xt hp).elim), (by intro g axp_0 cxp_0 axp_1 cxp_1 xp hRxp_0 hRxp_1 hp; exact (rpa_0 xp hp).elim)⟩
 | N + 1 =>
  have ih := rts_rec N
  ⟨(by intro g axt_0 cxt_0 xt hRxt_0 hp; exact (rts_ok N ih.1 ih.2 xt hRxt_0 _ (rts_F N xt hp)).gives (by rintro g' H' v _ ⟨r0, rfl, rfl, hK⟩; subst hK; rfl)), (by intro g axp_0 cxp_0 axp_1 cxp_1 xp hRxp_0 hRxp_1 hp; exact (rpa_ok N ih.1 ih.2 xp hRxp_0 hRxp_1 _ (rpa_F N xp hp)).gives (by rintro g' H' v _ ⟨r0, rfl, rfl, hK⟩; subst hK; rfl))⟩
def rpaPE (xp : (List (List (Tst (Int × Bs × Int × Bs × Int × Int)))) × List (Int)) : Prop := ∃ N, rpaP N xp
theorem rpa_c {g : Ghost} {axp_0 : Option Addr} {cxp_0 : Nat} {axp_1 : Option Addr} {cxp_1 : Nat} (xp : (List (List (Tst (Int × Bs × Int × Bs × Int × Int)))) × List (Int)) (hRxp_0 : Rep g (.slice (.slice (.tst (.pair (.int .i64) (.pair (.str) (.pair (.int .u8) (.pair (.str) (.pair (.int .i64) (.int .i64))))))))) [.slice axp_0 xp.1.length cxp_0] xp.1) (hRxp_1 : Rep g (.slice (.int .u8)) [.slice axp_1 xp.2.length cxp_1] xp.2)  (hp : rpaPE xp) : CallsG Tryz.prog 9 #[.agg #[.slice axp_0 xp.1.length cxp_0, .slice axp_1 xp.2.length cxp_1]] g (.int .i64 (wgP xp)) := by
 obtain ⟨N, hp⟩ := hp
 exact (rts_rec N).2 _ xp hRxp_0 hRxp_1 hp
def wphF (xp : (List (List (Tst (Int × Bs × Int × Bs × Int × Int)))) × List (Int)) (K : Int → Prop) : Prop :=
 chkP ([xp] : List ((List (List (Tst (Int × Bs × Int × Bs × Int × Int)))) × List (Int))) ∧ ((((chkS ([xp] : List ((List (List (Tst (Int × Bs × Int × Bs × Int × Int)))) × List (Int)))) != 0)) = true → K 0) ∧ ((((chkS ([xp] : List ((List (List (Tst (Int × Bs × Int × Bs × Int × Int)))) × List (Int)))) != 0)) = false → wpaPE xp ∧ K (wgP xp))
theorem wph_ok {g : Ghost} {axp_0 : Option Addr} {cxp_0 : Nat} {axp_1 : Option Addr} {cxp_1 : Nat} (xp : (List (List (Tst (Int × Bs × Int × Bs × Int × Int)))) × List (Int)) (hRxp_0 : Rep g (.slice (.slice (.tst (.pair (.int .i64) (.pair (.str) (.pair (.int .u8) (.pair (.str) (.pair (.int .i64) (.int .i64))))))))) [.slice axp_0 xp.1.length cxp_0] xp.1) (hRxp_1 : Rep g (.slice (.int .u8)) [.slice axp_1 xp.2.length cxp_1] xp.2) (hG0 : SomeInt g 0) (K : Int → Prop)
  (hF : wphF xp K) : CallsH Tryz.prog 10 #[.agg #[.slice axp_0 xp.1.length cxp_0, .slice axp_1 xp.2.length cxp_1]] g [] (fun g' H' v => ∃ (r0 : Int), v = .int .i64 r0 ∧ H' = [] ∧ K r0) := by
 refine CallsH.enter 9 [(0, .agg #[.slice axp_0 xp.1.length cxp_0, .slice axp_1 xp.2.length cxp_1])] Tryz.func10 rfl (by kernel_rfl) (by kernel_rfl) (by kernel_rfl) fun w0 => ?_
 refine Ok.seq (Ok.region (Ok.op rfl (OpOk.box (v := .agg #[.slice axp_0 xp.1.length cxp_0, .slice axp_1 xp.2.length cxp_1]) (cs := #[.slice axp_0 xp.1.length cxp_0, .slice axp_1 xp.2.length cxp_1]) rfl (by kernel_rfl) rfl fun bs1 => ?_)))
 refine Ok.batch 1 [(1, pv bs1 0)] (by kernel_rfl) (Ok.nil (Ok.thenN (Ok.seq (Ok.seq (Ok.region (Ok.op rfl (OpOk.step (v := .agg #[.slice axp_0 xp.1.length cxp_0, .slice axp_1 xp.2.length cxp_1]) (Yields.loadAgg 0 2 #[.slice axp_0 xp.1.length cxp_0, .slice axp_1 xp.2.length cxp_1] rfl rfl Tryz.underlying25 rfl (by kernel_rfl) (by kernel_rfl) (by kernel_rfl)) rfl rfl ?_)))))))
 have hL2 : RepL g (.pair (.slice (.slice (.tst (.pair (.int .i64) (.pair (.str) (.pair (.int .u8) (.pair (.str) (.pair (.int .i64) (.int .i64))))))))) (.slice (.int .u8))) ([.slice axp_0 xp.1.length cxp_0, .slice axp_1 xp.2.length cxp_1] : List Value) ([xp] : List ((List (List (Tst (Int × Bs × Int × Bs × Int × Int)))) × List (Int))) := (RepL.consN (c := [.slice axp_0 xp.1.length cxp_0, .slice axp_1 xp.2.length cxp_1]) ⟨[.slice axp_0 xp.1.length cxp_0], [.slice axp_1 xp.2.length cxp_1], rfl, hRxp_0, hRxp_1⟩ rfl)
 refine Ok.op rfl (OpOk.lit (E := 25) (.pair (.slice (.slice (.tst (.pair (.int .i64) (.pair (.str) (.pair (.int .u8) (.pair (.str) (.pair (.int .i64) (.int .i64))))))))) (.slice (.int .u8))) ([xp] : List ((List (List (Tst (Int × Bs × Int × Bs × Int × Int)))) × List (Int))) ([.slice axp_0 xp.1.length cxp_0, .slice axp_1 xp.2.length cxp_1] : List Value) (by kernel_rfl) (by kernel_rfl) rfl (by kernel_rfl) hL2 rfl fun b2 => ?_)
 obtain ⟨hp3, hF⟩ := hF
 refine Ok.op rfl (OpOk.callG (v := .int .i64 (chkS ([xp] : List ((List (List (Tst (Int × Bs × Int × Bs × Int × Int)))) × List (Int))))) enr (fun W hW => chk_c ([xp] : List ((List (List (Tst (Int × Bs × Int × Bs × Int × Int)))) × List (Int))) (hW.seeOwn 0 rfl hL2) (hG0.mono hW.sees) hp3) rfl ?_)
 refine Ok.bat 1 [1] [(6, .bool ((chkS ([xp] : List ((List (List (Tst (Int × Bs × Int × Bs × Int × Int)))) × List (Int)))) != 0))] ?_
 refine Ok.nil (Ok.thenN (Ok.cond (b := ((chkS ([xp] : List ((List (List (Tst (Int × Bs × Int × Bs × Int × Int)))) × List (Int)))) != 0)) rfl (fun hc4 => ?_) (fun hc4 => ?_)))
 ·replace hF := hF.1 hc4
  refine Ok.seq (Ok.region (Ok.batch 1 [(2, .int .i64 0)] (by kernel_rfl) (Ok.nil (Ok.thenN (Ok.ret (Ok.thenR ?_))))))
  exact Ok.resP (vs := [.int .i64 0]) [] [] (by decide) rfl (.inl rfl) rfl (.cons (.tmp rfl) .nil) (Gext.refl w0 g) ⟨0, rfl, rfl, hF⟩
 ·replace hF := hF.2 hc4
  refine Ok.skip (Ok.thenN (Ok.seq (Ok.region (Ok.op rfl (OpOk.step (v := .agg #[.slice axp_0 xp.1.length cxp_0, .slice axp_1 xp.2.length cxp_1]) (Yields.loadAgg 1 2 #[.slice axp_0 xp.1.length cxp_0, .slice axp_1 xp.2.length cxp_1] rfl rfl Tryz.underlying25 rfl (by kernel_rfl) (by kernel_rfl) (by kernel_rfl)) rfl rfl ?_)))))
  obtain ⟨hp5, hF⟩ := hF
  refine Ok.op rfl (OpOk.callG (v := .int .i64 (wgP xp)) enr (fun W hW => wpa_c xp (hRxp_0.mono hW.sees) (hRxp_1.mono hW.sees) hp5) rfl ?_)
  refine Ok.batch 1 [(2, .int .i64 (wgP xp))] (by kernel_rfl) (Ok.nil (Ok.thenN (Ok.ret ?_)))
  exact Ok.resP (vs := [.int .i64 (wgP xp)]) [] [] (by decide) rfl (.inl rfl) rfl (.cons (.tmp rfl) .nil) (Gext.refl w0 g) ⟨(wgP xp), rfl, rfl, hF⟩
def wphS (p : Ph) : Int := if ((chkS [p]) != 0) = true then 0 else wgP p
def wphP (p : Ph) : Prop := DomU (.pair (.slice (.slice (.tst (.pair (.int .i64) (.pair (.str) (.pair (.int .u8) (.pair (.str) (.pair (.int .i64) (.int .i64))))))))) (.slice (.int .u8))) p
theorem wb (p : Ph) (h : wphP p) : pw p + p.2.length + 1 ≤ 1048576 := by
 have h2 : bulkT (.pair (.slice (.slice (.tst (.pair (.int .i64) (.pair (.str) (.pair (.int .u8) (.pair (.str) (.pair (.int .i64) (.int .i64))))))))) (.slice (.int .u8))) p ≤ 1048576 := h.2
 have e : bulkT (.pair (.slice (.slice (.tst (.pair (.int .i64) (.pair (.str) (.pair (.int .u8) (.pair (.str) (.pair (.int .i64) (.int .i64))))))))) (.slice (.int .u8))) p = (p.1.map fun s => (s.map bT).sum + 1).sum + 1 + ((p.2.map fun _ => 1).sum + 1) := rfl
 have e2 : (p.2.map fun _ => 1).sum = p.2.length := by rw [List.map_const']; simp
 rw [e, w2_eq, e2] at h2
 unfold pw; omega
theorem wchk (p : Ph) (h : wphP p) : chkP [p] := by
 have hb := wb p h
 refine ⟨?_, fun q hq => ?_⟩
 ·rw [b3_eq, w3, w3]
  unfold pw at hb; omega
 ·obtain rfl := List.mem_singleton.1 hq
  exact ⟨fun z hz => bt_wf (h.1.1.2.2 z hz), fun s hs t ht => okB_dom t ((h.1.1.1.2 s hs).2 t ht)⟩
theorem wpe (p : Ph) (h : wphP p) : wpaPE p := ⟨pw p + 1, by omega, by have := wb p h; omega⟩
theorem wph_F (p : Ph) (h : wphP p) : wphF p (fun r => r = wphS p) := by
 refine ⟨wchk p h, fun h1 => ?_, fun h1 => ⟨wpe p h, ?_⟩⟩
 ·unfold wphS; rw [if_t h1]
 ·unfold wphS; rw [if_f h1]
theorem wph_c {g : Ghost} {axp_0 : Option Addr} {cxp_0 : Nat} {axp_1 : Option Addr} {cxp_1 : Nat} (xp : (List (List (Tst (Int × Bs × Int × Bs × Int × Int)))) × List (Int)) (hRxp_0 : Rep g (.slice (.slice (.tst (.pair (.int .i64) (.pair (.str) (.pair (.int .u8) (.pair (.str) (.pair (.int .i64) (.int .i64))))))))) [.slice axp_0 xp.1.length cxp_0] xp.1) (hRxp_1 : Rep g (.slice (.int .u8)) [.slice axp_1 xp.2.length cxp_1] xp.2) (hG0 : SomeInt g 0)  (hp : wphP xp) : CallsG Tryz.prog 10 #[.agg #[.slice axp_0 xp.1.length cxp_0, .slice axp_1 xp.2.length cxp_1]] g (.int .i64 (wphS xp)) :=
 (wph_ok xp hRxp_0 hRxp_1 hG0 _ (wph_F xp hp)).gives (by rintro g' H' v _ ⟨r0, rfl, rfl, hK⟩; subst hK; rfl)
def lwpV0 (xp : (List (List (Tst (Int × Bs × Int × Bs × Int × Int)))) × List (Int)) : Int :=
 (if ((chkS ([xp] : List ((List (List (Tst (Int × Bs × Int × Bs × Int × Int)))) × List (Int)))) == 0) = true then (wgP xp) else 0)
def lwpj13 (xp : (List (List (Tst (Int × Bs × Int × Bs × Int × Int)))) × List (Int)) (K : Bool → Prop) : Prop :=
 K (true && ((wphS xp) == (lwpV0 xp)))
def lwpj7 (xp : (List (List (Tst (Int × Bs × Int × Bs × Int × Int)))) × List (Int)) (K : Bool → Prop) : Prop :=
 ((true) = true → wphP xp ∧ lwpj13 xp K) ∧ ((true) = false → lwpj13 xp K)
def lwpF (xp : (List (List (Tst (Int × Bs × Int × Bs × Int × Int)))) × List (Int)) (K : Bool → Prop) : Prop :=
 chkP ([xp] : List ((List (List (Tst (Int × Bs × Int × Bs × Int × Int)))) × List (Int))) ∧ ((((chkS ([xp] : List ((List (List (Tst (Int × Bs × Int × Bs × Int × Int)))) × List (Int)))) == 0)) = true → rpaPE xp ∧ lwpj7 xp K) ∧ ((((chkS ([xp] : List ((List (List (Tst (Int × Bs × Int × Bs × Int × Int)))) × List (Int)))) == 0)) = false → lwpj7 xp K)
theorem lwp_ok {g : Ghost} {axp_0 : Option Addr} {cxp_0 : Nat} {axp_1 : Option Addr} {cxp_1 : Nat} (xp : (List (List (Tst (Int × Bs × Int × Bs × Int × Int)))) × List (Int)) (hRxp_0 : Rep g (.slice (.slice (.tst (.pair (.int .i64) (.pair (.str) (.pair (.int .u8) (.pair (.str) (.pair (.int .i64) (.int .i64))))))))) [.slice axp_0 xp.1.length cxp_0] xp.1) (hRxp_1 : Rep g (.slice (.int .u8)) [.slice axp_1 xp.2.length cxp_1] xp.2) (hG0 : SomeInt g 0) (K : Bool → Prop)
  (hF : lwpF xp K) : CallsH Tryz.prog 3 #[.agg #[.slice axp_0 xp.1.length cxp_0, .slice axp_1 xp.2.length cxp_1]] g [] (fun g' H' v => ∃ (r0 : Bool), v = .bool r0 ∧ H' = [] ∧ K r0) := by
 refine CallsH.enter 19 [(0, .agg #[.slice axp_0 xp.1.length cxp_0, .slice axp_1 xp.2.length cxp_1])] Tryz.func3 rfl (by kernel_rfl) (by kernel_rfl) (by kernel_rfl) fun w0 => ?_
 refine Ok.seq (Ok.region (Ok.op rfl (OpOk.box (v := .agg #[.slice axp_0 xp.1.length cxp_0, .slice axp_1 xp.2.length cxp_1]) (cs := #[.slice axp_0 xp.1.length cxp_0, .slice axp_1 xp.2.length cxp_1]) rfl (by kernel_rfl) rfl fun bs1 => ?_)))
 refine Ok.batch 1 [(1, pv bs1 0)] (by kernel_rfl) (Ok.nil (Ok.thenN (Ok.seq (Ok.region (Ok.op rfl (OpOk.callG (v := .bool true) enr (fun W hW => lsd_c  (hG0.mono hW.sees)) rfl ?_))))))
 refine Ok.bat 1 [1] [(3, .bool true)] ?_
 refine Ok.nil (Ok.thenN (Ok.seq (Ok.region (Ok.bat 1 [1, 3] [(4, .int .i64 0)] ?_))))
 refine Ok.nil (Ok.thenN (Ok.cut (fun a W => ∃ gj7 : Ghost, Gext w0 g gj7 ∧ StA 19 [(1, pv bs1 0), (3, .bool true), (4, .int .i64 (lwpV0 xp))] a ∧ StW w0 [.blk bs1 (.cells #[.slice axp_0 xp.1.length cxp_0, .slice axp_1 xp.2.length cxp_1] 25)] gj7 W ∧ lwpj7 xp K) ?_ ?_))
 ·
  refine Ok.seq (Ok.region (Ok.op rfl (OpOk.step (v := .agg #[.slice axp_0 xp.1.length cxp_0, .slice axp_1 xp.2.length cxp_1]) (Yields.loadAgg 0 2 #[.slice axp_0 xp.1.length cxp_0, .slice axp_1 xp.2.length cxp_1] rfl rfl Tryz.underlying25 rfl (by kernel_rfl) (by kernel_rfl) (by kernel_rfl)) rfl rfl ?_)))
  have hL4 : RepL g (.pair (.slice (.slice (.tst (.pair (.int .i64) (.pair (.str) (.pair (.int .u8) (.pair (.str) (.pair (.int .i64) (.int .i64))))))))) (.slice (.int .u8))) ([.slice axp_0 xp.1.length cxp_0, .slice axp_1 xp.2.length cxp_1] : List Value) ([xp] : List ((List (List (Tst (Int × Bs × Int × Bs × Int × Int)))) × List (Int))) := (RepL.consN (c := [.slice axp_0 xp.1.length cxp_0, .slice axp_1 xp.2.length cxp_1]) ⟨[.slice axp_0 xp.1.length cxp_0], [.slice axp_1 xp.2.length cxp_1], rfl, hRxp_0, hRxp_1⟩ rfl)
  refine Ok.op rfl (OpOk.lit (E := 25) (.pair (.slice (.slice (.tst (.pair (.int .i64) (.pair (.str) (.pair (.int .u8) (.pair (.str) (.pair (.int .i64) (.int .i64))))))))) (.slice (.int .u8))) ([xp] : List ((List (List (Tst (Int × Bs × Int × Bs × Int × Int)))) × List (Int))) ([.slice axp_0 xp.1.length cxp_0, .slice axp_1 xp.2.length cxp_1] : List Value) (by kernel_rfl) (by kernel_rfl) rfl (by kernel_rfl) hL4 rfl fun b4 => ?_)
  obtain ⟨hp5, hF⟩ := hF
  refine Ok.op rfl (OpOk.callG (v := .int .i64 (chkS ([xp] : List ((List (List (Tst (Int × Bs × Int × Bs × Int × Int)))) × List (Int))))) enr (fun W hW => pfl_c ([xp] : List ((List (List (Tst (Int × Bs × Int × Bs × Int × Int)))) × List (Int))) (hW.seeOwn 0 rfl hL4) (hG0.mono hW.sees) hp5) rfl ?_)
  refine Ok.bat 1 [1, 3, 4] [(9, .bool ((chkS ([xp] : List ((List (List (Tst (Int × Bs × Int × Bs × Int × Int)))) × List (Int)))) == 0))] ?_
  refine Ok.nil (Ok.thenN (Ok.cond (b := ((chkS ([xp] : List ((List (List (Tst (Int × Bs × Int × Bs × Int × Int)))) × List (Int)))) == 0)) rfl (fun hc6 => ?_) (fun hc6 => ?_)))
  ·replace hF := hF.1 hc6
   refine Ok.region (Ok.op rfl (OpOk.step (v := .agg #[.slice axp_0 xp.1.length cxp_0, .slice axp_1 xp.2.length cxp_1]) (Yields.loadAgg 1 2 #[.slice axp_0 xp.1.length cxp_0, .slice axp_1 xp.2.length cxp_1] rfl rfl Tryz.underlying25 rfl (by kernel_rfl) (by kernel_rfl) (by kernel_rfl)) rfl rfl ?_))
   obtain ⟨hp7, hF⟩ := hF
   refine Ok.op rfl (OpOk.callG (v := .int .i64 (wgP xp)) enr (fun W hW => rpa_c xp (hRxp_0.mono hW.sees) (hRxp_1.mono hW.sees) hp7) rfl ?_)
   refine Ok.bat 1 [1, 3] [(4, .int .i64 (wgP xp))] ?_
   refine Ok.nil (Ok.thenN (Ok.reval 4 rfl (show (.int .i64 (wgP xp) : Value) = .int .i64 (lwpV0 xp) from congrArg (Value.int .i64) ((if_t hc6).symm)) ?_))
   exact fun a W hA hW => ⟨g, (Gext.refl w0 g), hA.sub (by kernel_rfl), hW.sub (.cons _ (.cons_cons _ .slnil)), hF⟩
  ·replace hF := hF.2 hc6
   refine Ok.skip (Ok.thenN (Ok.reval 4 rfl (show (.int .i64 0 : Value) = .int .i64 (lwpV0 xp) from congrArg (Value.int .i64) ((if_f hc6).symm)) ?_))
   exact fun a W hA hW => ⟨g, (Gext.refl w0 g), hA.sub (by kernel_rfl), hW.sub (.cons _ (.cons_cons _ .slnil)), hF⟩
 ·
  clear hF
  rintro a W ⟨gj7, hxj7, hA, hW, hF⟩
  refine (?_ : Ok _ _ _ _ _ _) a W hA hW
  clear hA hW
  replace hRxp_0 := hRxp_0.mono hxj7.1
  replace hRxp_1 := hRxp_1.mono hxj7.1
  replace hG0 := hG0.mono hxj7.1
  refine Ok.cut (fun a W => ∃ gj13 : Ghost, Gext w0 gj7 gj13 ∧ StA 19 [(2, .bool (true && ((wphS xp) == (lwpV0 xp))))] a ∧ StW w0 [] gj13 W ∧ lwpj13 xp K) ?_ ?_
  ·
   refine Ok.region (Ok.bat 2 [1, 4] [(13, .bool true)] ?_)
   refine Ok.boolAt 13 (true) rfl (fun hc2 => ?_) (fun hc2 => ?_)
   ·replace hF := hF.1 hc2
    refine Ok.opYes (j := 1) (d := 13) (want := true) (b := true) rfl (by kernel_rfl) (by kernel_rfl) rfl (OpOk.step (v := .agg #[.slice axp_0 xp.1.length cxp_0, .slice axp_1 xp.2.length cxp_1]) (Yields.loadAgg 0 2 #[.slice axp_0 xp.1.length cxp_0, .slice axp_1 xp.2.length cxp_1] rfl rfl Tryz.underlying25 rfl (by kernel_rfl) (by kernel_rfl) (by kernel_rfl)) rfl rfl ?_)
    obtain ⟨hp3, hF⟩ := hF
    refine Ok.opYes (j := 1) (d := 13) (want := true) (b := true) rfl (by kernel_rfl) (by kernel_rfl) rfl (OpOk.callG (v := .int .i64 (wphS xp)) enr (fun W hW => wph_c xp (hRxp_0.mono hW.sees) (hRxp_1.mono hW.sees) (hG0.mono hW.sees) hp3) rfl ?_)
    refine Ok.batch 4 [(2, .bool ((wphS xp) == (lwpV0 xp)))] (by kernel_rfl) (Ok.nil (Ok.thenN (Ok.reval 2 rfl (show (.bool ((wphS xp) == (lwpV0 xp)) : Value) = .bool (true && ((wphS xp) == (lwpV0 xp))) from congrArg (Value.bool) (mand_t hc2)) ?_)))
    exact fun a W hA hW => ⟨gj7, (Gext.refl w0 gj7), hA.sub (by kernel_rfl), hW.sub (.cons _ .slnil), hF⟩
   ·replace hF := hF.2 hc2
    refine Ok.batch 6 [(2, .bool false)] (by kernel_rfl) (Ok.nil (Ok.thenN (Ok.reval 2 rfl (show (.bool false : Value) = .bool (true && ((wphS xp) == (lwpV0 xp))) from congrArg (Value.bool) (mand_f hc2)) ?_)))
    exact fun a W hA hW => ⟨gj7, (Gext.refl w0 gj7), hA.sub (by kernel_rfl), hW.sub (.cons _ .slnil), hF⟩
  ·
   clear hF
   rintro a W ⟨gj13, hxj13, hA, hW, hF⟩
   refine (?_ : Ok _ _ _ _ _ _) a W hA hW
   clear hA hW
   replace hG0 := hG0.mono hxj13.1
   refine Ok.ret ?_
   exact Ok.resH (vs := [.bool (true && ((wphS xp) == (lwpV0 xp)))]) (.inl rfl) rfl (.cons (.tmp rfl) .nil) (hxj7.trans hxj13) ⟨(true && ((wphS xp) == (lwpV0 xp))), rfl, rfl, hF⟩
theorem lwp_F (p : Ph) (h : wphP p) : lwpF p (fun r => r = true) := by
 have j13 : lwpj13 p (fun r => r = true) := by
  show (true && (wphS p == lwpV0 p)) = true
  unfold wphS lwpV0
  by_cases hc : chkS [p] = 0
  ·rw [hc]; simp
  ·rw [show (chkS [p] != 0) = true by simpa using hc, show (chkS [p] == 0) = false by simpa using hc]; simp
 have j7 : lwpj7 p (fun r => r = true) := ⟨fun _ => ⟨h, j13⟩, fun h => (by cases h)⟩
 exact ⟨wchk p h, fun _ => ⟨wpe p h, j7⟩, fun _ => j7⟩
theorem lwp_c {g : Ghost} {axp_0 : Option Addr} {cxp_0 : Nat} {axp_1 : Option Addr} {cxp_1 : Nat} (xp : (List (List (Tst (Int × Bs × Int × Bs × Int × Int)))) × List (Int)) (hRxp_0 : Rep g (.slice (.slice (.tst (.pair (.int .i64) (.pair (.str) (.pair (.int .u8) (.pair (.str) (.pair (.int .i64) (.int .i64))))))))) [.slice axp_0 xp.1.length cxp_0] xp.1) (hRxp_1 : Rep g (.slice (.int .u8)) [.slice axp_1 xp.2.length cxp_1] xp.2) (hG0 : SomeInt g 0)  (hp : wphP xp) : CallsG Tryz.prog 3 #[.agg #[.slice axp_0 xp.1.length cxp_0, .slice axp_1 xp.2.length cxp_1]] g (.bool true) :=
 (lwp_ok xp hRxp_0 hRxp_1 hG0 _ (lwp_F xp hp)).gives (by rintro g' H' v _ ⟨r0, rfl, rfl, hK⟩; subst hK; rfl)
end Go.Proofs.YtcnhdkhkadiohaaGreatDoor.Se
