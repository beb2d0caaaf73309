/- BucketKeys: keys of paths, by the program; the law. -/
import Derived.Test.YtcnhdkhkadiohaaGreatDoorSyh
namespace Go.Proofs.YtcnhdkhkadiohaaGreatDoor.Se
open Go Go.Eng Go.RowKit Bld Trm Css Tk Ti Me Rp Qu
set_option maxHeartbeats 4000000
set_option maxRecDepth 100000
set_option linter.unusedSimpArgs false
set_option linter.unusedVariables false
def bfiji7 (xs : List TS) (K : Bs → Prop) (j0 : Int) : Prop :=
 ((decide (j0 < 0)) = true → K ([] : Bs)) ∧ ((decide (j0 < 0)) = false → 0 ≤ j0 ∧ Int.toNat j0 < xs.length ∧ K (xs.getD (Int.toNat j0) default).lab.2.1)
def bfil7x1b (xs : List TS) (xkind : Int) (K : Bs → Prop) (q0 : Int) (C7x1 : Int → Prop) : Prop :=
 ((decide (q0 < (xs.length : Int))) = true → 0 ≤ q0 ∧ Int.toNat q0 < xs.length ∧ ((((xs.getD (Int.toNat q0) default).lab.1 == xkind)) = true → bfiji7 xs K q0) ∧ ((((xs.getD (Int.toNat q0) default).lab.1 == xkind)) = false → C7x1 (w6 (q0 + 1)))) ∧ ((decide (q0 < (xs.length : Int))) = false → bfiji7 xs K (-1))
def bfil7x1 (xs : List TS) (xkind : Int) (K : Bs → Prop) : Nat → Int → Prop
 | 0, _ => False
 | k + 1, q0 => bfil7x1b xs xkind K q0 (bfil7x1 xs xkind K k)
def bfiF (xs : List TS) (xkind : Int) (K : Bs → Prop) : Prop :=
 ∃ k, bfil7x1 xs xkind K k 0
theorem bfi_ok {g : Ghost} {axs_0 : Option Addr} {cxs_0 : Nat} (xs : List TS) (xkind : Int) (hRxs_0 : Rep g (.slice yS) [.slice axs_0 xs.length cxs_0] xs) (K : Bs → Prop)
  (hF : bfiF xs xkind K) : CallsH Tryz.prog 42 #[.slice axs_0 xs.length cxs_0, iv xkind] g [] (fun g' H' v => ∃ (r0 : Bs), v = sv r0 ∧ H' = [] ∧ K r0) := by
 refine CallsH.enter 16 [(0, .slice axs_0 xs.length cxs_0), (1, iv xkind)] Tryz.func42 rfl kr kr kr fun w0 => ?_
 refine Ok.sr ((Ok.op rfl (OpOk.box (v := iv xkind) (cs := #[iv xkind]) rfl kr rfl fun bs3 => ?_)))
 refine Ok.B 1 [(0, .slice axs_0 xs.length cxs_0), (3, pv bs3 0)] kr (Ok.nt ((Ok.sr ((Ok.b 2 [0] [(6, .slice axs_0 xs.length cxs_0), (7, .func (.func 59) #[] #[pv bs3 0])] ?_)))))
 refine Ok.op rfl (OpOk.cut (fun a W => ∃ (j0 : Int), StA 16 [(0, .slice axs_0 xs.length cxs_0), (8, iv j0)] a ∧ StW w0 [] g W ∧ bfiji7 xs K j0) ?_ ?_)
 ·
  refine OpOk.i (args := #[.slice axs_0 xs.length cxs_0, .func (.func 59) #[] #[pv bs3 0]]) 19 [(0, .slice axs_0 xs.length cxs_0), (1, .func (.func 59) #[] #[pv bs3 0])] enr Tryz.func58 rfl rfl rfl rfl (Ok.sr ((Ok.B 1 [(0, .slice axs_0 xs.length cxs_0), (1, .func (.func 59) #[] #[pv bs3 0])] kr (Ok.nt ((Ok.q (Ok.sr ((Ok.b 3 [0, 1] [(7, iv (xs.length : Int)), (8, iv 0)] ?_)))))))))
  refine Ok.nt ((Ok.block ?_))
  obtain ⟨k, hF⟩ := hF
  refine Ok.L (fun k a W => ∃ (q0 : Int), StA 19 [(0, .slice axs_0 xs.length cxs_0), (1, .func (.func 59) #[] #[pv bs3 0]), (7, iv (xs.length : Int)), (8, iv q0)] a ∧ StW w0 [.blk bs3 (.cells #[iv xkind] 3)] g W ∧ bfil7x1 xs xkind K k q0) k ?_ ?_
  ·
   exact fun a W hA hW => ⟨0, hA.sub kr, hW, hF⟩
  clear hF
  rintro k7x1 a W ⟨q0, hA, hW, hF⟩
  cases k7x1 with
  | zero => exact (hF : False).elim
  | succ k7x1 =>
   refine (?_ : Ok _ _ _ _ _ _) a W hA hW
   clear hA hW
   refine Ok.sr ((Ok.b 1 [0, 1, 7, 8] [(9, .bool (decide (q0 < (xs.length : Int))))] ?_))
   refine Ok.nt ((Ok.q (Ok.cn hF rfl (fun hc5 => ?_) (fun hc5 => ?_))))
   ·replace hF := hF.1 hc5
    refine Ok.k (Ok.t (Ok.q (Ok.block (Ok.sr ((Ok.b 2 [0, 1, 7, 8] [(5, iv q0)] ?_))))))
    refine Ok.nt ((Ok.sr ((Ok.b 3 [0, 1, 5, 7, 8] [(11, .func (.func 59) #[] #[pv bs3 0]), (12, .slice axs_0 xs.length cxs_0), (13, iv q0)] ?_))))
    obtain ⟨h07, h17, hF⟩ := hF
    have he7 := get_of (l := xs) (default : TS) h17
    generalize hg7 : (xs.getD (Int.toNat q0) default) = e7 at he7 hF ⊢
    refine Ok.op rfl (OpOk.indexRo (e := yS) (i := q0) (el := e7) rfl rfl Tryz.underlying41 kr hRxs_0 h07 he7 rfl fun q6 o6 cs6 _ x1 hr6 => ?_)
    have N0 := hr6
    replace N0 := Rep.tst.1 N0
    obtain ⟨_, _, rfl, ⟨_, _, rfl, rfl, ⟨_, _, rfl, rfl, ⟨_, _, rfl, rfl, ⟨_, _, rfl, rfl, ⟨_, _, rfl, rfl, rfl⟩⟩⟩⟩⟩, ⟨Q0, K0, rfl, hm6_6, hr6_6⟩⟩ := N0
    have hR6_6 : Rep g (.slice yP) [.slice Q0 e7.kids.length K0] e7.kids := ⟨Q0, K0, rfl, hm6_6, hr6_6⟩
    replace x1 : At g q6 o6 (vL e7.lab Q0 e7.kids.length K0) := x1
    refine Ok.op rfl (OpOk.s (v := .agg (aL e7.lab Q0 e7.kids.length K0)) (Yields.loadAggRo 0 7 (aL e7.lab Q0 e7.kids.length K0) x1 kr Tryz.underlying48 rfl kr kr kr) rfl rfl (Ok.op rfl (OpOk.i (args := #[.agg (aL e7.lab Q0 e7.kids.length K0), pv bs3 0]) 8 [(0, .agg (aL e7.lab Q0 e7.kids.length K0)), (1, pv bs3 0)] enr Tryz.func59 rfl rfl rfl rfl (Ok.sr ((Ok.op rfl (OpOk.box (v := .agg (aL e7.lab Q0 e7.kids.length K0)) (cs := (aL e7.lab Q0 e7.kids.length K0)) rfl kr rfl fun S0 => ?_)))))))
    refine Ok.B 1 [(1, pv bs3 0), (2, pv S0 0)] kr (Ok.nt ((Ok.sr ((Ok.b 1 [1] [(4, pv S0 0)] ?_)))))
    refine Ok.op rfl (OpOk.s (v := iv e7.lab.1) (Yields.l 0 rfl rfl Tryz.underlying3 rfl kr) rfl rfl (Ok.op rfl (OpOk.s (v := iv xkind) (Yields.l 1 rfl rfl Tryz.underlying3 rfl kr) rfl rfl (Ok.B 2 [(3, .bool (e7.lab.1 == xkind))] kr (Ok.nt ((Ok.ret (Ok.back (vs := [.bool (e7.lab.1 == xkind)]) (.inl rfl) rfl (.cons (.tmp rfl) .nil) rfl (Ok.nt ((Ok.cn hF rfl (fun hc9 => ?_) (fun hc9 => ?_))))))))))))
    ·replace hF := hF.1 hc9
     refine Ok.sr ((Ok.B 2 [(4, iv q0)] kr (Ok.nt ((Ok.ret (Ok.kr (Ok.tr (Ok.tr (Ok.kr (Ok.tr (Ok.back (vs := [iv q0]) (.inl rfl) rfl (.cons (.tmp rfl) .nil) rfl ?_)))))))))))
     subst hg7
     exact fun a W hA hW => ⟨q0, hA.sub kr, hW.sub (.cons _ (.cons _ .slnil)), hF⟩
    replace hF := hF.2 hc9
    refine Ok.k (Ok.kn (Ok.t (Ok.r (Ok.B 2 [(0, .slice axs_0 xs.length cxs_0), (1, .func (.func 59) #[] #[pv bs3 0]), (7, iv (xs.length : Int)), (8, iv (w6 (q0 + 1)))] kr (Ok.j (Ok.t ?_))))))
    subst hg7
    exact fun a W hA hW => ⟨k7x1, Nat.lt_succ_self _, w6 (q0 + 1), hA.sub kr, hW.sub (.cons _ (.cons_cons _ .slnil)), hF⟩
   replace hF := hF.2 hc5
   refine Ok.x (Ok.thenE (Ok.thenE (Ok.blockHit (Ok.t (Ok.sr ((Ok.B 1 [(4, iv (-1))] kr (Ok.nt ((Ok.ret (Ok.back (vs := [iv (-1)]) (.inl rfl) rfl (.cons (.tmp rfl) .nil) rfl ?_)))))))))))
   exact fun a W hA hW => ⟨-1, hA.sub kr, hW.sub (.cons _ .slnil), hF⟩
 clear hF
 rintro a W ⟨j0, hA, hW, hF⟩
 refine (?_ : Ok _ _ _ _ _ _) a W hA hW
 clear hA hW
 refine Ok.b 1 [0] [(5, iv j0)] ?_
 refine Ok.nt ((Ok.q (Ok.sr ((Ok.b 2 [0, 5] [(10, .bool (decide (j0 < 0)))] ?_)))))
 refine Ok.nt ((Ok.cn hF rfl (fun hc2 => ?_) (fun hc2 => ?_)))
 ·replace hF := hF.1 hc2
  refine Ok.sr ((Ok.B 1 [(4, sv ([] : Bs))] kr (Ok.nt ((Ok.ret (Ok.tr ?_))))))
  exact Ok.resH (vs := [sv ([] : Bs)]) (.inl rfl) rfl (.cons (.tmp rfl) .nil) (Gext.r w0 g) ⟨([] : Bs), rfl, rfl, hF⟩
 replace hF := hF.2 hc2
 refine Ok.k (Ok.t (Ok.sr ((Ok.B 2 [(11, .slice axs_0 xs.length cxs_0), (12, iv j0)] kr ?_))))
 obtain ⟨h04, h14, hF⟩ := hF
 have he4 := get_of (l := xs) (default : TS) h14
 generalize hg4 : (xs.getD (Int.toNat j0) default) = e4 at he4 hF ⊢
 refine Ok.op rfl (OpOk.indexRo (e := yS) (i := j0) (el := e4) rfl rfl Tryz.underlying41 kr hRxs_0 h04 he4 rfl fun q3 o3 cs3 _ s1 hr3 => ?_)
 have O0 := hr3
 replace O0 := Rep.tst.1 O0
 obtain ⟨_, _, rfl, ⟨_, _, rfl, rfl, ⟨_, _, rfl, rfl, ⟨_, _, rfl, rfl, ⟨_, _, rfl, rfl, ⟨_, _, rfl, rfl, rfl⟩⟩⟩⟩⟩, ⟨b1, c1, rfl, hm3_6, hr3_6⟩⟩ := O0
 have hR3_6 : Rep g (.slice yP) [.slice b1 e4.kids.length c1] e4.kids := ⟨b1, c1, rfl, hm3_6, hr3_6⟩
 replace s1 : At g q3 o3 (vL e4.lab b1 e4.kids.length c1) := s1
 refine Ok.B 1 [(14, .pointer (some ⟨q3, o3 + 1, none⟩))] kr (Ok.op rfl (OpOk.s (v := sv e4.lab.2.1) (Yields.lr 1 s1 kr Tryz.underlying9 rfl kr) rfl rfl (Ok.B 1 [(4, sv e4.lab.2.1)] kr (Ok.nt ((Ok.ret ?_))))))
 exact Ok.resH (vs := [sv e4.lab.2.1]) (.inl rfl) rfl (.cons (.tmp rfl) .nil) (Gext.r w0 g) ⟨e4.lab.2.1, rfl, rfl, hF⟩
def fst1 : List Ts → Int → Bs
 | [], _ => []
 | t :: s, k => if (t.lab.1 == k) = true then t.lab.2.1 else fst1 s k
def bfiP (s : List Ts) (_ : Int) : Prop := s.length ≤ 10000000
theorem bfi_F (s : List Ts) (k : Int) (hp : bfiP s k) : bfiF s k (fun r => r = fst1 s k) := by
 have hl : s.length ≤ 10000000 := hp
 have loop : ∀ (m i : Nat), i + m = s.length → fst1 s k = fst1 (s.drop i) k → bfil7x1 s k (fun r => r = fst1 s k) (m + 1) (i : Int) := by
  intro m
  induction m with
  | zero =>
   intro i h h2
   rw [List.drop_of_length_le om, fst1] at h2
   refine ⟨fun h => absurd (of_decide_eq_true h) om, fun _ => ⟨fun _ => h2.symm, fun h => absurd h dc⟩⟩
  | succ m ih =>
   intro i h h2
   rw [drop_get (l := s) default om, fst1] at h2
   refine ⟨fun _ => ⟨by omega, by rw [Int.toNat_natCast]; omega, fun hc => ?_, fun hc => ?_⟩, fun h => absurd (of_decide_eq_false h) om⟩
   ·rw [Int.toNat_natCast] at hc
    rw [if_t hc] at h2
    refine ⟨fun h => absurd (of_decide_eq_true h) om, fun _ => ⟨by omega, by rw [Int.toNat_natCast]; omega, ?_⟩⟩
    rw [Int.toNat_natCast]
    exact h2.symm
   rw [Int.toNat_natCast] at hc
   rw [if_f hc] at h2
   rw [w64 om]
   exact ih (i + 1) om h2
 exact ⟨_, loop s.length 0 om rfl⟩
theorem bfi_c {g : Ghost} {axs_0 : Option Addr} {cxs_0 : Nat} (xs : List TS) (xkind : Int) (hRxs_0 : Rep g (.slice yS) [.slice axs_0 xs.length cxs_0] xs)  (hp : bfiP xs xkind) : CallsG Tryz.prog 42 #[.slice axs_0 xs.length cxs_0, iv xkind] g (sv (fst1 xs xkind)) :=
 (bfi_ok xs xkind hRxs_0 _ (bfi_F xs xkind hp)).gives (by rintro g' H' v _ ⟨r0, rfl, rfl, hK⟩; subst hK; rfl)
def bkyF (xp : PH) (K : Bs → Prop) : Prop :=
 0 ≤ (w6 ((xp.1.length : Int) - 1)) ∧ Int.toNat (w6 ((xp.1.length : Int) - 1)) < xp.1.length ∧ bfiP (xp.1.getD (Int.toNat (w6 ((xp.1.length : Int) - 1))) default) 3 ∧ ((!((fst1 (xp.1.getD (Int.toNat (w6 ((xp.1.length : Int) - 1))) default) 3) == ([] : Bs))) = true → ([35] : Bs).length + (fst1 (xp.1.getD (Int.toNat (w6 ((xp.1.length : Int) - 1))) default) 3).length ≤ maxLen ∧ K (([35] : Bs) ++ (fst1 (xp.1.getD (Int.toNat (w6 ((xp.1.length : Int) - 1))) default) 3))) ∧ ((!((fst1 (xp.1.getD (Int.toNat (w6 ((xp.1.length : Int) - 1))) default) 3) == ([] : Bs))) = false → bfiP (xp.1.getD (Int.toNat (w6 ((xp.1.length : Int) - 1))) default) 4 ∧ ((!((fst1 (xp.1.getD (Int.toNat (w6 ((xp.1.length : Int) - 1))) default) 4) == ([] : Bs))) = true → ([46] : Bs).length + (fst1 (xp.1.getD (Int.toNat (w6 ((xp.1.length : Int) - 1))) default) 4).length ≤ maxLen ∧ K (([46] : Bs) ++ (fst1 (xp.1.getD (Int.toNat (w6 ((xp.1.length : Int) - 1))) default) 4))) ∧ ((!((fst1 (xp.1.getD (Int.toNat (w6 ((xp.1.length : Int) - 1))) default) 4) == ([] : Bs))) = false → bfiP (xp.1.getD (Int.toNat (w6 ((xp.1.length : Int) - 1))) default) 2 ∧ ((!((fst1 (xp.1.getD (Int.toNat (w6 ((xp.1.length : Int) - 1))) default) 2) == ([] : Bs))) = true → K (fst1 (xp.1.getD (Int.toNat (w6 ((xp.1.length : Int) - 1))) default) 2)) ∧ ((!((fst1 (xp.1.getD (Int.toNat (w6 ((xp.1.length : Int) - 1))) default) 2) == ([] : Bs))) = false → K ([42] : Bs))))
theorem bky_ok {g : Ghost} {axp_0 : Option Addr} {cxp_0 : Nat} {axp_1 : Option Addr} {cxp_1 : Nat} (xp : PH) (hRxp_0 : Rep g (.slice (.slice yS)) [.slice axp_0 xp.1.length cxp_0] xp.1) (hRxp_1 : Rep g (.slice yb) [.slice axp_1 xp.2.length cxp_1] xp.2) (K : Bs → Prop)
  (hF : bkyF xp K) : CallsH Tryz.prog 25 #[.agg #[.slice axp_0 xp.1.length cxp_0, .slice axp_1 xp.2.length cxp_1]] g [] (fun g' H' v => ∃ (r0 : Bs), v = sv r0 ∧ H' = [] ∧ K r0) := by
 refine CallsH.enter 32 [(0, .agg #[.slice axp_0 xp.1.length cxp_0, .slice axp_1 xp.2.length cxp_1])] Tryz.func25 rfl kr kr kr fun w0 => ?_
 refine Ok.sr ((Ok.op rfl (OpOk.box (v := .agg #[.slice axp_0 xp.1.length cxp_0, .slice axp_1 xp.2.length cxp_1]) (cs := #[.slice axp_0 xp.1.length cxp_0, .slice axp_1 xp.2.length cxp_1]) rfl kr rfl fun bs1 => ?_)))
 refine Ok.B 1 [(1, pv bs1 0)] kr (Ok.nt ((Ok.sr ((Ok.b 1 [1] [(7, pv bs1 0)] ?_)))))
 refine Ok.op rfl (OpOk.s (v := .slice axp_0 xp.1.length cxp_0) (Yields.l 0 rfl rfl Tryz.underlying22 rfl kr) rfl rfl (Ok.B 1 [(8, .slice axp_0 xp.1.length cxp_0), (9, pv bs1 0)] kr (Ok.op rfl (OpOk.s (v := .slice axp_0 xp.1.length cxp_0) (Yields.l 0 rfl rfl Tryz.underlying22 rfl kr) rfl rfl (Ok.b 2 [8] [(12, iv (w6 ((xp.1.length : Int) - 1)))] ?_)))))
 obtain ⟨h03, h13, hF⟩ := hF
 have he3 := get_of (l := xp.1) (default : List TS) h13
 generalize hg3 : (xp.1.getD (Int.toNat (w6 ((xp.1.length : Int) - 1))) default) = e3 at he3 hF ⊢
 refine Ok.op rfl (OpOk.indexRo (e := .slice yS) (i := w6 ((xp.1.length : Int) - 1)) (el := e3) rfl rfl Tryz.underlying22 kr hRxp_0 h03 he3 rfl fun q2 o2 cs2 _ D0 hr2 => ?_)
 obtain ⟨m0, n0, rfl, hm2_0, hr2_0⟩ := hr2
 have o0 : Rep g (.slice yS) [.slice m0 e3.length n0] e3 := ⟨m0, n0, rfl, hm2_0, hr2_0⟩
 replace D0 : At g q2 o2 [.slice m0 e3.length n0] := D0
 refine Ok.op rfl (OpOk.s (v := .slice m0 e3.length n0) (Yields.lr 0 D0 kr Tryz.underlying41 rfl kr) rfl rfl (Ok.B 1 [(3, .slice m0 e3.length n0)] kr (Ok.nt ((Ok.q (Ok.sr ((Ok.b 1 [3] [(15, .slice m0 e3.length n0)] ?_))))))))
 obtain ⟨hp4, hF⟩ := hF
 refine Ok.op rfl (OpOk.f enr (fun W hW => bfi_c e3 3 (o0.mono hW.sees) hp4) rfl ?_)
 refine Ok.b 1 [3] [(4, sv (fst1 e3 3))] ?_
 refine Ok.nt ((Ok.sr ((Ok.b 1 [3, 4] [(17, sv (fst1 e3 3))] ?_))))
 refine Ok.op rfl (OpOk.s (v := .bool (!((fst1 e3 3) == ([] : Bs)))) (Yields.sc (f := .neq) (a := (fst1 e3 3)) (b := ([] : Bs)) kr kr rfl) rfl rfl (Ok.nt ((Ok.cn hF rfl (fun hc5 => ?_) (fun hc5 => ?_)))))
 ·replace hF := hF.1 hc5
  refine Ok.sr ((Ok.B 1 [(19, sv (fst1 e3 3))] kr ?_))
  obtain ⟨hv, hF⟩ := hF
  refine Ok.op rfl (OpOk.s (v := sv (([35] : Bs) ++ (fst1 e3 3))) (Yields.sa rfl rfl hv) rfl rfl (Ok.B 1 [(2, sv (([35] : Bs) ++ (fst1 e3 3)))] kr (Ok.nt ((Ok.ret (Ok.tr ?_))))))
  exact Ok.p (vs := [sv (([35] : Bs) ++ (fst1 e3 3))]) [] [] dc rfl (.inl rfl) rfl (.cons (.tmp rfl) .nil) (Gext.r w0 g) ⟨(([35] : Bs) ++ (fst1 e3 3)), rfl, rfl, hF⟩
 replace hF := hF.2 hc5
 refine Ok.k (Ok.t (Ok.q (Ok.sr ((Ok.b 1 [3] [(21, .slice m0 e3.length n0)] ?_)))))
 obtain ⟨hp6, hF⟩ := hF
 refine Ok.op rfl (OpOk.f enr (fun W hW => bfi_c e3 4 (o0.mono hW.sees) hp6) rfl ?_)
 refine Ok.b 1 [3] [(5, sv (fst1 e3 4))] ?_
 refine Ok.nt ((Ok.sr ((Ok.b 1 [3, 5] [(23, sv (fst1 e3 4))] ?_))))
 refine Ok.op rfl (OpOk.s (v := .bool (!((fst1 e3 4) == ([] : Bs)))) (Yields.sc (f := .neq) (a := (fst1 e3 4)) (b := ([] : Bs)) kr kr rfl) rfl rfl (Ok.nt ((Ok.cn hF rfl (fun hc7 => ?_) (fun hc7 => ?_)))))
 ·replace hF := hF.1 hc7
  refine Ok.sr ((Ok.B 1 [(25, sv (fst1 e3 4))] kr ?_))
  obtain ⟨hv, hF⟩ := hF
  refine Ok.op rfl (OpOk.s (v := sv (([46] : Bs) ++ (fst1 e3 4))) (Yields.sa rfl rfl hv) rfl rfl (Ok.B 1 [(2, sv (([46] : Bs) ++ (fst1 e3 4)))] kr (Ok.nt ((Ok.ret (Ok.tr ?_))))))
  exact Ok.p (vs := [sv (([46] : Bs) ++ (fst1 e3 4))]) [] [] dc rfl (.inl rfl) rfl (.cons (.tmp rfl) .nil) (Gext.r w0 g) ⟨(([46] : Bs) ++ (fst1 e3 4)), rfl, rfl, hF⟩
 replace hF := hF.2 hc7
 refine Ok.k (Ok.t (Ok.q (Ok.sr ((Ok.B 1 [(27, .slice m0 e3.length n0)] kr ?_)))))
 obtain ⟨hp8, hF⟩ := hF
 refine Ok.op rfl (OpOk.f enr (fun W hW => bfi_c e3 2 (o0.mono hW.sees) hp8) rfl ?_)
 refine Ok.B 1 [(6, sv (fst1 e3 2))] kr (Ok.nt ((Ok.sr ((Ok.b 1 [6] [(29, sv (fst1 e3 2))] ?_)))))
 refine Ok.op rfl (OpOk.s (v := .bool (!((fst1 e3 2) == ([] : Bs)))) (Yields.sc (f := .neq) (a := (fst1 e3 2)) (b := ([] : Bs)) kr kr rfl) rfl rfl (Ok.nt ((Ok.cn hF rfl (fun hc9 => ?_) (fun hc9 => ?_)))))
 ·replace hF := hF.1 hc9
  refine Ok.sr ((Ok.B 2 [(2, sv (fst1 e3 2))] kr (Ok.nt ((Ok.ret (Ok.tr ?_))))))
  exact Ok.p (vs := [sv (fst1 e3 2)]) [] [] dc rfl (.inl rfl) rfl (.cons (.tmp rfl) .nil) (Gext.r w0 g) ⟨(fst1 e3 2), rfl, rfl, hF⟩
 replace hF := hF.2 hc9
 refine Ok.k (Ok.t (Ok.sr ((Ok.B 1 [(2, sv ([42] : Bs))] kr (Ok.nt ((Ok.ret ?_)))))))
 exact Ok.p (vs := [sv ([42] : Bs)]) [] [] dc rfl (.inl rfl) rfl (.cons (.tmp rfl) .nil) (Gext.r w0 g) ⟨([42] : Bs), rfl, rfl, hF⟩
def lastS (p : Ph) : List Ts := p.1.getD (p.1.length - 1) default
def keyS (p : Ph) : Bs :=
 if (!(fst1 (lastS p) 3 == [])) = true then [35] ++ fst1 (lastS p) 3 else if (!(fst1 (lastS p) 4 == [])) = true then [46] ++ fst1 (lastS p) 4
 else if (!(fst1 (lastS p) 2 == [])) = true then fst1 (lastS p) 2 else [42]
def keyP (p : Ph) : Prop := p.1 ≠ [] ∧ w2 p.1 ≤ 1048600
theorem fst1_len (k : Int) : ∀ s : List Ts, (fst1 s k).length ≤ w1 s
 | [] => Nat.zero_le _
 | t :: s => by
  have h1 := fst1_len k s
  have h2 := bT_kids t
  rw [fst1, w1]
  split <;> omega
theorem last_idx {p : Ph} (h : p.1 ≠ []) (hb : w2 p.1 ≤ 1048600) : 1 ≤ p.1.length ∧ w6 ((p.1.length : Int) - 1) = ((p.1.length - 1 : Nat) : Int) ∧ bfiP (lastS p) 0 ∧ w1 (lastS p) ≤ 1048600 := by
 have h1 : 1 ≤ p.1.length := by
  cases hp : p.1 with
  | nil => exact absurd hp h
  | cons s l => simp
 have hl := w2_len p.1
 have hm : lastS p ∈ p.1 := get_in default om
 have h2 := w2_in hm
 have h3 := w1_len (lastS p)
 refine ⟨h1, by rw [w64 om]; omega, by show (lastS p).length ≤ 10000000; omega, by omega⟩
theorem fst_max {p : Ph} (h : p.1 ≠ []) (hb : w2 p.1 ≤ 1048600) (c : UInt8) (k : Int) : ([c] : Bs).length + (fst1 (lastS p) k).length ≤ maxLen := by
 have h1 := (last_idx h hb).2.2.2
 have h2 := fst1_len k (lastS p)
 rw [maxLen_eq, List.length_singleton]; omega
theorem bky_F (p : Ph) (hp : keyP p) : bkyF p (fun r => r = keyS p) := by
 obtain ⟨hne, hb⟩ := hp
 obtain ⟨h1, h2, h3, h4⟩ := last_idx hne hb
 have hm := fst_max hne hb
 unfold bkyF keyS
 rw [h2, Int.toNat_natCast]
 show _ ∧ _ ∧ bfiP (lastS p) 3 ∧ _
 refine ⟨by omega, by omega, h3, fun a => ⟨hm 35 3, by rw [show (!(fst1 (lastS p) 3 == [])) = true from a]; rfl⟩, fun a => ⟨h3, fun b => ⟨hm 46 4, ?_⟩, fun b => ⟨h3, fun c => ?_, fun c => ?_⟩⟩⟩
 ·rw [show (!(fst1 (lastS p) 3 == [])) = false from a, show (!(fst1 (lastS p) 4 == [])) = true from b]; rfl
 ·rw [show (!(fst1 (lastS p) 3 == [])) = false from a, show (!(fst1 (lastS p) 4 == [])) = false from b, show (!(fst1 (lastS p) 2 == [])) = true from c]; rfl
 rw [show (!(fst1 (lastS p) 3 == [])) = false from a, show (!(fst1 (lastS p) 4 == [])) = false from b, show (!(fst1 (lastS p) 2 == [])) = false from c]; rfl
theorem bky_c {g : Ghost} {axp_0 : Option Addr} {cxp_0 : Nat} {axp_1 : Option Addr} {cxp_1 : Nat} (xp : PH) (hRxp_0 : Rep g (.slice (.slice yS)) [.slice axp_0 xp.1.length cxp_0] xp.1) (hRxp_1 : Rep g (.slice yb) [.slice axp_1 xp.2.length cxp_1] xp.2)  (hp : keyP xp) : CallsG Tryz.prog 25 #[.agg #[.slice axp_0 xp.1.length cxp_0, .slice axp_1 xp.2.length cxp_1]] g (sv (keyS xp)) :=
 (bky_ok xp hRxp_0 hRxp_1 _ (bky_F xp hp)).gives (by rintro g' H' v _ ⟨r0, rfl, rfl, hK⟩; subst hK; rfl)
def bksl19b (xs : Bs) (K : (List Bs) → Int → Prop) (k0 : Int) (v0 : List Bs) (C19 : Int → (List Bs) → Prop) : Prop :=
 ((decide (k0 < (((rdS xs).1).length : Int))) = true → 0 ≤ k0 ∧ Int.toNat k0 < ((rdS xs).1).length ∧ keyP (((rdS xs).1).getD (Int.toNat k0) default) ∧ (v0 ++ ([(keyS (((rdS xs).1).getD (Int.toNat k0) default))] : List Bs)).length ≤ 8796093022208 ∧ C19 (w6 (k0 + 1)) (v0 ++ ([(keyS (((rdS xs).1).getD (Int.toNat k0) default))] : List Bs))) ∧ ((decide (k0 < (((rdS xs).1).length : Int))) = false → K v0 0)
def bksl19 (xs : Bs) (K : (List Bs) → Int → Prop) : Nat → Int → (List Bs) → Prop
 | 0, _, _ => False
 | k + 1, k0, v0 => bksl19b xs K k0 v0 (bksl19 xs K k)
def bksF (xs : Bs) (K : (List Bs) → Int → Prop) : Prop :=
 rdP xs ∧ ((((rdS xs).2 != 0)) = true → K ([] : List Bs) (rdS xs).2) ∧ ((((rdS xs).2 != 0)) = false → ∃ k, bksl19 xs K k 0 ([] : List Bs))
theorem bks_ok {g : Ghost} (xs : Bs) (hG0 : SomeInt g 0) (K : (List Bs) → Int → Prop)
  (hF : bksF xs K) : CallsH Tryz.prog 14 #[sv xs] g [] (fun g' H' v => ∃ (r0 : List Bs), ∃ (r1 : Int), ∃ (p0 : Option Addr) (t0 : Nat), v = .tuple #[.slice p0 r0.length t0, iv r1] ∧ Rep g' (.slice (.str)) [.slice p0 r0.length t0] r0 ∧ H' = [] ∧ K r0 r1) := by
 refine CallsH.enter 30 [(0, sv xs)] Tryz.func14 rfl kr kr kr fun w0 => ?_
 refine Ok.sr ((Ok.B 1 [(0, sv xs)] kr (Ok.b 1 [0] [] ?_)))
 refine Ok.nt ((Ok.sr ((Ok.B 1 [(10, sv xs)] kr ?_))))
 obtain ⟨hp1, hF⟩ := hF
 refine Ok.op rfl (OpOk.callH [] _ enr rfl (rd_c xs hG0 hp1) rfl fun g2 _ _ hx2 hV2 => ?_)
 obtain ⟨m0, n0, rfl, o0, rfl⟩ := hV2
 replace hG0 := hG0.mono hx2.1
 refine Ok.B 5 [(4, .slice m0 ((rdS xs).1).length n0), (5, iv (rdS xs).2)] kr (Ok.nt ((Ok.q (Ok.sr ((Ok.b 2 [4, 5] [(15, .bool ((rdS xs).2 != 0))] ?_))))))
 refine Ok.nt ((Ok.cn hF rfl (fun hc3 => ?_) (fun hc3 => ?_)))
 ·replace hF := hF.1 hc3
  refine Ok.sr ((Ok.B 2 [(2, .slice none 0 0), (16, iv (rdS xs).2)] kr ?_))
  have hL4 : RepL g2 (.str) [] [] := rfl
  refine Ok.ownNil 9 1 (Ok.B 1 [(2, .slice none ([] : List Bs).length 0), (3, iv (rdS xs).2)] kr (Ok.nt ((Ok.ret (Ok.tr (Ok.frz 0 rfl hL4 fun g5 hx5 hRf5 => ?_))))))
  replace hG0 := hG0.mono hx5.1
  exact Ok.resH (vs := [.slice none ([] : List Bs).length 0, iv (rdS xs).2]) (.inl rfl) rfl (.cons (.tmp rfl) (.cons (.tmp rfl) .nil)) (hx2.trans hx5) ⟨([] : List Bs), (rdS xs).2, none, 0, rfl, hRf5, rfl, hF⟩
 replace hF := hF.2 hc3
 refine Ok.k (Ok.t (Ok.sr ((Ok.b 1 [4] [(6, .slice none 0 0)] ?_))))
 have hL6 : RepL g2 (.str) [] [] := rfl
 refine Ok.ownNil 9 1 (Ok.nt ((Ok.q (Ok.sr ((Ok.B 3 [(6, .slice none ([] : List Bs).length 0), (17, .slice m0 ((rdS xs).1).length n0), (18, iv (((rdS xs).1).length : Int)), (19, iv 0)] kr (Ok.nt ((Ok.block ?_)))))))))
 obtain ⟨k, hF⟩ := hF
 refine Ok.L (fun k a W => ∃ Y0 : Ghost, Gext w0 g2 Y0 ∧ ∃ (k0 : Int) (y0 : Option Addr) (u0 : Nat) (v0 : List Bs) (s0 : List Value), RepL Y0 (.str) s0 v0 ∧ StA 30 [(6, .slice y0 v0.length u0), (17, .slice m0 ((rdS xs).1).length n0), (18, iv (((rdS xs).1).length : Int)), (19, iv k0)] a ∧ StW w0 [.own (.slice y0 v0.length u0) 9 1 v0.length s0] Y0 W ∧ bksl19 xs K k k0 v0) k ?_ ?_
 ·
  exact fun a W hA hW => ⟨g2, (Gext.r w0 g2), 0, none, 0, ([] : List Bs), [], hL6, hA.sub kr, hW, hF⟩
 clear hF
 rintro k19 a W ⟨Y0, G0, k0, y0, u0, v0, s0, f0, hA, hW, hF⟩
 cases k19 with
 | zero => exact (hF : False).elim
 | succ k19 =>
  refine (?_ : Ok _ _ _ _ _ _) a W hA hW
  clear hA hW
  replace o0 := o0.mono G0.1
  replace hG0 := hG0.mono G0.1
  refine Ok.sr ((Ok.b 1 [6, 17, 18, 19] [(20, .bool (decide (k0 < (((rdS xs).1).length : Int))))] ?_))
  refine Ok.nt ((Ok.q (Ok.cn hF rfl (fun hc7 => ?_) (fun hc7 => ?_))))
  ·replace hF := hF.1 hc7
   refine Ok.k (Ok.t (Ok.q (Ok.block (Ok.q (Ok.r ?_)))))
   obtain ⟨h09, h19, hF⟩ := hF
   have he9 := get_of (l := (rdS xs).1) (default : PH) h19
   generalize hg9 : (((rdS xs).1).getD (Int.toNat k0) default) = e9 at he9 hF ⊢
   refine Ok.op rfl (OpOk.indexRo (e := yP) (i := k0) (el := e9) rfl rfl Tryz.underlying29 kr o0 h09 he9 rfl fun q8 o8 cs8 _ d1 hr8 => ?_)
   obtain ⟨_, _, rfl, ⟨U0, J0, rfl, hm8_0, hr8_0⟩, ⟨W0, X0, rfl, hm8_1, hr8_1⟩⟩ := hr8
   have hR8_0 : Rep Y0 (.slice (.slice yS)) [.slice U0 e9.1.length J0] e9.1 := ⟨U0, J0, rfl, hm8_0, hr8_0⟩
   have hR8_1 : Rep Y0 (.slice yb) [.slice W0 e9.2.length X0] e9.2 := ⟨W0, X0, rfl, hm8_1, hr8_1⟩
   replace d1 : At Y0 q8 o8 [.slice U0 e9.1.length J0, .slice W0 e9.2.length X0] := d1
   refine Ok.op rfl (OpOk.s (v := .agg #[.slice U0 e9.1.length J0, .slice W0 e9.2.length X0]) (Yields.loadAggRo 0 2 #[.slice U0 e9.1.length J0, .slice W0 e9.2.length X0] d1 kr Tryz.underlying25 rfl kr kr kr) rfl rfl (Ok.op rfl (OpOk.a (z := .agg #[.slice none 0 0, .slice none 0 0]) (cs := #[.slice none 0 0, .slice none 0 0]) kr kr rfl fun bs8 => ?_)))
   refine Ok.op rfl (OpOk.sto (k := 2) (v := .agg #[.slice U0 e9.1.length J0, .slice W0 e9.2.length X0]) 0 #[.slice U0 e9.1.length J0, .slice W0 e9.2.length X0] rfl rfl rfl ?_)
   refine Ok.nt ((Ok.r (Ok.b 1 [17, 18, 19] [(8, pv bs8 0), (23, .slice y0 v0.length u0)] ?_)))
   refine Ok.op rfl (OpOk.s (v := .agg #[.slice U0 e9.1.length J0, .slice W0 e9.2.length X0]) (Yields.loadAgg 0 2 #[.slice U0 e9.1.length J0, .slice W0 e9.2.length X0] rfl rfl Tryz.underlying25 rfl kr kr kr) rfl rfl ?_)
   obtain ⟨hp11, hF⟩ := hF
   refine Ok.op rfl (OpOk.f enr (fun W hW => bky_c e9 (hR8_0.mono hW.sees) (hR8_1.mono hW.sees) hp11) rfl ?_)
   have Z1 : RepL Y0 (.str) ([sv (keyS e9)] : List Value) ([(keyS e9)] : List Bs) := (RepL.consN (c := [sv (keyS e9)]) rfl rfl)
   refine Ok.op rfl (OpOk.lit (E := 9) (.str) ([(keyS e9)] : List Bs) ([sv (keyS e9)] : List Value) kr kr rfl kr Z1 rfl fun b12 => ?_)
   obtain ⟨hb13, hF⟩ := hF
   refine Ok.op rfl (OpOk.append' (e := .str) 16 8796093022208 2 0 rfl rfl rfl rfl f0 Z1 Tryz.underlying38 kr kr kr hb13 rfl fun a13 c13 xs13 hL13 => ?_)
   refine Ok.b 1 [17, 18, 19] [(6, .slice a13 (v0 ++ ([(keyS e9)] : List Bs)).length c13)] ?_
   refine Ok.j (Ok.kn (Ok.t (Ok.r (Ok.b 2 [6, 17, 18] [(19, iv (w6 (k0 + 1)))] ?_))))
   refine Ok.j (Ok.t ?_)
   subst hg9
   exact fun a W hA hW => ⟨k19, Nat.lt_succ_self _, Y0, G0, w6 (k0 + 1), a13, c13, (v0 ++ ([(keyS (((rdS xs).1).getD (Int.toNat k0) default))] : List Bs)), xs13, hL13, hA.sub kr, hW.sub (.cons _ (.cons _ (.cons_cons _ .slnil))), hF⟩
  replace hF := hF.2 hc7
  refine Ok.x (Ok.thenE (Ok.thenE (Ok.blockHit (Ok.t (Ok.sr ((Ok.B 3 [(2, .slice y0 v0.length u0), (3, iv 0)] kr (Ok.nt ((Ok.ret (Ok.frz 0 rfl f0 fun g14 V1 hRf14 => ?_)))))))))))
  replace hG0 := hG0.mono V1.1
  exact Ok.resH (vs := [.slice y0 v0.length u0, iv 0]) (.inl rfl) rfl (.cons (.tmp rfl) (.cons (.tmp rfl) .nil)) ((hx2.trans G0).trans V1) ⟨v0, 0, y0, u0, rfl, hRf14, rfl, hF⟩
def bksS (s : Bs) : List Bs × Int := ((rdS s).1.map keyS, 0)
theorem told_key {l : List Ph} (h : Told l) {i : Nat} (hi : i < l.length) : keyP (l.getD i default) := by
 have hm : l.getD i default ∈ l := get_in default hi
 have h3 := w3_in hm
 have h5 := b3_eq l
 have := h.1.1
 exact ⟨(ok3_in (told_ok h).1 hm).1.1, by omega⟩
theorem bks_F (s : Bs) (hp : rdP s) : bksF s (fun a b => (a, b) = bksS s) := by
 obtain ⟨l, h, rfl⟩ := hp
 unfold bksF bksS
 rw [rd_eq h]
 have hl : l.length ≤ 1048600 := by have := w3_len l; have := b3_eq l; have := h.1.1; omega
 refine ⟨⟨l, h, rfl⟩, fun h => absurd h (by show ¬ ((0 : Int) != 0) = true; decide), fun _ => ?_⟩
 have loop : ∀ (m i : Nat), i + m = l.length → bksl19 (tx3 l) (fun a b => (a, b) = (l.map keyS, (0 : Int))) (m + 1) (i : Int) ((l.take i).map keyS) := by
  intro m
  induction m with
  | zero =>
   intro i hi
   rw [bksl19]
   unfold bksl19b
   rw [rd_eq h]
   refine ⟨fun hc => absurd (of_decide_eq_true hc) (by show ¬ ((i : Int) < (l.length : Int)); omega), fun _ => ?_⟩
   rw [List.take_of_length_le om]
  | succ m ih =>
   intro i hi
   rw [bksl19]
   unfold bksl19b
   rw [rd_eq h]
   refine ⟨fun _ => ⟨by omega, by rw [Int.toNat_natCast]; show i < l.length; omega, by rw [Int.toNat_natCast]; exact told_key h om, ?_, ?_⟩, fun hc => absurd (of_decide_eq_false hc) (by show ¬ ¬ ((i : Int) < (l.length : Int)); omega)⟩
   ·rw [List.length_append, List.length_singleton, List.length_map, List.length_take]; omega
   rw [Int.toNat_natCast, w64 om, show (i : Int) + 1 = ((i + 1 : Nat) : Int) by omega]
   have := ih (i + 1) om
   rw [take_get default (by omega : i < l.length), List.map_append] at this
   exact this
 exact ⟨_, loop l.length 0 om⟩
theorem bks_c {g : Ghost} (xs : Bs) (hG0 : SomeInt g 0)  (hp : rdP xs) : CallsH Tryz.prog 14 #[sv xs] g [] (fun g' H' v => ∃ (p0 : Option Addr) (t0 : Nat), v = .tuple #[.slice p0 ((bksS xs).1).length t0, iv (bksS xs).2] ∧ Rep g' (.slice (.str)) [.slice p0 ((bksS xs).1).length t0] (bksS xs).1 ∧ H' = []) :=
 (bks_ok xs hG0 _ (bks_F xs hp)).mono (by rintro g' H' v _ ⟨r0, r1, p0, t0, rfl, hRr0_0, rfl, hK⟩; obtain ⟨rfl, rfl⟩ : r0 = (bksS xs).1 ∧ r1 = (bksS xs).2 := ⟨congrArg (fun z => z.1) hK, congrArg (fun z => z.2) hK⟩; exact ⟨p0, t0, rfl, hRr0_0, rfl⟩)
def fofl7b (xs : List TS) (xkind : Int) (K : Bs → Prop) (x0 : Int) (C7 : Int → Prop) : Prop :=
 ((decide (x0 < (xs.length : Int))) = true → 0 ≤ x0 ∧ Int.toNat x0 < xs.length ∧ ((((xs.getD (Int.toNat x0) default).lab.1 == xkind)) = true → K (xs.getD (Int.toNat x0) default).lab.2.1) ∧ ((((xs.getD (Int.toNat x0) default).lab.1 == xkind)) = false → C7 (w6 (x0 + 1)))) ∧ ((decide (x0 < (xs.length : Int))) = false → K ([] : Bs))
def fofl7 (xs : List TS) (xkind : Int) (K : Bs → Prop) : Nat → Int → Prop
 | 0, _ => False
 | k + 1, x0 => fofl7b xs xkind K x0 (fofl7 xs xkind K k)
def fofF (xs : List TS) (xkind : Int) (K : Bs → Prop) : Prop :=
 ∃ k, fofl7 xs xkind K k 0
theorem fof_ok {g : Ghost} {axs_0 : Option Addr} {cxs_0 : Nat} (xs : List TS) (xkind : Int) (hRxs_0 : Rep g (.slice yS) [.slice axs_0 xs.length cxs_0] xs) (K : Bs → Prop)
  (hF : fofF xs xkind K) : CallsH Tryz.prog 15 #[.slice axs_0 xs.length cxs_0, iv xkind] g [] (fun g' H' v => ∃ (r0 : Bs), v = sv r0 ∧ H' = [] ∧ K r0) := by
 refine CallsH.enter 24 [(0, .slice axs_0 xs.length cxs_0), (1, iv xkind)] Tryz.func15 rfl kr kr kr fun w0 => ?_
 refine Ok.sr ((Ok.B 1 [(0, .slice axs_0 xs.length cxs_0), (1, iv xkind)] kr (Ok.nt ((Ok.q (Ok.sr ((Ok.b 1 [0, 1] [(5, iv 0)] ?_))))))))
 refine Ok.nt ((Ok.block ?_))
 obtain ⟨k, hF⟩ := hF
 refine Ok.L (fun k a W => ∃ (x0 : Int), StA 24 [(0, .slice axs_0 xs.length cxs_0), (1, iv xkind), (5, iv x0)] a ∧ StW w0 [] g W ∧ fofl7 xs xkind K k x0) k ?_ ?_
 ·
  exact fun a W hA hW => ⟨0, hA.sub kr, hW, hF⟩
 clear hF
 rintro k7 a W ⟨x0, hA, hW, hF⟩
 cases k7 with
 | zero => exact (hF : False).elim
 | succ k7 =>
  refine (?_ : Ok _ _ _ _ _ _) a W hA hW
  clear hA hW
  refine Ok.q (Ok.sr ((Ok.b 4 [0, 1, 5] [(9, .bool (decide (x0 < (xs.length : Int))))] ?_)))
  refine Ok.nt ((Ok.cn hF rfl (fun hc1 => ?_) (fun hc1 => ?_)))
  ·replace hF := hF.1 hc1
   refine Ok.k (Ok.t (Ok.q (Ok.block (Ok.sr ((Ok.b 2 [0, 1, 5] [(12, .slice axs_0 xs.length cxs_0), (13, iv x0)] ?_))))))
   obtain ⟨h03, h13, hF⟩ := hF
   have he3 := get_of (l := xs) (default : TS) h13
   generalize hg3 : (xs.getD (Int.toNat x0) default) = e3 at he3 hF ⊢
   refine Ok.op rfl (OpOk.indexRo (e := yS) (i := x0) (el := e3) rfl rfl Tryz.underlying41 kr hRxs_0 h03 he3 rfl fun q2 o2 cs2 _ D0 hr2 => ?_)
   have P0 := hr2
   replace P0 := Rep.tst.1 P0
   obtain ⟨_, _, rfl, ⟨_, _, rfl, rfl, ⟨_, _, rfl, rfl, ⟨_, _, rfl, rfl, ⟨_, _, rfl, rfl, ⟨_, _, rfl, rfl, rfl⟩⟩⟩⟩⟩, ⟨e1, f1, rfl, hm2_6, hr2_6⟩⟩ := P0
   have hR2_6 : Rep g (.slice yP) [.slice e1 e3.kids.length f1] e3.kids := ⟨e1, f1, rfl, hm2_6, hr2_6⟩
   replace D0 : At g q2 o2 (vL e3.lab e1 e3.kids.length f1) := D0
   refine Ok.b 1 [0, 1, 5] [(15, pv q2 o2)] ?_
   refine Ok.op rfl (OpOk.s (v := iv e3.lab.1) (Yields.lr 0 D0 kr Tryz.underlying3 rfl kr) rfl rfl (Ok.b 2 [0, 1, 5] [(18, .bool (e3.lab.1 == xkind))] ?_))
   refine Ok.nt ((Ok.cn hF rfl (fun hc4 => ?_) (fun hc4 => ?_)))
   ·replace hF := hF.1 hc4
    refine Ok.sr ((Ok.B 2 [(19, .slice axs_0 xs.length cxs_0), (20, iv x0)] kr (Ok.op rfl (OpOk.indexRo (e := yS) (i := x0) (el := e3) rfl rfl Tryz.underlying41 kr hRxs_0 h03 he3 rfl fun q5 o5 cs5 _ g1 hr5 => ?_))))
    have R0 := hr5
    replace R0 := Rep.tst.1 R0
    obtain ⟨_, _, rfl, ⟨_, _, rfl, rfl, ⟨_, _, rfl, rfl, ⟨_, _, rfl, rfl, ⟨_, _, rfl, rfl, ⟨_, _, rfl, rfl, rfl⟩⟩⟩⟩⟩, ⟨m1, n1, rfl, hm5_6, hr5_6⟩⟩ := R0
    have hR5_6 : Rep g (.slice yP) [.slice m1 e3.kids.length n1] e3.kids := ⟨m1, n1, rfl, hm5_6, hr5_6⟩
    replace g1 : At g q5 o5 (vL e3.lab m1 e3.kids.length n1) := g1
    refine Ok.B 1 [(22, .pointer (some ⟨q5, o5 + 1, none⟩))] kr (Ok.op rfl (OpOk.s (v := sv e3.lab.2.1) (Yields.lr 1 g1 kr Tryz.underlying9 rfl kr) rfl rfl (Ok.B 1 [(4, sv e3.lab.2.1)] kr (Ok.nt ((Ok.ret (Ok.kr (Ok.tr (Ok.tr (Ok.kr (Ok.tr ?_)))))))))))
    exact Ok.resH (vs := [sv e3.lab.2.1]) (.inl rfl) rfl (.cons (.tmp rfl) .nil) (Gext.r w0 g) ⟨e3.lab.2.1, rfl, rfl, hF⟩
   replace hF := hF.2 hc4
   refine Ok.k (Ok.kn (Ok.t (Ok.r (Ok.b 3 [0, 1] [(5, iv (w6 (x0 + 1)))] ?_))))
   refine Ok.j (Ok.t ?_)
   subst hg3
   exact fun a W hA hW => ⟨k7, Nat.lt_succ_self _, w6 (x0 + 1), hA.sub kr, hW, hF⟩
  replace hF := hF.2 hc1
  refine Ok.x (Ok.thenE (Ok.thenE (Ok.blockHit (Ok.t (Ok.sr ((Ok.B 1 [(4, sv ([] : Bs))] kr (Ok.nt ((Ok.ret ?_))))))))))
  exact Ok.resH (vs := [sv ([] : Bs)]) (.inl rfl) rfl (.cons (.tmp rfl) .nil) (Gext.r w0 g) ⟨([] : Bs), rfl, rfl, hF⟩
theorem fof_F (s : List Ts) (k : Int) (hp : bfiP s k) : fofF s k (fun r => r = fst1 s k) := by
 have hl : s.length ≤ 10000000 := hp
 have loop : ∀ (m i : Nat), i + m = s.length → fst1 s k = fst1 (s.drop i) k → fofl7 s k (fun r => r = fst1 s k) (m + 1) (i : Int) := by
  intro m
  induction m with
  | zero =>
   intro i h h2
   rw [List.drop_of_length_le om, fst1] at h2
   exact ⟨fun h => absurd (of_decide_eq_true h) om, fun _ => h2.symm⟩
  | succ m ih =>
   intro i h h2
   rw [drop_get (l := s) default om, fst1] at h2
   refine ⟨fun _ => ⟨by omega, by rw [Int.toNat_natCast]; omega, fun hc => ?_, fun hc => ?_⟩, fun h => absurd (of_decide_eq_false h) om⟩
   ·rw [Int.toNat_natCast] at hc
    rw [if_t hc] at h2
    rw [Int.toNat_natCast]
    exact h2.symm
   rw [Int.toNat_natCast] at hc
   rw [if_f hc] at h2
   rw [w64 om]
   exact ih (i + 1) om h2
 exact ⟨_, loop s.length 0 om rfl⟩
theorem fof_c {g : Ghost} {axs_0 : Option Addr} {cxs_0 : Nat} (xs : List TS) (xkind : Int) (hRxs_0 : Rep g (.slice yS) [.slice axs_0 xs.length cxs_0] xs)  (hp : bfiP xs xkind) : CallsG Tryz.prog 15 #[.slice axs_0 xs.length cxs_0, iv xkind] g (sv (fst1 xs xkind)) :=
 (fof_ok xs xkind hRxs_0 _ (fof_F xs xkind hp)).gives (by rintro g' H' v _ ⟨r0, rfl, rfl, hK⟩; subst hK; rfl)
def lbkV0 (e13 : List TS) : Bs :=
 (if (!((fst1 e13 2) == ([] : Bs))) = true then (fst1 e13 2) else ([42] : Bs))
def lbkV1 (e13 : List TS) : Bs :=
 (if (!((fst1 e13 4) == ([] : Bs))) = true then ([46] : Bs) ++ (fst1 e13 4) else (lbkV0 e13))
def lbkV2 (e13 : List TS) : Bs :=
 (if (!((fst1 e13 3) == ([] : Bs))) = true then ([35] : Bs) ++ (fst1 e13 3) else (lbkV1 e13))
def lbkj58 (xl : List PH) (K : Bool → Prop) (e13 : List TS) (z0 : Int) (C29 : Int → Prop) : Prop :=
 0 ≤ z0 ∧ Int.toNat z0 < ((bksS (sxtS xl).1).1).length ∧ ((!((((bksS (sxtS xl).1).1).getD (Int.toNat z0) default) == (lbkV2 e13))) = true → K false) ∧ ((!((((bksS (sxtS xl).1).1).getD (Int.toNat z0) default) == (lbkV2 e13))) = false → C29 (w6 (z0 + 1)))
def lbkj50 (xl : List PH) (K : Bool → Prop) (e13 : List TS) (z0 : Int) (C29 : Int → Prop) : Prop :=
 bfiP e13 3 ∧ ((!((fst1 e13 3) == ([] : Bs))) = true → ([35] : Bs).length + (fst1 e13 3).length ≤ maxLen ∧ lbkj58 xl K e13 z0 C29) ∧ ((!((fst1 e13 3) == ([] : Bs))) = false → lbkj58 xl K e13 z0 C29)
def lbkj42 (xl : List PH) (K : Bool → Prop) (e13 : List TS) (z0 : Int) (C29 : Int → Prop) : Prop :=
 bfiP e13 4 ∧ ((!((fst1 e13 4) == ([] : Bs))) = true → ([46] : Bs).length + (fst1 e13 4).length ≤ maxLen ∧ lbkj50 xl K e13 z0 C29) ∧ ((!((fst1 e13 4) == ([] : Bs))) = false → lbkj50 xl K e13 z0 C29)
def lbkl29b (xl : List PH) (K : Bool → Prop) (z0 : Int) (C29 : Int → Prop) : Prop :=
 ((decide (z0 < (xl.length : Int))) = true → 0 ≤ z0 ∧ Int.toNat z0 < xl.length ∧ 0 ≤ (w6 (((xl.getD (Int.toNat z0) default).1.length : Int) - 1)) ∧ Int.toNat (w6 (((xl.getD (Int.toNat z0) default).1.length : Int) - 1)) < (xl.getD (Int.toNat z0) default).1.length ∧ bfiP ((xl.getD (Int.toNat z0) default).1.getD (Int.toNat (w6 (((xl.getD (Int.toNat z0) default).1.length : Int) - 1))) default) 2 ∧ ((!((fst1 ((xl.getD (Int.toNat z0) default).1.getD (Int.toNat (w6 (((xl.getD (Int.toNat z0) default).1.length : Int) - 1))) default) 2) == ([] : Bs))) = true → lbkj42 xl K ((xl.getD (Int.toNat z0) default).1.getD (Int.toNat (w6 (((xl.getD (Int.toNat z0) default).1.length : Int) - 1))) default) z0 C29) ∧ ((!((fst1 ((xl.getD (Int.toNat z0) default).1.getD (Int.toNat (w6 (((xl.getD (Int.toNat z0) default).1.length : Int) - 1))) default) 2) == ([] : Bs))) = false → lbkj42 xl K ((xl.getD (Int.toNat z0) default).1.getD (Int.toNat (w6 (((xl.getD (Int.toNat z0) default).1.length : Int) - 1))) default) z0 C29)) ∧ ((decide (z0 < (xl.length : Int))) = false → K true)
def lbkl29 (xl : List PH) (K : Bool → Prop) : Nat → Int → Prop
 | 0, _ => False
 | k + 1, z0 => lbkl29b xl K z0 (lbkl29 xl K k)
def lbkF (xl : List PH) (K : Bool → Prop) : Prop :=
 chkP xl ∧ ((((sxtS xl).2 != 0)) = true → K true) ∧ ((((sxtS xl).2 != 0)) = false → rdP (sxtS xl).1 ∧ (((((bksS (sxtS xl).1).2 != 0) || ((((bksS (sxtS xl).1).1).length : Int) != (xl.length : Int)))) = true → K false) ∧ (((((bksS (sxtS xl).1).2 != 0) || ((((bksS (sxtS xl).1).1).length : Int) != (xl.length : Int)))) = false → ∃ k, lbkl29 xl K k 0))
theorem lbk_ok {g : Ghost} {axl_0 : Option Addr} {cxl_0 : Nat} (xl : List PH) (hRxl_0 : Rep g (.slice yP) [.slice axl_0 xl.length cxl_0] xl) (hG0 : SomeInt g 0) (hG3 : GlobL g 3 (.int .u64) DPow) (K : Bool → Prop)
  (hF : lbkF xl K) : CallsH Tryz.prog 6 #[.slice axl_0 xl.length cxl_0] g [] (fun g' H' v => ∃ (r0 : Bool), v = .bool r0 ∧ H' = [] ∧ K r0) := by
 refine CallsH.enter 81 [(0, .slice axl_0 xl.length cxl_0)] Tryz.func6 rfl kr kr kr fun w0 => ?_
 refine Ok.sr ((Ok.B 1 [(0, .slice axl_0 xl.length cxl_0)] kr (Ok.nt ((Ok.sr ((Ok.op rfl (OpOk.f enr (fun W hW => lsd_c  (hG0.mono hW.sees)) rfl ?_))))))))
 refine Ok.b 1 [0] [(3, .bool true)] ?_
 refine Ok.nt ((Ok.sr ((Ok.b 1 [0, 3] [(16, .slice axl_0 xl.length cxl_0)] ?_))))
 obtain ⟨hp1, hF⟩ := hF
 refine Ok.op rfl (OpOk.f enr (fun W hW => sxt_c xl (hRxl_0.mono hW.sees) (hG0.mono hW.sees) (hG3.mono hW.sees) hp1) rfl ?_)
 refine Ok.b 5 [0, 3] [(4, sv ((sxtS xl).1)), (5, iv (sxtS xl).2)] ?_
 refine Ok.nt ((Ok.q (Ok.sr ((Ok.b 2 [0, 3, 4] [(21, .bool ((sxtS xl).2 != 0))] ?_)))))
 refine Ok.nt ((Ok.cn hF rfl (fun hc2 => ?_) (fun hc2 => ?_)))
 ·replace hF := hF.1 hc2
  refine Ok.sr ((Ok.B 2 [(2, .bool true)] kr (Ok.nt ((Ok.ret (Ok.tr ?_))))))
  exact Ok.resH (vs := [.bool true]) (.inl rfl) rfl (.cons (.tmp rfl) .nil) (Gext.r w0 g) ⟨true, rfl, rfl, hF⟩
 replace hF := hF.2 hc2
 refine Ok.k (Ok.t (Ok.sr ((Ok.b 1 [0, 3] [(24, sv ((sxtS xl).1))] ?_))))
 obtain ⟨hp3, hF⟩ := hF
 refine Ok.op rfl (OpOk.callH [] _ enr rfl (bks_c (sxtS xl).1 hG0 hp3) rfl fun g4 _ _ hx4 hV4 => ?_)
 obtain ⟨E0, F0, rfl, g0, rfl⟩ := hV4
 replace hRxl_0 := hRxl_0.mono hx4.1
 replace hG0 := hG0.mono hx4.1
 replace hG3 := hG3.mono hx4.1
 refine Ok.b 5 [0, 3] [(6, .slice E0 ((bksS (sxtS xl).1).1).length F0), (7, iv (bksS (sxtS xl).1).2)] ?_
 refine Ok.nt ((Ok.q (Ok.sr ((Ok.b 3 [0, 3, 6] [(30, .bool ((bksS (sxtS xl).1).2 != 0))] ?_)))))
 refine Ok.w 6 [(0, .slice axl_0 xl.length cxl_0), (3, .bool true), (6, .slice E0 ((bksS (sxtS xl).1).1).length F0), (36, .bool (((bksS (sxtS xl).1).2 != 0) || ((((bksS (sxtS xl).1).1).length : Int) != (xl.length : Int))))] (fun hR5 => ?_) ?_
 ·refine Ok.a 30 (((bksS (sxtS xl).1).2 != 0)) rfl (fun hc6 => ?_) (fun hc6 => ?_)
  ·skip
   refine Ok.b 6 [0, 3, 6] [(36, .bool true)] ?_
   refine Ok.v 36 rfl (show (.bool true : Value) = .bool (((bksS (sxtS xl).1).2 != 0) || ((((bksS (sxtS xl).1).1).length : Int) != (xl.length : Int))) from congrArg Value.bool (mor_t hc6)) (Ok.b 0 [0, 3, 6] [(36, .bool (((bksS (sxtS xl).1).2 != 0) || ((((bksS (sxtS xl).1).1).length : Int) != (xl.length : Int))))] ?_)
   exact hR5
  skip
  refine Ok.b 6 [0, 3, 6] [(36, .bool ((((bksS (sxtS xl).1).1).length : Int) != (xl.length : Int)))] ?_
  refine Ok.v 36 rfl (show (.bool ((((bksS (sxtS xl).1).1).length : Int) != (xl.length : Int)) : Value) = .bool (((bksS (sxtS xl).1).2 != 0) || ((((bksS (sxtS xl).1).1).length : Int) != (xl.length : Int))) from congrArg Value.bool (mor_f hc6)) (Ok.b 0 [0, 3, 6] [(36, .bool (((bksS (sxtS xl).1).2 != 0) || ((((bksS (sxtS xl).1).1).length : Int) != (xl.length : Int))))] ?_)
  exact hR5
 refine Ok.nt ((Ok.cn hF rfl (fun hc7 => ?_) (fun hc7 => ?_)))
 ·replace hF := hF.1 hc7
  refine Ok.sr ((Ok.B 1 [(2, .bool false)] kr (Ok.nt ((Ok.ret (Ok.tr ?_))))))
  exact Ok.resH (vs := [.bool false]) (.inl rfl) rfl (.cons (.tmp rfl) .nil) hx4 ⟨false, rfl, rfl, hF⟩
 replace hF := hF.2 hc7
 refine Ok.k (Ok.t (Ok.q (Ok.sr ((Ok.b 1 [0, 3, 6] [(8, iv 0)] ?_)))))
 refine Ok.nt ((Ok.block ?_))
 obtain ⟨k, hF⟩ := hF
 refine Ok.L (fun k a W => ∃ b0 : Ghost, Gext w0 g4 b0 ∧ ∃ (z0 : Int), StA 81 [(0, .slice axl_0 xl.length cxl_0), (3, .bool true), (6, .slice E0 ((bksS (sxtS xl).1).1).length F0), (8, iv z0)] a ∧ StW w0 [] b0 W ∧ lbkl29 xl K k z0) k ?_ ?_
 ·
  exact fun a W hA hW => ⟨g4, (Gext.r w0 g4), 0, hA.sub kr, hW, hF⟩
 clear hF
 rintro k29 a W ⟨b0, a0, z0, hA, hW, hF⟩
 cases k29 with
 | zero => exact (hF : False).elim
 | succ k29 =>
  refine (?_ : Ok _ _ _ _ _ _) a W hA hW
  clear hA hW
  replace hRxl_0 := hRxl_0.mono a0.1
  replace g0 := g0.mono a0.1
  replace hG0 := hG0.mono a0.1
  replace hG3 := hG3.mono a0.1
  refine Ok.q (Ok.sr ((Ok.b 4 [0, 3, 6, 8] [(40, .bool (decide (z0 < (xl.length : Int))))] ?_)))
  refine Ok.nt ((Ok.cn hF rfl (fun hc8 => ?_) (fun hc8 => ?_)))
  ·replace hF := hF.1 hc8
   refine Ok.k (Ok.t (Ok.q (Ok.block (Ok.q (Ok.quiet' kr kr (OkQ.b 2 [0, 3, 6, 8] [(43, .slice axl_0 xl.length cxl_0), (44, iv z0)] ?_))))))
   obtain ⟨Q1, h110, hF⟩ := hF
   have o1 := get_of (l := xl) (default : PH) h110
   generalize hg10 : (xl.getD (Int.toNat z0) default) = e10 at o1 hF ⊢
   refine OkQ.op rfl (OpQ.indexRo (e := yP) (i := z0) (el := e10) rfl rfl Tryz.underlying29 kr hRxl_0 Q1 o1 rfl fun q9 o9 cs9 _ p1 hr9 => ?_)
   obtain ⟨_, _, rfl, ⟨T0, L0, rfl, hm9_0, hr9_0⟩, ⟨t1, a1, rfl, hm9_1, hr9_1⟩⟩ := hr9
   have hR9_0 : Rep b0 (.slice (.slice yS)) [.slice T0 e10.1.length L0] e10.1 := ⟨T0, L0, rfl, hm9_0, hr9_0⟩
   have hR9_1 : Rep b0 (.slice yb) [.slice t1 e10.2.length a1] e10.2 := ⟨t1, a1, rfl, hm9_1, hr9_1⟩
   replace p1 : At b0 q9 o9 [.slice T0 e10.1.length L0, .slice t1 e10.2.length a1] := p1
   refine OkQ.b 1 [0, 3, 6, 8] [(46, pv q9 o9)] ?_
   refine OkQ.op rfl (OpQ.s (v := .slice T0 e10.1.length L0) (Yields.lr 0 p1 kr Tryz.underlying22 rfl kr) rfl rfl (OkQ.b 2 [0, 3, 6, 8] [(47, .slice T0 e10.1.length L0), (48, .slice axl_0 xl.length cxl_0), (49, iv z0)] ?_))
   refine OkQ.op rfl (OpQ.indexRo (e := yP) (i := z0) (el := e10) rfl rfl Tryz.underlying29 kr hRxl_0 Q1 o1 rfl fun q11 o11 cs11 _ A0 hr11 => ?_)
   obtain ⟨_, _, rfl, ⟨H0, M0, rfl, hm11_0, hr11_0⟩, ⟨I0, z1, rfl, hm11_1, hr11_1⟩⟩ := hr11
   have hR11_0 : Rep b0 (.slice (.slice yS)) [.slice H0 e10.1.length M0] e10.1 := ⟨H0, M0, rfl, hm11_0, hr11_0⟩
   have hR11_1 : Rep b0 (.slice yb) [.slice I0 e10.2.length z1] e10.2 := ⟨I0, z1, rfl, hm11_1, hr11_1⟩
   replace A0 : At b0 q11 o11 [.slice H0 e10.1.length M0, .slice I0 e10.2.length z1] := A0
   refine OkQ.b 1 [0, 3, 6, 8, 47] [(51, pv q11 o11)] ?_
   refine OkQ.op rfl (OpQ.s (v := .slice H0 e10.1.length M0) (Yields.lr 0 A0 kr Tryz.underlying22 rfl kr) rfl rfl (OkQ.b 2 [0, 3, 6, 8, 47] [(54, iv (w6 ((e10.1.length : Int) - 1)))] ?_))
   obtain ⟨h013, h113, hF⟩ := hF
   have K1 := get_of (l := e10.1) (default : List TS) h113
   generalize hg13 : (e10.1.getD (Int.toNat (w6 ((e10.1.length : Int) - 1))) default) = e13 at K1 hF ⊢
   refine OkQ.op rfl (OpQ.indexRo (e := .slice yS) (i := w6 ((e10.1.length : Int) - 1)) (el := e13) rfl rfl Tryz.underlying22 kr hR9_0 h013 K1 rfl fun q12 o12 cs12 _ v1 hr12 => ?_)
   obtain ⟨c0, d0, rfl, hm12_0, hr12_0⟩ := hr12
   have e0 : Rep b0 (.slice yS) [.slice c0 e13.length d0] e13 := ⟨c0, d0, rfl, hm12_0, hr12_0⟩
   replace v1 : At b0 q12 o12 [.slice c0 e13.length d0] := v1
   refine OkQ.op rfl (OpQ.s (v := .slice c0 e13.length d0) (Yields.lr 0 v1 kr Tryz.underlying41 rfl kr) rfl rfl (OkQ.b 1 [0, 3, 6, 8] [(9, .slice c0 e13.length d0)] ?_))
   refine OkQ.j (Ok.t (Ok.sr ((Ok.b 1 [0, 3, 6, 8, 9] [(10, sv ([42] : Bs))] ?_))))
   refine Ok.nt ((Ok.cut (fun a W => ∃ B0 : Ghost, Gext w0 b0 B0 ∧ StA 81 [(0, .slice axl_0 xl.length cxl_0), (3, .bool true), (6, .slice E0 ((bksS (sxtS xl).1).1).length F0), (8, iv z0), (9, .slice c0 e13.length d0), (10, sv (lbkV0 e13))] a ∧ StW w0 [] B0 W ∧ lbkj42 xl K e13 z0 (lbkl29 xl K k29)) ?_ ?_))
   ·
    refine Ok.sr ((Ok.b 1 [0, 3, 6, 8, 9, 10] [(57, .slice c0 e13.length d0)] ?_))
    obtain ⟨hp21, hF⟩ := hF
    refine Ok.op rfl (OpOk.f enr (fun W hW => fof_c e13 2 (e0.mono hW.sees) hp21) rfl ?_)
    refine Ok.b 1 [0, 3, 6, 8, 9, 10] [(11, sv (fst1 e13 2))] ?_
    refine Ok.nt ((Ok.sr ((Ok.b 1 [0, 3, 6, 8, 9, 10, 11] [(59, sv (fst1 e13 2))] ?_))))
    refine Ok.op rfl (OpOk.s (v := .bool (!((fst1 e13 2) == ([] : Bs)))) (Yields.sc (f := .neq) (a := (fst1 e13 2)) (b := ([] : Bs)) kr kr rfl) rfl rfl (Ok.nt ((Ok.cn hF rfl (fun q1 => ?_) (fun q1 => ?_)))))
    ·replace hF := hF.1 q1
     refine Ok.r (Ok.b 2 [0, 3, 6, 8, 9] [(10, sv (fst1 e13 2))] ?_)
     refine Ok.nt ((Ok.v 10 rfl (show (sv (fst1 e13 2) : Value) = sv (lbkV0 e13) from congrArg ((fun s : Bs => Value.string ⟨⟨s⟩⟩)) ((if_t q1).symm)) ?_))
     exact fun a W hA hW => ⟨b0, (Gext.r w0 b0), hA.sub kr, hW, hF⟩
    replace hF := hF.2 q1
    refine Ok.k (Ok.t (Ok.v 10 rfl (show (sv ([42] : Bs) : Value) = sv (lbkV0 e13) from congrArg ((fun s : Bs => Value.string ⟨⟨s⟩⟩)) ((if_f q1).symm)) ?_))
    exact fun a W hA hW => ⟨b0, (Gext.r w0 b0), hA.sub kr, hW, hF⟩
   clear hF
   rintro a W ⟨B0, i0, hA, hW, hF⟩
   refine (?_ : Ok _ _ _ _ _ _) a W hA hW
   clear hA hW
   replace hRxl_0 := hRxl_0.mono i0.1
   replace g0 := g0.mono i0.1
   replace e0 := e0.mono i0.1
   replace hG0 := hG0.mono i0.1
   replace hG3 := hG3.mono i0.1
   refine Ok.cut (fun a W => ∃ C0 : Ghost, Gext w0 B0 C0 ∧ StA 81 [(0, .slice axl_0 xl.length cxl_0), (3, .bool true), (6, .slice E0 ((bksS (sxtS xl).1).1).length F0), (8, iv z0), (9, .slice c0 e13.length d0), (10, sv (lbkV1 e13))] a ∧ StW w0 [] C0 W ∧ lbkj50 xl K e13 z0 (lbkl29 xl K k29)) ?_ ?_
   ·
    refine Ok.sr ((Ok.b 1 [0, 3, 6, 8, 9, 10] [(62, .slice c0 e13.length d0)] ?_))
    obtain ⟨hp19, hF⟩ := hF
    refine Ok.op rfl (OpOk.f enr (fun W hW => fof_c e13 4 (e0.mono hW.sees) hp19) rfl ?_)
    refine Ok.b 1 [0, 3, 6, 8, 9, 10] [(12, sv (fst1 e13 4))] ?_
    refine Ok.nt ((Ok.sr ((Ok.b 1 [0, 3, 6, 8, 9, 10, 12] [(64, sv (fst1 e13 4))] ?_))))
    refine Ok.op rfl (OpOk.s (v := .bool (!((fst1 e13 4) == ([] : Bs)))) (Yields.sc (f := .neq) (a := (fst1 e13 4)) (b := ([] : Bs)) kr kr rfl) rfl rfl (Ok.nt ((Ok.cn hF rfl (fun k1 => ?_) (fun k1 => ?_)))))
    ·replace hF := hF.1 k1
     refine Ok.r (Ok.b 1 [0, 3, 6, 8, 9] [(66, sv (fst1 e13 4))] ?_)
     obtain ⟨hv, hF⟩ := hF
     refine Ok.op rfl (OpOk.s (v := sv (([46] : Bs) ++ (fst1 e13 4))) (Yields.sa rfl rfl hv) rfl rfl (Ok.b 1 [0, 3, 6, 8, 9] [(10, sv (([46] : Bs) ++ (fst1 e13 4)))] ?_))
     refine Ok.nt ((Ok.v 10 rfl (show (sv (([46] : Bs) ++ (fst1 e13 4)) : Value) = sv (lbkV1 e13) from congrArg ((fun s : Bs => Value.string ⟨⟨s⟩⟩)) ((if_t k1).symm)) ?_))
     exact fun a W hA hW => ⟨B0, (Gext.r w0 B0), hA.sub kr, hW, hF⟩
    replace hF := hF.2 k1
    refine Ok.k (Ok.t (Ok.v 10 rfl (show (sv (lbkV0 e13) : Value) = sv (lbkV1 e13) from congrArg ((fun s : Bs => Value.string ⟨⟨s⟩⟩)) ((if_f k1).symm)) ?_))
    exact fun a W hA hW => ⟨B0, (Gext.r w0 B0), hA.sub kr, hW, hF⟩
   clear hF
   rintro a W ⟨C0, Z0, hA, hW, hF⟩
   refine (?_ : Ok _ _ _ _ _ _) a W hA hW
   clear hA hW
   replace hRxl_0 := hRxl_0.mono Z0.1
   replace g0 := g0.mono Z0.1
   replace e0 := e0.mono Z0.1
   replace hG0 := hG0.mono Z0.1
   replace hG3 := hG3.mono Z0.1
   refine Ok.cut (fun a W => ∃ y1 : Ghost, Gext w0 C0 y1 ∧ StA 81 [(0, .slice axl_0 xl.length cxl_0), (3, .bool true), (6, .slice E0 ((bksS (sxtS xl).1).1).length F0), (8, iv z0), (10, sv (lbkV2 e13))] a ∧ StW w0 [] y1 W ∧ lbkj58 xl K e13 z0 (lbkl29 xl K k29)) ?_ ?_
   ·
    refine Ok.sr ((Ok.b 1 [0, 3, 6, 8, 10] [(68, .slice c0 e13.length d0)] ?_))
    obtain ⟨hp17, hF⟩ := hF
    refine Ok.op rfl (OpOk.f enr (fun W hW => fof_c e13 3 (e0.mono hW.sees) hp17) rfl ?_)
    refine Ok.b 1 [0, 3, 6, 8, 10] [(13, sv (fst1 e13 3))] ?_
    refine Ok.nt ((Ok.sr ((Ok.b 1 [0, 3, 6, 8, 10, 13] [(70, sv (fst1 e13 3))] ?_))))
    refine Ok.op rfl (OpOk.s (v := .bool (!((fst1 e13 3) == ([] : Bs)))) (Yields.sc (f := .neq) (a := (fst1 e13 3)) (b := ([] : Bs)) kr kr rfl) rfl rfl (Ok.nt ((Ok.cn hF rfl (fun u1 => ?_) (fun u1 => ?_)))))
    ·replace hF := hF.1 u1
     refine Ok.r (Ok.b 1 [0, 3, 6, 8] [(72, sv (fst1 e13 3))] ?_)
     obtain ⟨hv, hF⟩ := hF
     refine Ok.op rfl (OpOk.s (v := sv (([35] : Bs) ++ (fst1 e13 3))) (Yields.sa rfl rfl hv) rfl rfl (Ok.b 1 [0, 3, 6, 8] [(10, sv (([35] : Bs) ++ (fst1 e13 3)))] ?_))
     refine Ok.nt ((Ok.v 10 rfl (show (sv (([35] : Bs) ++ (fst1 e13 3)) : Value) = sv (lbkV2 e13) from congrArg ((fun s : Bs => Value.string ⟨⟨s⟩⟩)) ((if_t u1).symm)) ?_))
     exact fun a W hA hW => ⟨C0, (Gext.r w0 C0), hA.sub kr, hW, hF⟩
    replace hF := hF.2 u1
    refine Ok.k (Ok.t (Ok.v 10 rfl (show (sv (lbkV1 e13) : Value) = sv (lbkV2 e13) from congrArg ((fun s : Bs => Value.string ⟨⟨s⟩⟩)) ((if_f u1).symm)) ?_))
    exact fun a W hA hW => ⟨C0, (Gext.r w0 C0), hA.sub kr, hW, hF⟩
   clear hF
   rintro a W ⟨y1, V0, hA, hW, hF⟩
   refine (?_ : Ok _ _ _ _ _ _) a W hA hW
   clear hA hW
   replace hRxl_0 := hRxl_0.mono V0.1
   replace g0 := g0.mono V0.1
   replace hG0 := hG0.mono V0.1
   replace hG3 := hG3.mono V0.1
   refine Ok.sr ((Ok.b 2 [0, 3, 6, 8, 10] [(74, .slice E0 ((bksS (sxtS xl).1).1).length F0), (75, iv z0)] ?_))
   obtain ⟨h015, h115, hF⟩ := hF
   have Y1 := get_of (l := (bksS (sxtS xl).1).1) (default : Bs) h115
   generalize hg15 : (((bksS (sxtS xl).1).1).getD (Int.toNat z0) default) = e15 at Y1 hF ⊢
   refine Ok.op rfl (OpOk.indexRo (e := .str) (i := z0) (el := e15) rfl rfl Tryz.underlying38 kr g0 h015 Y1 rfl fun q14 o14 cs14 _ j1 hr14 => ?_)
   obtain rfl := hr14
   replace j1 : At y1 q14 o14 [sv e15] := j1
   refine Ok.op rfl (OpOk.s (v := sv e15) (Yields.lr 0 j1 kr Tryz.underlying9 rfl kr) rfl rfl (Ok.b 1 [0, 3, 6, 8] [(77, sv e15), (78, sv (lbkV2 e13))] ?_))
   refine Ok.op rfl (OpOk.s (v := .bool (!(e15 == (lbkV2 e13)))) (Yields.sc (f := .neq) (a := e15) (b := (lbkV2 e13)) kr kr rfl) rfl rfl (Ok.nt ((Ok.cn hF rfl (fun i1 => ?_) (fun i1 => ?_)))))
   ·replace hF := hF.1 i1
    refine Ok.sr ((Ok.B 1 [(2, .bool false)] kr (Ok.nt ((Ok.ret (Ok.kr (Ok.tr (Ok.tr (Ok.kr (Ok.tr ?_))))))))))
    exact Ok.resH (vs := [.bool false]) (.inl rfl) rfl (.cons (.tmp rfl) .nil) ((((hx4.trans a0).trans i0).trans Z0).trans V0) ⟨false, rfl, rfl, hF⟩
   replace hF := hF.2 i1
   refine Ok.k (Ok.kn (Ok.t (Ok.r (Ok.b 3 [0, 3, 6] [(8, iv (w6 (z0 + 1)))] ?_))))
   refine Ok.j (Ok.t ?_)
   subst hg15
   subst hg13
   subst hg10
   exact fun a W hA hW => ⟨k29, Nat.lt_succ_self _, y1, (((a0.trans i0).trans Z0).trans V0), w6 (z0 + 1), hA.sub kr, hW, hF⟩
  replace hF := hF.2 hc8
  refine Ok.x (Ok.thenE (Ok.thenE (Ok.blockHit (Ok.t (Ok.sr ((Ok.B 2 [(2, .bool true)] kr (Ok.nt ((Ok.ret ?_))))))))))
  exact Ok.resH (vs := [.bool true]) (.inl rfl) rfl (.cons (.tmp rfl) .nil) (hx4.trans a0) ⟨true, rfl, rfl, hF⟩
def lbkP (l : List Ph) : Prop := DomU (.slice yP) l
theorem lbkV (p : Ph) : lbkV2 (lastS p) = keyS p := by
 unfold lbkV2 lbkV1 lbkV0 keyS; rfl
theorem lbk_F (l : List Ph) (h : lbkP l) : lbkF l (fun r => r = true) := by
 have hc := chkU h
 refine ⟨hc, fun _ => rfl, fun h0 => ?_⟩
 obtain ⟨hT, hS⟩ := sxt_told hc (by simpa using h0)
 have hl : l.length ≤ 1048600 := by have := w3_len l; have := b3_eq l; have := hc.1; omega
 have hK : bksS (sxtS l).1 = (l.map keyS, 0) := by rw [hS]; unfold bksS; rw [rd_eq hT]
 rw [hK]
 have hlen : (((l.map keyS).length : Int) != (l.length : Int)) = false := by rw [List.length_map]; simp
 refine ⟨by rw [hS]; exact ⟨l, hT, rfl⟩, fun h => ?_, fun _ => ?_⟩
 ·have h : (((0 : Int) != 0) || (((l.map keyS).length : Int) != (l.length : Int))) = true := h
  rw [hlen] at h; cases h
 have loop : ∀ (m i : Nat), i + m = l.length → lbkl29 l (fun r => r = true) (m + 1) (i : Int) := by
  intro m
  induction m with
  | zero =>
   intro i hi
   exact ⟨fun hc => absurd (of_decide_eq_true hc) om, fun _ => rfl⟩
  | succ m ih =>
   intro i hi
   obtain ⟨hne, hb⟩ := told_key hT (i := i) om
   obtain ⟨h1, h2, h3, h4⟩ := last_idx hne hb
   have hm := fst_max hne hb
   have j58 : lbkj58 l (fun r => r = true) (lastS (l.getD i default)) (i : Int) (lbkl29 l (fun r => r = true) (m + 1)) := by
    unfold lbkj58
    rw [hK, lbkV, Int.toNat_natCast]
    have e : (l.map keyS).getD i default = keyS (l.getD i default) := by
     rw [List.getD_eq_getElem?_getD, List.getD_eq_getElem?_getD, List.getElem?_map, List.getElem?_eq_getElem om]; rfl
    rw [e]
    refine ⟨by omega, by show i < (l.map keyS).length; rw [List.length_map]; omega, fun h => ?_, fun _ => ?_⟩
    ·simp at h
    rw [w64 om]
    exact ih (i + 1) om
   have j50 : lbkj50 l (fun r => r = true) (lastS (l.getD i default)) (i : Int) (lbkl29 l (fun r => r = true) (m + 1)) := ⟨h3, fun _ => ⟨hm 35 3, j58⟩, fun _ => j58⟩
   have j42 : lbkj42 l (fun r => r = true) (lastS (l.getD i default)) (i : Int) (lbkl29 l (fun r => r = true) (m + 1)) := ⟨h3, fun _ => ⟨hm 46 4, j50⟩, fun _ => j50⟩
   rw [lbkl29]
   unfold lbkl29b
   rw [Int.toNat_natCast, h2, Int.toNat_natCast]
   exact ⟨fun _ => ⟨by omega, by omega, by omega, by omega, h3, fun _ => j42, fun _ => j42⟩, fun hc => absurd (of_decide_eq_false hc) om⟩
 exact ⟨_, loop l.length 0 om⟩
theorem lbk_c {g : Ghost} {axl_0 : Option Addr} {cxl_0 : Nat} (xl : List PH) (hRxl_0 : Rep g (.slice yP) [.slice axl_0 xl.length cxl_0] xl) (hG0 : SomeInt g 0) (hG3 : GlobL g 3 (.int .u64) DPow)  (hp : lbkP xl) : CallsG Tryz.prog 6 #[.slice axl_0 xl.length cxl_0] g (.bool true) :=
 (lbk_ok xl hRxl_0 hG0 hG3 _ (lbk_F xl hp)).gives (by rintro g' H' v _ ⟨r0, rfl, rfl, hK⟩; subst hK; rfl)
end Go.Proofs.YtcnhdkhkadiohaaGreatDoor.Se
