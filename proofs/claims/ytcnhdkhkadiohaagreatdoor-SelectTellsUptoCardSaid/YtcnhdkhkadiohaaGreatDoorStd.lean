/- selector: the text of paths, by the document. -/
import Derived.Test.YtcnhdkhkadiohaaGreatDoorSta
namespace Go.Proofs.YtcnhdkhkadiohaaGreatDoor.Se
open Go Go.Eng Go.RowKit Bld Trm Css Tk Ti Me Rp Qu
set_option maxHeartbeats 4000000
set_option maxRecDepth 100000
set_option linter.unusedSimpArgs false
set_option linter.unusedVariables false
abbrev rttP (N : Nat) (t : Ts) : Prop := sttP N t
abbrev rpxP (N : Nat) (l : List Ph) : Prop := stxP N l
def rtt_C (N : Nat) : Prop := ∀ (g : Ghost) {axt_0 : Option Addr} {cxt_0 : Nat} (xt : TS) (hRxt_0 : Rep g (.slice yP) [.slice axt_0 xt.kids.length cxt_0] xt.kids)  (hp : rttP N xt), CallsG Tryz.prog 22 #[.agg (aL xt.lab axt_0 xt.kids.length cxt_0)] g (sv (txT xt))
def rpx_C (N : Nat) : Prop := ∀ (g : Ghost) {axl_0 : Option Addr} {cxl_0 : Nat} (xl : List PH) (hRxl_0 : Rep g (.slice yP) [.slice axl_0 xl.length cxl_0] xl)  (hp : rpxP N xl), CallsG Tryz.prog 11 #[.slice axl_0 xl.length cxl_0] g (sv (tx3 xl))
def rttj44 (N : Nat) (xt : TS) (K : Bs → Prop) : Prop :=
 ((((xt.lab.1 == 5) && (xt.lab.2.2.1 == 61))) = true → ([91] : Bs).length + xt.lab.2.1.length ≤ maxLen ∧ (([91] : Bs) ++ xt.lab.2.1).length + ([61] : Bs).length ≤ maxLen ∧ quoteP xt.lab.2.2.2.1 ∧ ((([91] : Bs) ++ xt.lab.2.1) ++ ([61] : Bs)).length + (dqS xt.lab.2.2.2.1).length ≤ maxLen ∧ (((([91] : Bs) ++ xt.lab.2.1) ++ ([61] : Bs)) ++ (dqS xt.lab.2.2.2.1)).length + ([93] : Bs).length ≤ maxLen ∧ K ((((([91] : Bs) ++ xt.lab.2.1) ++ ([61] : Bs)) ++ (dqS xt.lab.2.2.2.1)) ++ ([93] : Bs))) ∧ ((((xt.lab.1 == 5) && (xt.lab.2.2.1 == 61))) = false → (((xt.lab.1 == 5)) = true → ([91] : Bs).length + xt.lab.2.1.length ≤ maxLen ∧ quoteP xt.lab.2.2.2.1 ∧ (([91] : Bs) ++ xt.lab.2.1).length + (bytesOf ([xt.lab.2.2.1, 61] : List Int)).length ≤ maxLen ∧ ((([91] : Bs) ++ xt.lab.2.1) ++ (bytesOf ([xt.lab.2.2.1, 61] : List Int))).length + (dqS xt.lab.2.2.2.1).length ≤ maxLen ∧ (((([91] : Bs) ++ xt.lab.2.1) ++ (bytesOf ([xt.lab.2.2.1, 61] : List Int))) ++ (dqS xt.lab.2.2.2.1)).length + ([93] : Bs).length ≤ maxLen ∧ K ((((([91] : Bs) ++ xt.lab.2.1) ++ (bytesOf ([xt.lab.2.2.1, 61] : List Int))) ++ (dqS xt.lab.2.2.2.1)) ++ ([93] : Bs))) ∧ (((xt.lab.1 == 5)) = false → (((xt.lab.1 == 6)) = true → K ([58, 114, 111, 111, 116] : Bs)) ∧ (((xt.lab.1 == 6)) = false → (((xt.lab.1 == 7)) = true → K ([58, 101, 109, 112, 116, 121] : Bs)) ∧ (((xt.lab.1 == 7)) = false → (((xt.lab.1 == 8)) = true → nthTP xt ∧ ([58, 110, 116, 104, 45, 99, 104, 105, 108, 100, 40] : Bs).length + (nthT xt).length ≤ maxLen ∧ (([58, 110, 116, 104, 45, 99, 104, 105, 108, 100, 40] : Bs) ++ (nthT xt)).length + ([41] : Bs).length ≤ maxLen ∧ K ((([58, 110, 116, 104, 45, 99, 104, 105, 108, 100, 40] : Bs) ++ (nthT xt)) ++ ([41] : Bs))) ∧ (((xt.lab.1 == 8)) = false → (((xt.lab.1 == 9)) = true → nthTP xt ∧ ([58, 110, 116, 104, 45, 108, 97, 115, 116, 45, 99, 104, 105, 108, 100, 40] : Bs).length + (nthT xt).length ≤ maxLen ∧ (([58, 110, 116, 104, 45, 108, 97, 115, 116, 45, 99, 104, 105, 108, 100, 40] : Bs) ++ (nthT xt)).length + ([41] : Bs).length ≤ maxLen ∧ K ((([58, 110, 116, 104, 45, 108, 97, 115, 116, 45, 99, 104, 105, 108, 100, 40] : Bs) ++ (nthT xt)) ++ ([41] : Bs))) ∧ (((xt.lab.1 == 9)) = false → (((xt.lab.1 == 10)) = true → rpxP N xt.kids ∧ ([58, 110, 111, 116, 40] : Bs).length + (tx3 xt.kids).length ≤ maxLen ∧ (([58, 110, 111, 116, 40] : Bs) ++ (tx3 xt.kids)).length + ([41] : Bs).length ≤ maxLen ∧ K ((([58, 110, 111, 116, 40] : Bs) ++ (tx3 xt.kids)) ++ ([41] : Bs))) ∧ (((xt.lab.1 == 10)) = false → rpxP N xt.kids ∧ ([58, 105, 115, 40] : Bs).length + (tx3 xt.kids).length ≤ maxLen ∧ (([58, 105, 115, 40] : Bs) ++ (tx3 xt.kids)).length + ([41] : Bs).length ≤ maxLen ∧ K ((([58, 105, 115, 40] : Bs) ++ (tx3 xt.kids)) ++ ([41] : Bs)))))))))
def rttj36 (N : Nat) (xt : TS) (K : Bs → Prop) : Prop :=
 ((((xt.lab.1 == 5) && (xt.lab.2.2.1 == 0))) = true → ([91] : Bs).length + xt.lab.2.1.length ≤ maxLen ∧ (([91] : Bs) ++ xt.lab.2.1).length + ([93] : Bs).length ≤ maxLen ∧ K ((([91] : Bs) ++ xt.lab.2.1) ++ ([93] : Bs))) ∧ ((((xt.lab.1 == 5) && (xt.lab.2.2.1 == 0))) = false → (((xt.lab.1 == 5)) = true → rttj44 N xt K) ∧ (((xt.lab.1 == 5)) = false → rttj44 N xt K))
def rttF (N : Nat) (xt : TS) (K : Bs → Prop) : Prop :=
 (((xt.lab.1 == 1)) = true → K ([42] : Bs)) ∧ (((xt.lab.1 == 1)) = false → (((xt.lab.1 == 2)) = true → K xt.lab.2.1) ∧ (((xt.lab.1 == 2)) = false → (((xt.lab.1 == 3)) = true → ([35] : Bs).length + xt.lab.2.1.length ≤ maxLen ∧ K (([35] : Bs) ++ xt.lab.2.1)) ∧ (((xt.lab.1 == 3)) = false → (((xt.lab.1 == 4)) = true → ([46] : Bs).length + xt.lab.2.1.length ≤ maxLen ∧ K (([46] : Bs) ++ xt.lab.2.1)) ∧ (((xt.lab.1 == 4)) = false → (((xt.lab.1 == 5)) = true → rttj36 N xt K) ∧ (((xt.lab.1 == 5)) = false → rttj36 N xt K)))))
theorem rtt_ok {g : Ghost} (N : Nat) (ih_rtt : rtt_C N) (ih_rpx : rpx_C N) {axt_0 : Option Addr} {cxt_0 : Nat} (xt : TS) (hRxt_0 : Rep g (.slice yP) [.slice axt_0 xt.kids.length cxt_0] xt.kids) (K : Bs → Prop)
  (hF : rttF N xt K) : CallsH Tryz.prog 22 #[.agg (aL xt.lab axt_0 xt.kids.length cxt_0)] g [] (fun g' H' v => ∃ (r0 : Bs), v = sv r0 ∧ H' = [] ∧ K r0) := by
 refine CallsH.enter 101 [(0, .agg (aL xt.lab axt_0 xt.kids.length cxt_0))] Tryz.func22 rfl kr kr kr fun w0 => ?_
 refine Ok.sr ((Ok.op rfl (OpOk.box (v := .agg (aL xt.lab axt_0 xt.kids.length cxt_0)) (cs := (aL xt.lab axt_0 xt.kids.length cxt_0)) rfl kr rfl fun bs1 => ?_)))
 refine Ok.B 1 [(1, pv bs1 0)] kr (Ok.nt ((Ok.q (Ok.sr ((Ok.b 1 [1] [(3, pv bs1 0)] ?_))))))
 refine Ok.op rfl (OpOk.s (v := iv xt.lab.1) (Yields.l 0 rfl rfl Tryz.underlying3 rfl kr) rfl rfl (Ok.b 1 [1] [(5, .bool (xt.lab.1 == 1))] ?_))
 refine Ok.nt ((Ok.cn hF rfl (fun hc2 => ?_) (fun hc2 => ?_)))
 ·replace hF := hF.1 hc2
  refine Ok.sr ((Ok.B 1 [(2, sv ([42] : Bs))] kr (Ok.nt ((Ok.ret (Ok.tr ?_))))))
  exact Ok.p (vs := [sv ([42] : Bs)]) [] [] dc rfl (.inl rfl) rfl (.cons (.tmp rfl) .nil) (Gext.r w0 g) ⟨([42] : Bs), rfl, rfl, hF⟩
 replace hF := hF.2 hc2
 refine Ok.k (Ok.t (Ok.q (Ok.sr ((Ok.b 1 [1] [(6, pv bs1 0)] ?_)))))
 refine Ok.op rfl (OpOk.s (v := iv xt.lab.1) (Yields.l 0 rfl rfl Tryz.underlying3 rfl kr) rfl rfl (Ok.b 1 [1] [(8, .bool (xt.lab.1 == 2))] ?_))
 refine Ok.nt ((Ok.cn hF rfl (fun hc3 => ?_) (fun hc3 => ?_)))
 ·replace hF := hF.1 hc3
  refine Ok.sr ((Ok.B 1 [(9, pv bs1 1)] kr (Ok.op rfl (OpOk.s (v := sv xt.lab.2.1) (Yields.l 0 rfl rfl Tryz.underlying9 rfl kr) rfl rfl (Ok.B 1 [(2, sv xt.lab.2.1)] kr (Ok.nt ((Ok.ret (Ok.tr ?_)))))))))
  exact Ok.p (vs := [sv xt.lab.2.1]) [] [] dc rfl (.inl rfl) rfl (.cons (.tmp rfl) .nil) (Gext.r w0 g) ⟨xt.lab.2.1, rfl, rfl, hF⟩
 replace hF := hF.2 hc3
 refine Ok.k (Ok.t (Ok.q (Ok.sr ((Ok.b 1 [1] [(11, pv bs1 0)] ?_)))))
 refine Ok.op rfl (OpOk.s (v := iv xt.lab.1) (Yields.l 0 rfl rfl Tryz.underlying3 rfl kr) rfl rfl (Ok.b 1 [1] [(13, .bool (xt.lab.1 == 3))] ?_))
 refine Ok.nt ((Ok.cn hF rfl (fun hc4 => ?_) (fun hc4 => ?_)))
 ·replace hF := hF.1 hc4
  refine Ok.sr ((Ok.B 1 [(14, pv bs1 1)] kr (Ok.op rfl (OpOk.s (v := sv xt.lab.2.1) (Yields.l 0 rfl rfl Tryz.underlying9 rfl kr) rfl rfl ?_))))
  obtain ⟨hv, hF⟩ := hF
  refine Ok.op rfl (OpOk.s (v := sv (([35] : Bs) ++ xt.lab.2.1)) (Yields.sa rfl rfl hv) rfl rfl (Ok.B 1 [(2, sv (([35] : Bs) ++ xt.lab.2.1))] kr (Ok.nt ((Ok.ret (Ok.tr ?_))))))
  exact Ok.p (vs := [sv (([35] : Bs) ++ xt.lab.2.1)]) [] [] dc rfl (.inl rfl) rfl (.cons (.tmp rfl) .nil) (Gext.r w0 g) ⟨(([35] : Bs) ++ xt.lab.2.1), rfl, rfl, hF⟩
 replace hF := hF.2 hc4
 refine Ok.k (Ok.t (Ok.q (Ok.sr ((Ok.b 1 [1] [(17, pv bs1 0)] ?_)))))
 refine Ok.op rfl (OpOk.s (v := iv xt.lab.1) (Yields.l 0 rfl rfl Tryz.underlying3 rfl kr) rfl rfl (Ok.b 1 [1] [(19, .bool (xt.lab.1 == 4))] ?_))
 refine Ok.nt ((Ok.cn hF rfl (fun hc5 => ?_) (fun hc5 => ?_)))
 ·replace hF := hF.1 hc5
  refine Ok.sr ((Ok.B 1 [(20, pv bs1 1)] kr (Ok.op rfl (OpOk.s (v := sv xt.lab.2.1) (Yields.l 0 rfl rfl Tryz.underlying9 rfl kr) rfl rfl ?_))))
  obtain ⟨hv, hF⟩ := hF
  refine Ok.op rfl (OpOk.s (v := sv (([46] : Bs) ++ xt.lab.2.1)) (Yields.sa rfl rfl hv) rfl rfl (Ok.B 1 [(2, sv (([46] : Bs) ++ xt.lab.2.1))] kr (Ok.nt ((Ok.ret (Ok.tr ?_))))))
  exact Ok.p (vs := [sv (([46] : Bs) ++ xt.lab.2.1)]) [] [] dc rfl (.inl rfl) rfl (.cons (.tmp rfl) .nil) (Gext.r w0 g) ⟨(([46] : Bs) ++ xt.lab.2.1), rfl, rfl, hF⟩
 replace hF := hF.2 hc5
 refine Ok.k (Ok.t (Ok.q (Ok.cut (fun a W => ∃ c0 : Ghost, Gext w0 g c0 ∧ StA 101 [(1, pv bs1 0), (30, .bool ((xt.lab.1 == 5) && (xt.lab.2.2.1 == 0)))] a ∧ StW w0 [.blk bs1 (.cells (aL xt.lab axt_0 xt.kids.length cxt_0) 48)] c0 W ∧ rttj36 N xt K) ?_ ?_)))
 ·
  refine Ok.r (Ok.b 1 [1] [(23, pv bs1 0)] ?_)
  refine Ok.op rfl (OpOk.s (v := iv xt.lab.1) (Yields.l 0 rfl rfl Tryz.underlying3 rfl kr) rfl rfl (Ok.b 2 [1] [(26, .bool (xt.lab.1 == 5))] ?_))
  refine Ok.a 26 ((xt.lab.1 == 5)) rfl (fun K0 => ?_) (fun K0 => ?_)
  ·replace hF := hF.1 K0
   refine Ok.b 1 [1] [(26, .bool true), (27, pv bs1 2)] ?_
   refine Ok.y (j := 3) (d := 26) (want := true) (b := true) rfl kr kr rfl (OpOk.s (v := .int .u8 xt.lab.2.2.1) (Yields.l 0 rfl rfl Tryz.underlying5 rfl kr) rfl rfl (Ok.b 2 [1] [(30, .bool (xt.lab.2.2.1 == 0))] ?_))
   refine Ok.nt ((Ok.v 30 rfl (show (.bool (xt.lab.2.2.1 == 0) : Value) = .bool ((xt.lab.1 == 5) && (xt.lab.2.2.1 == 0)) from congrArg (Value.bool) (mand_t K0)) ?_))
   exact fun a W hA hW => ⟨g, (Gext.r w0 g), hA.sub kr, hW, hF⟩
  replace hF := hF.2 K0
  refine Ok.b 4 [1] [(30, .bool false)] ?_
  refine Ok.nt ((Ok.v 30 rfl (show (.bool false : Value) = .bool ((xt.lab.1 == 5) && (xt.lab.2.2.1 == 0)) from congrArg (Value.bool) (mand_f K0)) ?_))
  exact fun a W hA hW => ⟨g, (Gext.r w0 g), hA.sub kr, hW, hF⟩
 clear hF
 rintro a W ⟨c0, x0, hA, hW, hF⟩
 refine (?_ : Ok _ _ _ _ _ _) a W hA hW
 clear hA hW
 replace hRxt_0 := hRxt_0.mono x0.1
 refine Ok.cn hF rfl (fun hc6 => ?_) (fun hc6 => ?_)
 ·replace hF := hF.1 hc6
  refine Ok.sr ((Ok.B 1 [(31, pv bs1 1)] kr (Ok.op rfl (OpOk.s (v := sv xt.lab.2.1) (Yields.l 0 rfl rfl Tryz.underlying9 rfl kr) rfl rfl ?_))))
  obtain ⟨hv, hF⟩ := hF
  refine Ok.op rfl (OpOk.s (v := sv (([91] : Bs) ++ xt.lab.2.1)) (Yields.sa rfl rfl hv) rfl rfl ?_)
  obtain ⟨hv, hF⟩ := hF
  refine Ok.op rfl (OpOk.s (v := sv ((([91] : Bs) ++ xt.lab.2.1) ++ ([93] : Bs))) (Yields.sa rfl rfl hv) rfl rfl (Ok.B 1 [(2, sv ((([91] : Bs) ++ xt.lab.2.1) ++ ([93] : Bs)))] kr (Ok.nt ((Ok.ret (Ok.tr ?_))))))
  exact Ok.p (vs := [sv ((([91] : Bs) ++ xt.lab.2.1) ++ ([93] : Bs))]) [] [] dc rfl (.inl rfl) rfl (.cons (.tmp rfl) .nil) x0 ⟨((([91] : Bs) ++ xt.lab.2.1) ++ ([93] : Bs)), rfl, rfl, hF⟩
 replace hF := hF.2 hc6
 refine Ok.k (Ok.t (Ok.q (Ok.cut (fun a W => ∃ I0 : Ghost, Gext w0 c0 I0 ∧ StA 101 [(1, pv bs1 0), (42, .bool ((xt.lab.1 == 5) && (xt.lab.2.2.1 == 61)))] a ∧ StW w0 [.blk bs1 (.cells (aL xt.lab axt_0 xt.kids.length cxt_0) 48)] I0 W ∧ rttj44 N xt K) ?_ ?_)))
 ·
  refine Ok.r (Ok.b 1 [1] [(35, pv bs1 0)] ?_)
  refine Ok.op rfl (OpOk.s (v := iv xt.lab.1) (Yields.l 0 rfl rfl Tryz.underlying3 rfl kr) rfl rfl (Ok.b 2 [1] [(38, .bool (xt.lab.1 == 5))] ?_))
  refine Ok.a 38 ((xt.lab.1 == 5)) rfl (fun Y0 => ?_) (fun Y0 => ?_)
  ·replace hF := hF.1 Y0
   refine Ok.b 1 [1] [(38, .bool true), (39, pv bs1 2)] ?_
   refine Ok.y (j := 3) (d := 38) (want := true) (b := true) rfl kr kr rfl (OpOk.s (v := .int .u8 xt.lab.2.2.1) (Yields.l 0 rfl rfl Tryz.underlying5 rfl kr) rfl rfl (Ok.b 2 [1] [(42, .bool (xt.lab.2.2.1 == 61))] ?_))
   refine Ok.nt ((Ok.v 42 rfl (show (.bool (xt.lab.2.2.1 == 61) : Value) = .bool ((xt.lab.1 == 5) && (xt.lab.2.2.1 == 61)) from congrArg (Value.bool) (mand_t Y0)) ?_))
   exact fun a W hA hW => ⟨c0, (Gext.r w0 c0), hA.sub kr, hW, hF⟩
  replace hF := hF.2 Y0
  refine Ok.b 4 [1] [(42, .bool false)] ?_
  refine Ok.nt ((Ok.v 42 rfl (show (.bool false : Value) = .bool ((xt.lab.1 == 5) && (xt.lab.2.2.1 == 61)) from congrArg (Value.bool) (mand_f Y0)) ?_))
  exact fun a W hA hW => ⟨c0, (Gext.r w0 c0), hA.sub kr, hW, hF⟩
 clear hF
 rintro a W ⟨I0, d0, hA, hW, hF⟩
 refine (?_ : Ok _ _ _ _ _ _) a W hA hW
 clear hA hW
 replace hRxt_0 := hRxt_0.mono d0.1
 refine Ok.cn hF rfl (fun hc7 => ?_) (fun hc7 => ?_)
 ·replace hF := hF.1 hc7
  refine Ok.q (Ok.quiet' kr kr (OkQ.b 1 [1] [(43, pv bs1 1)] ?_))
  refine OkQ.op rfl (OpQ.s (v := sv xt.lab.2.1) (Yields.l 0 rfl rfl Tryz.underlying9 rfl kr) rfl rfl ?_)
  obtain ⟨hv, hF⟩ := hF
  refine OkQ.op rfl (OpQ.s (v := sv (([91] : Bs) ++ xt.lab.2.1)) (Yields.sa rfl rfl hv) rfl rfl ?_)
  obtain ⟨hv, hF⟩ := hF
  refine OkQ.op rfl (OpQ.s (v := sv ((([91] : Bs) ++ xt.lab.2.1) ++ ([61] : Bs))) (Yields.sa rfl rfl hv) rfl rfl (OkQ.B 1 [(46, sv ((([91] : Bs) ++ xt.lab.2.1) ++ ([61] : Bs))), (47, pv bs1 3)] kr (OkQ.op rfl (OpQ.s (v := sv xt.lab.2.2.2.1) (Yields.l 0 rfl rfl Tryz.underlying9 rfl kr) rfl rfl ?_))))
  obtain ⟨hp8, hF⟩ := hF
  refine OkQ.op rfl (OpQ.f enr (fun W hW => rqd_c xt.lab.2.2.2.1 hp8) rfl ?_)
  obtain ⟨hv, hF⟩ := hF
  refine OkQ.op rfl (OpQ.s (v := sv (((([91] : Bs) ++ xt.lab.2.1) ++ ([61] : Bs)) ++ (dqS xt.lab.2.2.2.1))) (Yields.sa rfl rfl hv) rfl rfl ?_)
  obtain ⟨hv, hF⟩ := hF
  refine OkQ.op rfl (OpQ.s (v := sv ((((([91] : Bs) ++ xt.lab.2.1) ++ ([61] : Bs)) ++ (dqS xt.lab.2.2.2.1)) ++ ([93] : Bs))) (Yields.sa rfl rfl hv) rfl rfl (OkQ.B 1 [(2, sv ((((([91] : Bs) ++ xt.lab.2.1) ++ ([61] : Bs)) ++ (dqS xt.lab.2.2.2.1)) ++ ([93] : Bs)))] kr (OkQ.j (Ok.t (Ok.ret (Ok.tr ?_))))))
  exact Ok.p (vs := [sv ((((([91] : Bs) ++ xt.lab.2.1) ++ ([61] : Bs)) ++ (dqS xt.lab.2.2.2.1)) ++ ([93] : Bs))]) [] [] dc rfl (.inl rfl) rfl (.cons (.tmp rfl) .nil) (x0.trans d0) ⟨((((([91] : Bs) ++ xt.lab.2.1) ++ ([61] : Bs)) ++ (dqS xt.lab.2.2.2.1)) ++ ([93] : Bs)), rfl, rfl, hF⟩
 replace hF := hF.2 hc7
 refine Ok.k (Ok.t (Ok.q (Ok.sr ((Ok.b 1 [1] [(52, pv bs1 0)] ?_)))))
 refine Ok.op rfl (OpOk.s (v := iv xt.lab.1) (Yields.l 0 rfl rfl Tryz.underlying3 rfl kr) rfl rfl (Ok.b 1 [1] [(54, .bool (xt.lab.1 == 5))] ?_))
 refine Ok.nt ((Ok.cn hF rfl (fun hc9 => ?_) (fun hc9 => ?_)))
 ·replace hF := hF.1 hc9
  refine Ok.q (Ok.mix [] [] [.blk bs1 (.cells (aL xt.lab axt_0 xt.kids.length cxt_0) 48)] [(0, true), (1, true), (2, true), (3, true), (4, true), (8, true), (9, true), (10, true), (5, false), (6, false), (7, true), (11, true), (12, true), (13, true)] kr kr (.cons_cons _ .slnil) (OkM.b 1 [1] [(55, pv bs1 1)] ?_))
  refine OkM.h rfl rfl (show _ = [.blk bs1 (.cells (aL xt.lab axt_0 xt.kids.length cxt_0) 48)] from rfl) (OpQ.s (v := sv xt.lab.2.1) (Yields.l 0 rfl rfl Tryz.underlying9 rfl kr) rfl rfl ?_)
  obtain ⟨hv, hF⟩ := hF
  refine OkM.h rfl rfl (show _ = [.blk bs1 (.cells (aL xt.lab axt_0 xt.kids.length cxt_0) 48)] from rfl) (OpQ.s (v := sv (([91] : Bs) ++ xt.lab.2.1)) (Yields.sa rfl rfl hv) rfl rfl (OkM.b 1 [1] [(57, sv (([91] : Bs) ++ xt.lab.2.1)), (58, pv bs1 2)] ?_))
  refine OkM.h rfl rfl (show _ = [.blk bs1 (.cells (aL xt.lab axt_0 xt.kids.length cxt_0) 48)] from rfl) (OpQ.s (v := .int .u8 xt.lab.2.2.1) (Yields.l 0 rfl rfl Tryz.underlying5 rfl kr) rfl rfl (OkM.b 1 [57] [(59, .int .u8 xt.lab.2.2.1), (63, pv bs1 3)] ?_))
  refine OkM.h rfl rfl (show _ = [.blk bs1 (.cells (aL xt.lab axt_0 xt.kids.length cxt_0) 48)] from rfl) (OpQ.s (v := sv xt.lab.2.2.2.1) (Yields.l 0 rfl rfl Tryz.underlying9 rfl kr) rfl rfl ?_)
  obtain ⟨hp10, hF⟩ := hF
  refine OkM.h rfl rfl (show _ = [.blk bs1 (.cells (aL xt.lab axt_0 xt.kids.length cxt_0) 48)] from rfl) (OpQ.f enr (fun W hW => rqd_c xt.lab.2.2.2.1 hp10) rfl ?_)
  have Z1 : RepL I0 yb ([.int .u8 xt.lab.2.2.1, .int .u8 61] : List Value) ([xt.lab.2.2.1, 61] : List Int) := (RepL.consN (c := [.int .u8 xt.lab.2.2.1]) rfl (RepL.consN (c := [.int .u8 61]) rfl rfl))
  refine OkM.t rfl rfl (OpOk.lit (E := 5) yb ([xt.lab.2.2.1, 61] : List Int) ([.int .u8 xt.lab.2.2.1, .int .u8 61] : List Value) kr kr rfl kr Z1 rfl fun b11 => ?_)
  refine OkM.l (i := 5) (show _ = [.blk bs1 (.cells (aL xt.lab axt_0 xt.kids.length cxt_0) 48)] from rfl) (Gle.refl _) (.cons _ (.cons_cons _ .slnil)) (OkM.t rfl rfl (OpOk.s (v := sv (bytesOf ([xt.lab.2.2.1, 61] : List Int))) (Yields.strOfOwn 0 kr rfl rfl Z1 Tryz.underlying23 Tryz.underlying9 Tryz.underlying5) rfl rfl (OkM.l (i := 6) (show _ = [.blk bs1 (.cells (aL xt.lab axt_0 xt.kids.length cxt_0) 48)] from rfl) (Gle.refl _) (.cons _ (.cons_cons _ .slnil)) ?_)))
  obtain ⟨hv, hF⟩ := hF
  refine OkM.h rfl rfl (show _ = [.blk bs1 (.cells (aL xt.lab axt_0 xt.kids.length cxt_0) 48)] from rfl) (OpQ.s (v := sv ((([91] : Bs) ++ xt.lab.2.1) ++ (bytesOf ([xt.lab.2.2.1, 61] : List Int)))) (Yields.sa rfl rfl hv) rfl rfl ?_)
  obtain ⟨hv, hF⟩ := hF
  refine OkM.h rfl rfl (show _ = [.blk bs1 (.cells (aL xt.lab axt_0 xt.kids.length cxt_0) 48)] from rfl) (OpQ.s (v := sv (((([91] : Bs) ++ xt.lab.2.1) ++ (bytesOf ([xt.lab.2.2.1, 61] : List Int))) ++ (dqS xt.lab.2.2.2.1))) (Yields.sa rfl rfl hv) rfl rfl ?_)
  obtain ⟨hv, hF⟩ := hF
  refine OkM.h rfl rfl (show _ = [.blk bs1 (.cells (aL xt.lab axt_0 xt.kids.length cxt_0) 48)] from rfl) (OpQ.s (v := sv ((((([91] : Bs) ++ xt.lab.2.1) ++ (bytesOf ([xt.lab.2.2.1, 61] : List Int))) ++ (dqS xt.lab.2.2.2.1)) ++ ([93] : Bs))) (Yields.sa rfl rfl hv) rfl rfl (OkM.B 1 [(2, sv ((((([91] : Bs) ++ xt.lab.2.1) ++ (bytesOf ([xt.lab.2.2.1, 61] : List Int))) ++ (dqS xt.lab.2.2.2.1)) ++ ([93] : Bs)))] kr (OkM.nil (Ok.t (Ok.ret (Ok.tr ?_))))))
  exact Ok.p (vs := [sv ((((([91] : Bs) ++ xt.lab.2.1) ++ (bytesOf ([xt.lab.2.2.1, 61] : List Int))) ++ (dqS xt.lab.2.2.2.1)) ++ ([93] : Bs))]) [] [] dc rfl (.inl rfl) rfl (.cons (.tmp rfl) .nil) (x0.trans d0) ⟨((((([91] : Bs) ++ xt.lab.2.1) ++ (bytesOf ([xt.lab.2.2.1, 61] : List Int))) ++ (dqS xt.lab.2.2.2.1)) ++ ([93] : Bs)), rfl, rfl, hF⟩
 replace hF := hF.2 hc9
 refine Ok.k (Ok.t (Ok.q (Ok.sr ((Ok.b 1 [1] [(68, pv bs1 0)] ?_)))))
 refine Ok.op rfl (OpOk.s (v := iv xt.lab.1) (Yields.l 0 rfl rfl Tryz.underlying3 rfl kr) rfl rfl (Ok.b 1 [1] [(70, .bool (xt.lab.1 == 6))] ?_))
 refine Ok.nt ((Ok.cn hF rfl (fun x1 => ?_) (fun x1 => ?_)))
 ·replace hF := hF.1 x1
  refine Ok.sr ((Ok.B 1 [(2, sv ([58, 114, 111, 111, 116] : Bs))] kr (Ok.nt ((Ok.ret (Ok.tr ?_))))))
  exact Ok.p (vs := [sv ([58, 114, 111, 111, 116] : Bs)]) [] [] dc rfl (.inl rfl) rfl (.cons (.tmp rfl) .nil) (x0.trans d0) ⟨([58, 114, 111, 111, 116] : Bs), rfl, rfl, hF⟩
 replace hF := hF.2 x1
 refine Ok.k (Ok.t (Ok.q (Ok.sr ((Ok.b 1 [1] [(71, pv bs1 0)] ?_)))))
 refine Ok.op rfl (OpOk.s (v := iv xt.lab.1) (Yields.l 0 rfl rfl Tryz.underlying3 rfl kr) rfl rfl (Ok.b 1 [1] [(73, .bool (xt.lab.1 == 7))] ?_))
 refine Ok.nt ((Ok.cn hF rfl (fun s1 => ?_) (fun s1 => ?_)))
 ·replace hF := hF.1 s1
  refine Ok.sr ((Ok.B 1 [(2, sv ([58, 101, 109, 112, 116, 121] : Bs))] kr (Ok.nt ((Ok.ret (Ok.tr ?_))))))
  exact Ok.p (vs := [sv ([58, 101, 109, 112, 116, 121] : Bs)]) [] [] dc rfl (.inl rfl) rfl (.cons (.tmp rfl) .nil) (x0.trans d0) ⟨([58, 101, 109, 112, 116, 121] : Bs), rfl, rfl, hF⟩
 replace hF := hF.2 s1
 refine Ok.k (Ok.t (Ok.q (Ok.sr ((Ok.b 1 [1] [(74, pv bs1 0)] ?_)))))
 refine Ok.op rfl (OpOk.s (v := iv xt.lab.1) (Yields.l 0 rfl rfl Tryz.underlying3 rfl kr) rfl rfl (Ok.b 1 [1] [(76, .bool (xt.lab.1 == 8))] ?_))
 refine Ok.nt ((Ok.cn hF rfl (fun f0 => ?_) (fun f0 => ?_)))
 ·replace hF := hF.1 f0
  refine Ok.sr ((Ok.op rfl (OpOk.s (v := .agg (aL xt.lab axt_0 xt.kids.length cxt_0)) (Yields.loadAgg 0 7 (aL xt.lab axt_0 xt.kids.length cxt_0) rfl rfl Tryz.underlying48 rfl kr kr kr) rfl rfl ?_)))
  obtain ⟨hp15, hF⟩ := hF
  refine Ok.op rfl (OpOk.f enr (fun W hW => rnt_c xt (hRxt_0.mono hW.sees) hp15) rfl ?_)
  obtain ⟨hv, hF⟩ := hF
  refine Ok.op rfl (OpOk.s (v := sv (([58, 110, 116, 104, 45, 99, 104, 105, 108, 100, 40] : Bs) ++ (nthT xt))) (Yields.sa rfl rfl hv) rfl rfl ?_)
  obtain ⟨hv, hF⟩ := hF
  refine Ok.op rfl (OpOk.s (v := sv ((([58, 110, 116, 104, 45, 99, 104, 105, 108, 100, 40] : Bs) ++ (nthT xt)) ++ ([41] : Bs))) (Yields.sa rfl rfl hv) rfl rfl (Ok.B 1 [(2, sv ((([58, 110, 116, 104, 45, 99, 104, 105, 108, 100, 40] : Bs) ++ (nthT xt)) ++ ([41] : Bs)))] kr (Ok.nt ((Ok.ret (Ok.tr ?_))))))
  exact Ok.p (vs := [sv ((([58, 110, 116, 104, 45, 99, 104, 105, 108, 100, 40] : Bs) ++ (nthT xt)) ++ ([41] : Bs))]) [] [] dc rfl (.inl rfl) rfl (.cons (.tmp rfl) .nil) (x0.trans d0) ⟨((([58, 110, 116, 104, 45, 99, 104, 105, 108, 100, 40] : Bs) ++ (nthT xt)) ++ ([41] : Bs)), rfl, rfl, hF⟩
 replace hF := hF.2 f0
 refine Ok.k (Ok.t (Ok.q (Ok.sr ((Ok.b 1 [1] [(81, pv bs1 0)] ?_)))))
 refine Ok.op rfl (OpOk.s (v := iv xt.lab.1) (Yields.l 0 rfl rfl Tryz.underlying3 rfl kr) rfl rfl (Ok.b 1 [1] [(83, .bool (xt.lab.1 == 9))] ?_))
 refine Ok.nt ((Ok.cn hF rfl (fun b1 => ?_) (fun b1 => ?_)))
 ·replace hF := hF.1 b1
  refine Ok.sr ((Ok.op rfl (OpOk.s (v := .agg (aL xt.lab axt_0 xt.kids.length cxt_0)) (Yields.loadAgg 0 7 (aL xt.lab axt_0 xt.kids.length cxt_0) rfl rfl Tryz.underlying48 rfl kr kr kr) rfl rfl ?_)))
  obtain ⟨hp17, hF⟩ := hF
  refine Ok.op rfl (OpOk.f enr (fun W hW => rnt_c xt (hRxt_0.mono hW.sees) hp17) rfl ?_)
  obtain ⟨hv, hF⟩ := hF
  refine Ok.op rfl (OpOk.s (v := sv (([58, 110, 116, 104, 45, 108, 97, 115, 116, 45, 99, 104, 105, 108, 100, 40] : Bs) ++ (nthT xt))) (Yields.sa rfl rfl hv) rfl rfl ?_)
  obtain ⟨hv, hF⟩ := hF
  refine Ok.op rfl (OpOk.s (v := sv ((([58, 110, 116, 104, 45, 108, 97, 115, 116, 45, 99, 104, 105, 108, 100, 40] : Bs) ++ (nthT xt)) ++ ([41] : Bs))) (Yields.sa rfl rfl hv) rfl rfl (Ok.B 1 [(2, sv ((([58, 110, 116, 104, 45, 108, 97, 115, 116, 45, 99, 104, 105, 108, 100, 40] : Bs) ++ (nthT xt)) ++ ([41] : Bs)))] kr (Ok.nt ((Ok.ret (Ok.tr ?_))))))
  exact Ok.p (vs := [sv ((([58, 110, 116, 104, 45, 108, 97, 115, 116, 45, 99, 104, 105, 108, 100, 40] : Bs) ++ (nthT xt)) ++ ([41] : Bs))]) [] [] dc rfl (.inl rfl) rfl (.cons (.tmp rfl) .nil) (x0.trans d0) ⟨((([58, 110, 116, 104, 45, 108, 97, 115, 116, 45, 99, 104, 105, 108, 100, 40] : Bs) ++ (nthT xt)) ++ ([41] : Bs)), rfl, rfl, hF⟩
 replace hF := hF.2 b1
 refine Ok.k (Ok.t (Ok.q (Ok.sr ((Ok.b 1 [1] [(88, pv bs1 0)] ?_)))))
 refine Ok.op rfl (OpOk.s (v := iv xt.lab.1) (Yields.l 0 rfl rfl Tryz.underlying3 rfl kr) rfl rfl (Ok.b 1 [1] [(90, .bool (xt.lab.1 == 10))] ?_))
 refine Ok.nt ((Ok.cn hF rfl (fun d1 => ?_) (fun d1 => ?_)))
 ·replace hF := hF.1 d1
  refine Ok.sr ((Ok.B 1 [(91, pv bs1 6)] kr (Ok.op rfl (OpOk.s (v := .slice axt_0 xt.kids.length cxt_0) (Yields.l 0 rfl rfl Tryz.underlying29 rfl kr) rfl rfl ?_))))
  obtain ⟨hp19, hF⟩ := hF
  refine Ok.op rfl (OpOk.f enr (fun W hW => ih_rpx _ xt.kids (hRxt_0.mono hW.sees) hp19) rfl ?_)
  obtain ⟨hv, hF⟩ := hF
  refine Ok.op rfl (OpOk.s (v := sv (([58, 110, 111, 116, 40] : Bs) ++ (tx3 xt.kids))) (Yields.sa rfl rfl hv) rfl rfl ?_)
  obtain ⟨hv, hF⟩ := hF
  refine Ok.op rfl (OpOk.s (v := sv ((([58, 110, 111, 116, 40] : Bs) ++ (tx3 xt.kids)) ++ ([41] : Bs))) (Yields.sa rfl rfl hv) rfl rfl (Ok.B 1 [(2, sv ((([58, 110, 111, 116, 40] : Bs) ++ (tx3 xt.kids)) ++ ([41] : Bs)))] kr (Ok.nt ((Ok.ret (Ok.tr ?_))))))
  exact Ok.p (vs := [sv ((([58, 110, 111, 116, 40] : Bs) ++ (tx3 xt.kids)) ++ ([41] : Bs))]) [] [] dc rfl (.inl rfl) rfl (.cons (.tmp rfl) .nil) (x0.trans d0) ⟨((([58, 110, 111, 116, 40] : Bs) ++ (tx3 xt.kids)) ++ ([41] : Bs)), rfl, rfl, hF⟩
 replace hF := hF.2 d1
 refine Ok.k (Ok.t (Ok.sr ((Ok.B 1 [(96, pv bs1 6)] kr (Ok.op rfl (OpOk.s (v := .slice axt_0 xt.kids.length cxt_0) (Yields.l 0 rfl rfl Tryz.underlying29 rfl kr) rfl rfl ?_))))))
 obtain ⟨hp20, hF⟩ := hF
 refine Ok.op rfl (OpOk.f enr (fun W hW => ih_rpx _ xt.kids (hRxt_0.mono hW.sees) hp20) rfl ?_)
 obtain ⟨hv, hF⟩ := hF
 refine Ok.op rfl (OpOk.s (v := sv (([58, 105, 115, 40] : Bs) ++ (tx3 xt.kids))) (Yields.sa rfl rfl hv) rfl rfl ?_)
 obtain ⟨hv, hF⟩ := hF
 refine Ok.op rfl (OpOk.s (v := sv ((([58, 105, 115, 40] : Bs) ++ (tx3 xt.kids)) ++ ([41] : Bs))) (Yields.sa rfl rfl hv) rfl rfl (Ok.B 1 [(2, sv ((([58, 105, 115, 40] : Bs) ++ (tx3 xt.kids)) ++ ([41] : Bs)))] kr (Ok.nt ((Ok.ret ?_)))))
 exact Ok.p (vs := [sv ((([58, 105, 115, 40] : Bs) ++ (tx3 xt.kids)) ++ ([41] : Bs))]) [] [] dc rfl (.inl rfl) rfl (.cons (.tmp rfl) .nil) (x0.trans d0) ⟨((([58, 105, 115, 40] : Bs) ++ (tx3 xt.kids)) ++ ([41] : Bs)), rfl, rfl, hF⟩
def rpxV0 (e3 : PH) (z0 : Int) : Bool :=
 ((decide (z0 > 0)) && ((e3.2.getD (Int.toNat (w6 (z0 - 1))) default) == 32))
def rpxV1 (e3 : PH) (v0 : Bs) (z0 : Int) : Bs :=
 (if (rpxV0 e3 z0) = true then v0 ++ ([32] : Bs) else (if (decide (z0 > 0)) = true then ((v0 ++ ([32] : Bs)) ++ (bytesOf ([(e3.2.getD (Int.toNat (w6 (z0 - 1))) default)] : List Int))) ++ ([32] : Bs) else v0))
def rpxV2 (u0 : Bs) (q0 : Int) : Bs :=
 (if (decide (q0 > 0)) = true then u0 ++ ([44, 32] : Bs) else u0)
def rpxl49b (N : Nat) (e3 : PH) (z0 : Int) (C27 : Bs → Int → Prop) (j0 : Bs) (y0 : Int) (C49 : Bs → Int → Prop) : Prop :=
 0 ≤ z0 ∧ Int.toNat z0 < e3.1.length ∧ ((decide (y0 < ((e3.1.getD (Int.toNat z0) default).length : Int))) = true → 0 ≤ y0 ∧ Int.toNat y0 < (e3.1.getD (Int.toNat z0) default).length ∧ rttP N ((e3.1.getD (Int.toNat z0) default).getD (Int.toNat y0) default) ∧ j0.length + (txT ((e3.1.getD (Int.toNat z0) default).getD (Int.toNat y0) default)).length ≤ maxLen ∧ C49 (j0 ++ (txT ((e3.1.getD (Int.toNat z0) default).getD (Int.toNat y0) default))) (w6 (y0 + 1))) ∧ ((decide (y0 < ((e3.1.getD (Int.toNat z0) default).length : Int))) = false → C27 j0 (w6 (z0 + 1)))
def rpxl49 (N : Nat) (e3 : PH) (z0 : Int) (C27 : Bs → Int → Prop) : Nat → Bs → Int → Prop
 | 0, _, _ => False
 | k + 1, j0, y0 => rpxl49b N e3 z0 C27 j0 y0 (rpxl49 N e3 z0 C27 k)
def rpxj36 (N : Nat) (e3 : PH) (v0 : Bs) (z0 : Int) (C27 : Bs → Int → Prop) : Prop :=
 ∃ k, rpxl49 N e3 z0 C27 k (rpxV1 e3 v0 z0) 0
def rpxj37 (N : Nat) (e3 : PH) (v0 : Bs) (z0 : Int) (C27 : Bs → Int → Prop) : Prop :=
 (((rpxV0 e3 z0)) = true → v0.length + ([32] : Bs).length ≤ maxLen ∧ rpxj36 N e3 v0 z0 C27) ∧ (((rpxV0 e3 z0)) = false → ((decide (z0 > 0)) = true → v0.length + ([32] : Bs).length ≤ maxLen ∧ 0 ≤ (w6 (z0 - 1)) ∧ Int.toNat (w6 (z0 - 1)) < e3.2.length ∧ (v0 ++ ([32] : Bs)).length + (bytesOf ([(e3.2.getD (Int.toNat (w6 (z0 - 1))) default)] : List Int)).length ≤ maxLen ∧ ((v0 ++ ([32] : Bs)) ++ (bytesOf ([(e3.2.getD (Int.toNat (w6 (z0 - 1))) default)] : List Int))).length + ([32] : Bs).length ≤ maxLen ∧ rpxj36 N e3 v0 z0 C27) ∧ ((decide (z0 > 0)) = false → rpxj36 N e3 v0 z0 C27))
def rpxl27b (N : Nat) (xl : List PH) (q0 : Int) (C9 : Bs → Int → Prop) (v0 : Bs) (z0 : Int) (C27 : Bs → Int → Prop) : Prop :=
 0 ≤ q0 ∧ Int.toNat q0 < xl.length ∧ ((decide (z0 < ((xl.getD (Int.toNat q0) default).1.length : Int))) = true → ((decide (z0 > 0)) = true → 0 ≤ (w6 (z0 - 1)) ∧ Int.toNat (w6 (z0 - 1)) < (xl.getD (Int.toNat q0) default).2.length ∧ rpxj37 N (xl.getD (Int.toNat q0) default) v0 z0 C27) ∧ ((decide (z0 > 0)) = false → rpxj37 N (xl.getD (Int.toNat q0) default) v0 z0 C27)) ∧ ((decide (z0 < ((xl.getD (Int.toNat q0) default).1.length : Int))) = false → C9 v0 (w6 (q0 + 1)))
def rpxl27 (N : Nat) (xl : List PH) (q0 : Int) (C9 : Bs → Int → Prop) : Nat → Bs → Int → Prop
 | 0, _, _ => False
 | k + 1, v0, z0 => rpxl27b N xl q0 C9 v0 z0 (rpxl27 N xl q0 C9 k)
def rpxj18 (N : Nat) (xl : List PH) (u0 : Bs) (q0 : Int) (C9 : Bs → Int → Prop) : Prop :=
 ∃ k, rpxl27 N xl q0 C9 k (rpxV2 u0 q0) 0
def rpxl9b (N : Nat) (xl : List PH) (K : Bs → Prop) (u0 : Bs) (q0 : Int) (C9 : Bs → Int → Prop) : Prop :=
 ((decide (q0 < (xl.length : Int))) = true → ((decide (q0 > 0)) = true → u0.length + ([44, 32] : Bs).length ≤ maxLen ∧ rpxj18 N xl u0 q0 C9) ∧ ((decide (q0 > 0)) = false → rpxj18 N xl u0 q0 C9)) ∧ ((decide (q0 < (xl.length : Int))) = false → K u0)
def rpxl9 (N : Nat) (xl : List PH) (K : Bs → Prop) : Nat → Bs → Int → Prop
 | 0, _, _ => False
 | k + 1, u0, q0 => rpxl9b N xl K u0 q0 (rpxl9 N xl K k)
def rpxF (N : Nat) (xl : List PH) (K : Bs → Prop) : Prop :=
 ∃ k, rpxl9 N xl K k ([] : Bs) 0
theorem rpx_ok {g : Ghost} (N : Nat) (ih_rtt : rtt_C N) (ih_rpx : rpx_C N) {axl_0 : Option Addr} {cxl_0 : Nat} (xl : List PH) (hRxl_0 : Rep g (.slice yP) [.slice axl_0 xl.length cxl_0] xl) (K : Bs → Prop)
  (hF : rpxF N xl K) : CallsH Tryz.prog 11 #[.slice axl_0 xl.length cxl_0] g [] (fun g' H' v => ∃ (r0 : Bs), v = sv r0 ∧ H' = [] ∧ K r0) := by
 refine CallsH.enter 88 [(0, .slice axl_0 xl.length cxl_0)] Tryz.func11 rfl kr kr kr fun w0 => ?_
 refine Ok.sr ((Ok.B 1 [(0, .slice axl_0 xl.length cxl_0)] kr (Ok.nt ((Ok.sr ((Ok.b 1 [0] [(3, sv ([] : Bs))] ?_)))))))
 refine Ok.nt ((Ok.q (Ok.sr ((Ok.b 1 [0, 3] [(4, iv 0)] ?_)))))
 refine Ok.nt ((Ok.block ?_))
 obtain ⟨k, hF⟩ := hF
 refine Ok.L (fun k a W => ∃ gl9 : Ghost, Gext w0 g gl9 ∧ ∃ (u0 : Bs) (q0 : Int), StA 88 [(0, .slice axl_0 xl.length cxl_0), (3, sv u0), (4, iv q0)] a ∧ StW w0 [] gl9 W ∧ rpxl9 N xl K k u0 q0) k ?_ ?_
 ·
  exact fun a W hA hW => ⟨g, (Gext.r w0 g), ([] : Bs), 0, hA.sub kr, hW, hF⟩
 clear hF
 rintro k9 a W ⟨gl9, e1, u0, q0, hA, hW, hF⟩
 cases k9 with
 | zero => exact (hF : False).elim
 | succ k9 =>
  refine (?_ : Ok _ _ _ _ _ _) a W hA hW
  clear hA hW
  replace hRxl_0 := hRxl_0.mono e1.1
  refine Ok.q (Ok.sr ((Ok.b 4 [0, 3, 4] [(10, .bool (decide (q0 < (xl.length : Int))))] ?_)))
  refine Ok.nt ((Ok.cn hF rfl (fun hc1 => ?_) (fun hc1 => ?_)))
  ·replace hF := hF.1 hc1
   refine Ok.k (Ok.t (Ok.q (Ok.block (Ok.cut (fun a W => ∃ Q0 : Ghost, Gext w0 gl9 Q0 ∧ StA 88 [(0, .slice axl_0 xl.length cxl_0), (3, sv (rpxV2 u0 q0)), (4, iv q0)] a ∧ StW w0 [] Q0 W ∧ rpxj18 N xl u0 q0 (rpxl9 N xl K k9)) ?_ ?_))))
   ·
    refine Ok.sr ((Ok.b 2 [0, 3, 4] [(14, .bool (decide (q0 > 0)))] ?_))
    refine Ok.nt ((Ok.cn hF rfl (fun U0 => ?_) (fun U0 => ?_)))
    ·replace hF := hF.1 U0
     refine Ok.r (Ok.b 1 [0, 4] [(15, sv u0)] ?_)
     obtain ⟨hv, hF⟩ := hF
     refine Ok.op rfl (OpOk.s (v := sv (u0 ++ ([44, 32] : Bs))) (Yields.sa rfl rfl hv) rfl rfl (Ok.b 1 [0, 4] [(3, sv (u0 ++ ([44, 32] : Bs)))] ?_))
     refine Ok.nt ((Ok.v 3 rfl (show (sv (u0 ++ ([44, 32] : Bs)) : Value) = sv (rpxV2 u0 q0) from congrArg ((fun s : Bs => Value.string ⟨⟨s⟩⟩)) ((if_t U0).symm)) ?_))
     exact fun a W hA hW => ⟨gl9, (Gext.r w0 gl9), hA.sub kr, hW, hF⟩
    replace hF := hF.2 U0
    refine Ok.k (Ok.t (Ok.v 3 rfl (show (sv u0 : Value) = sv (rpxV2 u0 q0) from congrArg ((fun s : Bs => Value.string ⟨⟨s⟩⟩)) ((if_f U0).symm)) ?_))
    exact fun a W hA hW => ⟨gl9, (Gext.r w0 gl9), hA.sub kr, hW, hF⟩
   clear hF
   rintro a W ⟨Q0, j1, hA, hW, hF⟩
   refine (?_ : Ok _ _ _ _ _ _) a W hA hW
   clear hA hW
   replace hRxl_0 := hRxl_0.mono j1.1
   refine Ok.sr ((Ok.b 1 [0, 3, 4] [(5, iv 0)] ?_))
   refine Ok.nt ((Ok.block ?_))
   obtain ⟨k, hF⟩ := hF
   refine Ok.L (fun k a W => ∃ s0 : Ghost, Gext w0 Q0 s0 ∧ ∃ (v0 : Bs) (z0 : Int), StA 88 [(0, .slice axl_0 xl.length cxl_0), (3, sv v0), (4, iv q0), (5, iv z0)] a ∧ StW w0 [] s0 W ∧ rpxl27 N xl q0 (rpxl9 N xl K k9) k v0 z0) k ?_ ?_
   ·
    exact fun a W hA hW => ⟨Q0, (Gext.r w0 Q0), (rpxV2 u0 q0), 0, hA.sub kr, hW, hF⟩
   clear hF
   rintro k27 a W ⟨s0, J0, v0, z0, hA, hW, hF⟩
   cases k27 with
   | zero => exact (hF : False).elim
   | succ k27 =>
    refine (?_ : Ok _ _ _ _ _ _) a W hA hW
    clear hA hW
    replace hRxl_0 := hRxl_0.mono J0.1
    refine Ok.q (Ok.sr ((Ok.b 3 [0, 3, 4, 5] [(17, iv z0), (18, .slice axl_0 xl.length cxl_0), (19, iv q0)] ?_)))
    obtain ⟨h03, h13, hF⟩ := hF
    have he3 := get_of (l := xl) (default : PH) h13
    generalize hg3 : (xl.getD (Int.toNat q0) default) = e3 at he3 hF ⊢
    refine Ok.op rfl (OpOk.indexRo (e := yP) (i := q0) (el := e3) rfl rfl Tryz.underlying29 kr hRxl_0 h03 he3 rfl fun q2 o2 cs2 _ f1 hr2 => ?_)
    obtain ⟨_, _, rfl, ⟨z1, v1, rfl, hm2_0, hr2_0⟩, ⟨g1, m1, rfl, hm2_1, hr2_1⟩⟩ := hr2
    have hR2_0 : Rep s0 (.slice (.slice yS)) [.slice z1 e3.1.length v1] e3.1 := ⟨z1, v1, rfl, hm2_0, hr2_0⟩
    have hR2_1 : Rep s0 (.slice yb) [.slice g1 e3.2.length m1] e3.2 := ⟨g1, m1, rfl, hm2_1, hr2_1⟩
    replace f1 : At s0 q2 o2 [.slice z1 e3.1.length v1, .slice g1 e3.2.length m1] := f1
    refine Ok.b 1 [0, 3, 4, 5, 17] [(21, pv q2 o2)] ?_
    refine Ok.op rfl (OpOk.s (v := .slice z1 e3.1.length v1) (Yields.lr 0 f1 kr Tryz.underlying22 rfl kr) rfl rfl (Ok.b 2 [0, 3, 4, 5] [(24, .bool (decide (z0 < (e3.1.length : Int))))] ?_))
    refine Ok.nt ((Ok.cn hF rfl (fun hc4 => ?_) (fun hc4 => ?_)))
    ·replace hF := hF.1 hc4
     refine Ok.k (Ok.t (Ok.q (Ok.block (Ok.cut (fun a W => ∃ c0 : Ghost, Gext w0 s0 c0 ∧ StA 88 [(0, .slice axl_0 xl.length cxl_0), (3, sv (rpxV1 e3 v0 z0)), (4, iv q0), (5, iv z0)] a ∧ StW w0 [] c0 W ∧ rpxj36 N e3 v0 z0 (rpxl27 N xl q0 (rpxl9 N xl K k9) k27)) ?_ ?_))))
     ·
      refine Ok.cut (fun a W => ∃ e0 : Ghost, Gext w0 s0 e0 ∧ StA 88 [(0, .slice axl_0 xl.length cxl_0), (3, sv v0), (4, iv q0), (5, iv z0), (40, .bool (rpxV0 e3 z0))] a ∧ StW w0 [] e0 W ∧ rpxj37 N e3 v0 z0 (rpxl27 N xl q0 (rpxl9 N xl K k9) k27)) ?_ ?_
      ·
       refine Ok.r (Ok.b 3 [0, 3, 4, 5] [(29, .bool (decide (z0 > 0)))] ?_)
       refine Ok.a 29 (decide (z0 > 0)) rfl (fun W0 => ?_) (fun W0 => ?_)
       ·replace hF := hF.1 W0
        refine Ok.b 2 [0, 3, 4, 5] [(29, .bool true), (30, .slice axl_0 xl.length cxl_0), (31, iv q0)] ?_
        refine Ok.y (j := 2) (d := 29) (want := true) (b := true) rfl kr kr rfl (OpOk.indexRo (e := yP) (i := q0) (el := e3) rfl rfl Tryz.underlying29 kr hRxl_0 h03 he3 rfl fun q21 o21 cs21 _ X0 hr21 => ?_)
        obtain ⟨_, _, rfl, ⟨S0, B0, rfl, hm21_0, hr21_0⟩, ⟨g0, m0, rfl, hm21_1, hr21_1⟩⟩ := hr21
        have hR21_0 : Rep s0 (.slice (.slice yS)) [.slice S0 e3.1.length B0] e3.1 := ⟨S0, B0, rfl, hm21_0, hr21_0⟩
        have hR21_1 : Rep s0 (.slice yb) [.slice g0 e3.2.length m0] e3.2 := ⟨g0, m0, rfl, hm21_1, hr21_1⟩
        replace X0 : At s0 q21 o21 [.slice S0 e3.1.length B0, .slice g0 e3.2.length m0] := X0
        refine Ok.b 1 [0, 3, 4, 5, 29] [(33, .pointer (some ⟨q21, o21 + 1, none⟩))] ?_
        refine Ok.y (j := 2) (d := 29) (want := true) (b := true) rfl kr kr rfl (OpOk.s (v := .slice g0 e3.2.length m0) (Yields.lr 1 X0 kr Tryz.underlying23 rfl kr) rfl rfl (Ok.b 2 [0, 3, 4, 5, 29] [(34, .slice g0 e3.2.length m0), (36, iv (w6 (z0 - 1)))] ?_))
        obtain ⟨h023, h123, hF⟩ := hF
        have V1 := get_of (l := e3.2) (default : Int) h123
        generalize hg23 : (e3.2.getD (Int.toNat (w6 (z0 - 1))) default) = e23 at V1 hF ⊢
        refine Ok.y (j := 2) (d := 29) (want := true) (b := true) rfl kr kr rfl (OpOk.indexRo (e := .int .u8) (i := w6 (z0 - 1)) (el := e23) rfl rfl Tryz.underlying23 kr hR21_1 h023 V1 rfl fun q22 o22 cs22 _ C0 hr22 => ?_)
        obtain rfl := hr22
        replace C0 : At s0 q22 o22 [.int .u8 e23] := C0
        refine Ok.y (j := 2) (d := 29) (want := true) (b := true) rfl kr kr rfl (OpOk.s (v := .int .u8 e23) (Yields.lr 0 C0 kr Tryz.underlying5 rfl kr) rfl rfl (Ok.b 2 [0, 3, 4, 5] [(40, .bool (e23 == 32))] ?_))
        refine Ok.j (Ok.t ?_)
        subst hg23
        refine Ok.v 40 rfl (show (.bool ((e3.2.getD (Int.toNat (w6 (z0 - 1))) default) == 32) : Value) = .bool (rpxV0 e3 z0) from congrArg (Value.bool) (mand_t W0)) ?_
        exact fun a W hA hW => ⟨s0, (Gext.r w0 s0), hA.sub kr, hW, hF⟩
       replace hF := hF.2 W0
       refine Ok.b 11 [0, 3, 4, 5] [(40, .bool false)] ?_
       refine Ok.nt ((Ok.v 40 rfl (show (.bool false : Value) = .bool (rpxV0 e3 z0) from congrArg (Value.bool) (mand_f W0)) ?_))
       exact fun a W hA hW => ⟨s0, (Gext.r w0 s0), hA.sub kr, hW, hF⟩
      clear hF
      rintro a W ⟨e0, V0, hA, hW, hF⟩
      refine (?_ : Ok _ _ _ _ _ _) a W hA hW
      clear hA hW
      replace hRxl_0 := hRxl_0.mono V0.1
      refine Ok.cn hF rfl (fun f0 => ?_) (fun f0 => ?_)
      ·replace hF := hF.1 f0
       refine Ok.r (Ok.b 1 [0, 4, 5] [(41, sv v0)] ?_)
       obtain ⟨hv, hF⟩ := hF
       refine Ok.op rfl (OpOk.s (v := sv (v0 ++ ([32] : Bs))) (Yields.sa rfl rfl hv) rfl rfl (Ok.b 1 [0, 4, 5] [(3, sv (v0 ++ ([32] : Bs)))] ?_))
       refine Ok.nt ((Ok.v 3 rfl (show (sv (v0 ++ ([32] : Bs)) : Value) = sv (rpxV1 e3 v0 z0) from congrArg ((fun s : Bs => Value.string ⟨⟨s⟩⟩)) ((if_t f0).symm)) ?_))
       exact fun a W hA hW => ⟨e0, V0, hA.sub kr, hW, hF⟩
      replace hF := hF.2 f0
      refine Ok.sr ((Ok.b 2 [0, 3, 4, 5] [(44, .bool (decide (z0 > 0)))] ?_))
      refine Ok.nt ((Ok.cn hF rfl (fun D0 => ?_) (fun D0 => ?_)))
      ·replace hF := hF.1 D0
       refine Ok.r (Ok.b 1 [0, 4, 5] [(45, sv v0)] ?_)
       obtain ⟨hv, hF⟩ := hF
       refine Ok.op rfl (OpOk.s (v := sv (v0 ++ ([32] : Bs))) (Yields.sa rfl rfl hv) rfl rfl (Ok.b 2 [0, 4, 5] [(46, sv (v0 ++ ([32] : Bs))), (47, .slice axl_0 xl.length cxl_0), (48, iv q0)] ?_))
       refine Ok.op rfl (OpOk.indexRo (e := yP) (i := q0) (el := e3) rfl rfl Tryz.underlying29 kr hRxl_0 h03 he3 rfl fun q16 o16 cs16 _ E0 hr16 => ?_)
       obtain ⟨_, _, rfl, ⟨F0, G0, rfl, hm16_0, hr16_0⟩, ⟨n0, o0, rfl, hm16_1, hr16_1⟩⟩ := hr16
       have hR16_0 : Rep e0 (.slice (.slice yS)) [.slice F0 e3.1.length G0] e3.1 := ⟨F0, G0, rfl, hm16_0, hr16_0⟩
       have hR16_1 : Rep e0 (.slice yb) [.slice n0 e3.2.length o0] e3.2 := ⟨n0, o0, rfl, hm16_1, hr16_1⟩
       replace E0 : At e0 q16 o16 [.slice F0 e3.1.length G0, .slice n0 e3.2.length o0] := E0
       refine Ok.b 1 [0, 4, 5, 46] [(50, .pointer (some ⟨q16, o16 + 1, none⟩))] ?_
       refine Ok.op rfl (OpOk.s (v := .slice n0 e3.2.length o0) (Yields.lr 1 E0 kr Tryz.underlying23 rfl kr) rfl rfl (Ok.b 2 [0, 4, 5, 46] [(51, .slice n0 e3.2.length o0), (53, iv (w6 (z0 - 1)))] ?_))
       obtain ⟨h018, h118, hF⟩ := hF
       have Q1 := get_of (l := e3.2) (default : Int) h118
       generalize hg18 : (e3.2.getD (Int.toNat (w6 (z0 - 1))) default) = e18 at Q1 hF ⊢
       refine Ok.op rfl (OpOk.indexRo (e := .int .u8) (i := w6 (z0 - 1)) (el := e18) rfl rfl Tryz.underlying23 kr hR16_1 h018 Q1 rfl fun q17 o17 cs17 _ H0 hr17 => ?_)
       obtain rfl := hr17
       replace H0 : At e0 q17 o17 [.int .u8 e18] := H0
       refine Ok.op rfl (OpOk.s (v := .int .u8 e18) (Yields.lr 0 H0 kr Tryz.underlying5 rfl kr) rfl rfl ?_)
       have K1 : RepL e0 yb ([.int .u8 e18] : List Value) ([e18] : List Int) := (RepL.consN (c := [.int .u8 e18]) rfl rfl)
       refine Ok.op rfl (OpOk.lit (E := 5) yb ([e18] : List Int) ([.int .u8 e18] : List Value) kr kr rfl kr K1 rfl fun b19 => ?_)
       refine Ok.op rfl (OpOk.s (v := sv (bytesOf ([e18] : List Int))) (Yields.strOfOwn 0 kr rfl rfl K1 Tryz.underlying23 Tryz.underlying9 Tryz.underlying5) rfl rfl ?_)
       obtain ⟨hv, hF⟩ := hF
       refine Ok.op rfl (OpOk.s (v := sv ((v0 ++ ([32] : Bs)) ++ (bytesOf ([e18] : List Int)))) (Yields.sa rfl rfl hv) rfl rfl ?_)
       obtain ⟨hv, hF⟩ := hF
       refine Ok.op rfl (OpOk.s (v := sv (((v0 ++ ([32] : Bs)) ++ (bytesOf ([e18] : List Int))) ++ ([32] : Bs))) (Yields.sa rfl rfl hv) rfl rfl (Ok.b 1 [0, 4, 5] [(3, sv (((v0 ++ ([32] : Bs)) ++ (bytesOf ([e18] : List Int))) ++ ([32] : Bs)))] ?_))
       refine Ok.j (Ok.t ?_)
       subst hg18
       refine Ok.v 3 rfl (show (sv (((v0 ++ ([32] : Bs)) ++ (bytesOf ([(e3.2.getD (Int.toNat (w6 (z0 - 1))) default)] : List Int))) ++ ([32] : Bs)) : Value) = sv (rpxV1 e3 v0 z0) from congrArg ((fun s : Bs => Value.string ⟨⟨s⟩⟩)) ((Eq.trans ((if_t D0).symm) ((if_f f0).symm)))) ?_
       exact fun a W hA hW => ⟨e0, V0, hA.sub kr, hW.sub (.cons _ .slnil), hF⟩
      replace hF := hF.2 D0
      refine Ok.k (Ok.t (Ok.v 3 rfl (show (sv v0 : Value) = sv (rpxV1 e3 v0 z0) from congrArg ((fun s : Bs => Value.string ⟨⟨s⟩⟩)) ((Eq.trans ((if_f D0).symm) ((if_f f0).symm)))) ?_))
      exact fun a W hA hW => ⟨e0, V0, hA.sub kr, hW, hF⟩
     clear hF
     rintro a W ⟨c0, x0, hA, hW, hF⟩
     refine (?_ : Ok _ _ _ _ _ _) a W hA hW
     clear hA hW
     replace hRxl_0 := hRxl_0.mono x0.1
     refine Ok.sr ((Ok.b 1 [0, 3, 4, 5] [(6, iv 0)] ?_))
     refine Ok.nt ((Ok.block ?_))
     obtain ⟨k, hF⟩ := hF
     refine Ok.L (fun k a W => ∃ b0 : Ghost, Gext w0 c0 b0 ∧ ∃ (j0 : Bs) (y0 : Int), StA 88 [(0, .slice axl_0 xl.length cxl_0), (3, sv j0), (4, iv q0), (5, iv z0), (6, iv y0)] a ∧ StW w0 [] b0 W ∧ rpxl49 N e3 z0 (rpxl27 N xl q0 (rpxl9 N xl K k9) k27) k j0 y0) k ?_ ?_
     ·
      exact fun a W hA hW => ⟨c0, (Gext.r w0 c0), (rpxV1 e3 v0 z0), 0, hA.sub kr, hW, hF⟩
     clear hF
     rintro k49 a W ⟨b0, M0, j0, y0, hA, hW, hF⟩
     cases k49 with
     | zero => exact (hF : False).elim
     | succ k49 =>
      refine (?_ : Ok _ _ _ _ _ _) a W hA hW
      clear hA hW
      replace hRxl_0 := hRxl_0.mono M0.1
      refine Ok.q (Ok.sr ((Ok.b 3 [0, 3, 4, 5, 6] [(60, iv y0), (61, .slice axl_0 xl.length cxl_0), (62, iv q0)] ?_)))
      refine Ok.op rfl (OpOk.indexRo (e := yP) (i := q0) (el := e3) rfl rfl Tryz.underlying29 kr hRxl_0 h03 he3 rfl fun q5 o5 cs5 _ n1 hr5 => ?_)
      obtain ⟨_, _, rfl, ⟨N0, O0, rfl, hm5_0, hr5_0⟩, ⟨o1, p1, rfl, hm5_1, hr5_1⟩⟩ := hr5
      have hR5_0 : Rep b0 (.slice (.slice yS)) [.slice N0 e3.1.length O0] e3.1 := ⟨N0, O0, rfl, hm5_0, hr5_0⟩
      have hR5_1 : Rep b0 (.slice yb) [.slice o1 e3.2.length p1] e3.2 := ⟨o1, p1, rfl, hm5_1, hr5_1⟩
      replace n1 : At b0 q5 o5 [.slice N0 e3.1.length O0, .slice o1 e3.2.length p1] := n1
      refine Ok.b 1 [0, 3, 4, 5, 6, 60] [(64, pv q5 o5)] ?_
      refine Ok.op rfl (OpOk.s (v := .slice N0 e3.1.length O0) (Yields.lr 0 n1 kr Tryz.underlying22 rfl kr) rfl rfl (Ok.b 1 [0, 3, 4, 5, 6, 60] [(65, .slice N0 e3.1.length O0), (66, iv z0)] ?_))
      obtain ⟨h07, h17, hF⟩ := hF
      have he7 := get_of (l := e3.1) (default : List TS) h17
      generalize hg7 : (e3.1.getD (Int.toNat z0) default) = e7 at he7 hF ⊢
      refine Ok.op rfl (OpOk.indexRo (e := .slice yS) (i := z0) (el := e7) rfl rfl Tryz.underlying22 kr hR5_0 h07 he7 rfl fun q6 o6 cs6 _ r1 hr6 => ?_)
      obtain ⟨y1, u1, rfl, hm6_0, hr6_0⟩ := hr6
      have hR6_0 : Rep b0 (.slice yS) [.slice y1 e7.length u1] e7 := ⟨y1, u1, rfl, hm6_0, hr6_0⟩
      replace r1 : At b0 q6 o6 [.slice y1 e7.length u1] := r1
      refine Ok.op rfl (OpOk.s (v := .slice y1 e7.length u1) (Yields.lr 0 r1 kr Tryz.underlying41 rfl kr) rfl rfl (Ok.b 2 [0, 3, 4, 5, 6] [(70, .bool (decide (y0 < (e7.length : Int))))] ?_))
      refine Ok.nt ((Ok.cn hF rfl (fun hc8 => ?_) (fun hc8 => ?_)))
      ·replace hF := hF.1 hc8
       refine Ok.k (Ok.t (Ok.q (Ok.block (Ok.r (Ok.b 3 [0, 4, 5, 6] [(73, sv j0), (74, .slice axl_0 xl.length cxl_0), (75, iv q0)] ?_)))))
       refine Ok.op rfl (OpOk.indexRo (e := yP) (i := q0) (el := e3) rfl rfl Tryz.underlying29 kr hRxl_0 h03 he3 rfl fun q9 o9 cs9 _ t1 hr9 => ?_)
       obtain ⟨_, _, rfl, ⟨P0, T0, rfl, hm9_0, hr9_0⟩, ⟨a1, i1, rfl, hm9_1, hr9_1⟩⟩ := hr9
       have hR9_0 : Rep b0 (.slice (.slice yS)) [.slice P0 e3.1.length T0] e3.1 := ⟨P0, T0, rfl, hm9_0, hr9_0⟩
       have hR9_1 : Rep b0 (.slice yb) [.slice a1 e3.2.length i1] e3.2 := ⟨a1, i1, rfl, hm9_1, hr9_1⟩
       replace t1 : At b0 q9 o9 [.slice P0 e3.1.length T0, .slice a1 e3.2.length i1] := t1
       refine Ok.b 1 [0, 4, 5, 6, 73] [(77, pv q9 o9)] ?_
       refine Ok.op rfl (OpOk.s (v := .slice P0 e3.1.length T0) (Yields.lr 0 t1 kr Tryz.underlying22 rfl kr) rfl rfl (Ok.b 1 [0, 4, 5, 6, 73] [(78, .slice P0 e3.1.length T0), (79, iv z0)] ?_))
       refine Ok.op rfl (OpOk.indexRo (e := .slice yS) (i := z0) (el := e7) rfl rfl Tryz.underlying22 kr hR9_0 h07 he7 rfl fun q10 o10 cs10 _ L0 hr10 => ?_)
       obtain ⟨p0, t0, rfl, hm10_0, hr10_0⟩ := hr10
       have hR10_0 : Rep b0 (.slice yS) [.slice p0 e7.length t0] e7 := ⟨p0, t0, rfl, hm10_0, hr10_0⟩
       replace L0 : At b0 q10 o10 [.slice p0 e7.length t0] := L0
       refine Ok.op rfl (OpOk.s (v := .slice p0 e7.length t0) (Yields.lr 0 L0 kr Tryz.underlying41 rfl kr) rfl rfl (Ok.b 1 [0, 4, 5, 6, 73] [(81, .slice p0 e7.length t0), (82, iv y0)] ?_))
       obtain ⟨h012, h112, hF⟩ := hF
       have Y1 := get_of (l := e7) (default : TS) h112
       generalize hg12 : (e7.getD (Int.toNat y0) default) = e12 at Y1 hF ⊢
       refine Ok.op rfl (OpOk.indexRo (e := yS) (i := y0) (el := e12) rfl rfl Tryz.underlying41 kr hR10_0 h012 Y1 rfl fun q11 o11 cs11 _ A0 hr11 => ?_)
       have Z0 := hr11
       replace Z0 := Rep.tst.1 Z0
       obtain ⟨_, _, rfl, ⟨_, _, rfl, rfl, ⟨_, _, rfl, rfl, ⟨_, _, rfl, rfl, ⟨_, _, rfl, rfl, ⟨_, _, rfl, rfl, rfl⟩⟩⟩⟩⟩, ⟨a0, i0, rfl, hm11_6, hr11_6⟩⟩ := Z0
       have hR11_6 : Rep b0 (.slice yP) [.slice a0 e12.kids.length i0] e12.kids := ⟨a0, i0, rfl, hm11_6, hr11_6⟩
       replace A0 : At b0 q11 o11 (vL e12.lab a0 e12.kids.length i0) := A0
       refine Ok.op rfl (OpOk.s (v := .agg (aL e12.lab a0 e12.kids.length i0)) (Yields.loadAggRo 0 7 (aL e12.lab a0 e12.kids.length i0) A0 kr Tryz.underlying48 rfl kr kr kr) rfl rfl ?_)
       obtain ⟨hp13, hF⟩ := hF
       refine Ok.op rfl (OpOk.f enr (fun W hW => ih_rtt _ e12 (hR11_6.mono hW.sees) hp13) rfl ?_)
       obtain ⟨hv, hF⟩ := hF
       refine Ok.op rfl (OpOk.s (v := sv (j0 ++ (txT e12))) (Yields.sa rfl rfl hv) rfl rfl (Ok.b 1 [0, 4, 5, 6] [(3, sv (j0 ++ (txT e12)))] ?_))
       refine Ok.j (Ok.kn (Ok.t (Ok.r (Ok.b 3 [0, 3, 4, 5] [(6, iv (w6 (y0 + 1)))] ?_))))
       refine Ok.j (Ok.t ?_)
       subst hg12
       subst hg7
       exact fun a W hA hW => ⟨k49, Nat.lt_succ_self _, b0, M0, j0 ++ (txT ((e3.1.getD (Int.toNat z0) default).getD (Int.toNat y0) default)), w6 (y0 + 1), hA.sub kr, hW, hF⟩
      replace hF := hF.2 hc8
      refine Ok.x (Ok.thenE (Ok.thenE (Ok.blockHit (Ok.kn (Ok.t (Ok.r (Ok.b 3 [0, 3, 4] [(5, iv (w6 (z0 + 1)))] ?_)))))))
      refine Ok.j (Ok.t ?_)
      subst hg7
      subst hg3
      exact fun a W hA hW => ⟨k27, Nat.lt_succ_self _, b0, ((J0.trans x0).trans M0), j0, w6 (z0 + 1), hA.sub kr, hW, hF⟩
    replace hF := hF.2 hc4
    refine Ok.x (Ok.thenE (Ok.thenE (Ok.blockHit (Ok.kn (Ok.t (Ok.r (Ok.b 3 [0, 3] [(4, iv (w6 (q0 + 1)))] ?_)))))))
    refine Ok.j (Ok.t ?_)
    subst hg3
    exact fun a W hA hW => ⟨k9, Nat.lt_succ_self _, s0, ((e1.trans j1).trans J0), v0, w6 (q0 + 1), hA.sub kr, hW, hF⟩
  replace hF := hF.2 hc1
  refine Ok.x (Ok.thenE (Ok.thenE (Ok.blockHit (Ok.t (Ok.sr ((Ok.B 2 [(2, sv u0)] kr (Ok.nt ((Ok.ret ?_))))))))))
  exact Ok.resH (vs := [sv u0]) (.inl rfl) rfl (.cons (.tmp rfl) .nil) e1 ⟨u0, rfl, rfl, hF⟩
theorem rtt_0 (t : Ts) : ¬ rttP 0 t := fun h => absurd h.1 (Nat.not_lt_zero _)
theorem rpx_0 (l : List Ph) : ¬ rpxP 0 l := fun h => absurd h.1 (Nat.not_lt_zero _)
theorem rtt_F (N : Nat) (t : Ts) (h : rttP (N + 1) t) : rttF N t (fun r => r = txT t) := by
 have hk := fun hx => sttP_kids h hx
 obtain ⟨_, hb, ho, i, hi⟩ := h
 rw [okT_eq, Bool.and_eq_true] at hi
 obtain ⟨hab, hl1, hl2⟩ := lab_ab hi.1
 have hkb := bT_kids t
 have e : maxLen = 9223372036854775807 := rfl
 have hq : quoteP t.lab.2.2.2.1 := by unfold quoteP; omega
 have hql := quote_len t.lab.2.2.2.1
 have hT := txT_eq t
 have hdq : (dqS t.lab.2.2.2.1).length ≤ 2 * t.lab.2.2.2.1.length + 2 := by unfold dqS; simp; omega
 have hlen : ∀ hx, (tx3 t.kids).length ≤ 400 * 1048600 := fun hx => by
  have h1 := tx3_len (fun q _ s _ y _ => tlen y) (hk hx).2.2.2
  have h2 := b3_eq t.kids
  omega
 have hN : (nthT t).length ≤ 2006 := nth_len hab
 have k1 : ∀ {n : Int}, ((t.lab.1 == n) = true → t.lab.1 = n) := fun h => eq_of_beq h
 have k0 : ∀ {n : Int}, (t.lab.1 == n) = false → t.lab.1 ≠ n := fun h => by simpa using h
 have c2l : ∀ z : Int, (bytesOf ([z, 61] : List Int)) = [byteB z, 61] := fun _ => rfl
 refine ⟨fun c1 => ?_, fun c1 => ⟨fun c2 => ?_, fun c2 => ⟨fun c3 => ⟨sl, ?_⟩, fun c3 => ⟨fun c4 => ⟨sl, ?_⟩, fun c4 => ?_⟩⟩⟩⟩
 ·rw [hT, labT, if_t c1]
 ·rw [hT, labT, if_f c1, if_t c2]
 ·rw [hT, labT, if_f c1, if_f c2, if_t c3]; rfl
 ·rw [hT, labT, if_f c1, if_f c2, if_f c3, if_t c4]; rfl
 rw [labT, if_f c1, if_f c2, if_f c3, if_f c4] at hT
 have j36 : rttj36 N t (fun r => r = txT t) := by
  refine ⟨fun c50 => ?_, fun c50 => ?_⟩
  ·rw [Bool.and_eq_true] at c50
   refine ⟨sl, sl, ?_⟩
   rw [hT, if_t c50.1, if_t c50.2]; simp
  have j44 : rttj44 N t (fun r => r = txT t) := by
   refine ⟨fun c56 => ?_, fun c56 => ⟨fun c5 => ?_, fun c5 => ?_⟩⟩
   ·rw [Bool.and_eq_true] at c56
    have hz : (t.lab.2.2.1 == 0) = false := by rw [eq_of_beq c56.2]; rfl
    refine ⟨sl, sl, hq, sl, sl, ?_⟩
    rw [hT, if_t c56.1, if_f hz, opS, if_t c56.2]; simp
   ·have hz : (t.lab.2.2.1 == 0) = false := by rw [c5, Bool.true_and] at c50; exact c50
    have hz2 : (t.lab.2.2.1 == 61) = false := by rw [c5, Bool.true_and] at c56; exact c56
    rw [c2l]
    refine ⟨sl, hq, sl, sl, sl, ?_⟩
    rw [hT, if_t c5, if_f hz, opS, if_f hz2]; simp
   rw [if_f c5] at hT
   refine ⟨fun c6 => ?_, fun c6 => ⟨fun c7 => ?_, fun c7 => ⟨fun c8 => ⟨hab, ?_, ?_, ?_⟩, fun c8 => ⟨fun c9 => ⟨hab, ?_, ?_, ?_⟩, fun c9 => ⟨fun c10 => ?_, fun c10 => ?_⟩⟩⟩⟩⟩
   ·show _ = _; rw [hT, if_t c6]
   ·show _ = _; rw [hT, if_f c6, if_t c7]
   ·simp only [List.length_cons, List.length_nil]; omega
   ·simp only [List.length_append, List.length_cons, List.length_nil]; omega
   ·show _ = _; rw [hT, if_f c6, if_f c7, if_t c8, List.append_assoc]; rfl
   ·simp only [List.length_cons, List.length_nil]; omega
   ·simp only [List.length_append, List.length_cons, List.length_nil]; omega
   ·show _ = _; rw [hT, if_f c6, if_f c7, if_f c8, if_t c9, List.append_assoc]; rfl
   ·have h3 := hlen (.inl (k1 c10))
    refine ⟨hk (.inl (k1 c10)), sl, sl, ?_⟩
    show _ = _; rw [hT, if_f c6, if_f c7, if_f c8, if_f c9, if_t c10, List.append_assoc]
   have h11 : t.lab.1 = 11 := by
    have := k0 c1; have := k0 c2; have := k0 c3; have := k0 c4; have := k0 c5; have := k0 c6; have := k0 c7; have := k0 c8; have := k0 c9; have := k0 c10
    omega
   have h3 := hlen (.inr h11)
   refine ⟨hk (.inr h11), sl, sl, ?_⟩
   show _ = _; rw [hT, if_f c6, if_f c7, if_f c8, if_f c9, if_f c10, List.append_assoc]
  exact ⟨fun _ => j44, fun _ => j44⟩
 exact ⟨fun _ => j36, fun _ => j36⟩
theorem rpx49 {N : Nat} (q : Ph) {j : Nat} (hj : j < q.1.length) (hs : ∀ i, i < (q.1.getD j default).length → sttP N ((q.1.getD j default).getD i default)) (hl : (q.1.getD j default).length ≤ 1048600) (C : Bs → Int → Prop) (Z : Bs) (hZ : (Z ++ tx1 (q.1.getD j default)).length ≤ 140737488355328) (hC : C (Z ++ tx1 (q.1.getD j default)) (w6 ((j : Int) + 1))) :
  ∀ (m i : Nat) (Y : Bs), i + m = (q.1.getD j default).length → Y ++ tx1 ((q.1.getD j default).drop i) = Z ++ tx1 (q.1.getD j default) → rpxl49 N q (j : Int) C (m + 1) Y (i : Int) := by
 have e : maxLen = 9223372036854775807 := rfl
 intro m
 induction m with
 | zero =>
  intro i Y hi he
  rw [List.drop_of_length_le om, tx1, List.append_nil] at he
  refine ⟨by omega, by rw [Int.toNat_natCast]; exact hj, ?_⟩
  rw [Int.toNat_natCast]
  exact ⟨fun hc => absurd (of_decide_eq_true hc) om, fun _ => by rw [he]; exact hC⟩
 | succ m ih =>
  intro i Y hi he
  have hi' : i < (q.1.getD j default).length := by omega
  rw [drop_get (l := q.1.getD j default) default hi', tx1, ← List.append_assoc] at he
  have hle := congrArg List.length he
  rw [List.length_append, List.length_append] at hle
  refine ⟨by omega, by rw [Int.toNat_natCast]; exact hj, ?_⟩
  rw [Int.toNat_natCast]
  refine ⟨fun _ => ⟨by omega, by rw [Int.toNat_natCast]; omega, ?_⟩, fun hc => absurd (of_decide_eq_false hc) om⟩
  rw [Int.toNat_natCast]
  refine ⟨hs i hi', by omega, ?_⟩
  rw [w64 om, show (i : Int) + 1 = ((i + 1 : Nat) : Int) by omega]
  exact ih (i + 1) _ om he
theorem rpx27 {N : Nat} (l : List Ph) {j : Nat} (U1 : j < l.length) (hj : ∀ z ∈ (l.getD j default).2, btN z) (hs : ∀ s ∈ (l.getD j default).1, ∀ i, i < s.length → sttP N (s.getD i default)) (hw : w2 (l.getD j default).1 ≤ 1048600) (h0 : (l.getD j default).1 ≠ []) (hjl : (l.getD j default).2.length + 1 = (l.getD j default).1.length)
  (C : Bs → Int → Prop) (E : Bs) (hL : E.length ≤ 140737488355328) (hC : C E (w6 ((j : Int) + 1))) :
  ∀ (m i : Nat) (Z : Bs), i + m = (l.getD j default).1.length → Z ++ restS (l.getD j default) i = E → rpxl27 N l (j : Int) C (m + 1) Z (i : Int) := by
 have e : maxLen = 9223372036854775807 := rfl
 generalize hq : l.getD j default = q at *
 have hl2 := w2_len q.1
 intro m
 induction m with
 | zero =>
  intro i Z hi he
  have : i = q.1.length := by omega
  subst this
  rw [rest_end q h0, List.append_nil] at he
  refine ⟨by omega, by rw [Int.toNat_natCast]; exact U1, ?_⟩
  rw [Int.toNat_natCast, hq]
  exact ⟨fun hc => absurd (of_decide_eq_true hc) om, fun _ => by rw [he]; exact hC⟩
 | succ m ih =>
  intro i Z hi he
  have hi' : i < q.1.length := by omega
  have hin := get_in (l := q.1) default hi'
  have hw1 := w2_in hin
  have hw3 := w1_len (q.1.getD i default)
  rw [rest_step q hi' hjl, ← List.append_assoc, ← List.append_assoc] at he
  have hle := congrArg List.length he
  rw [List.length_append, List.length_append, List.length_append] at hle
  have hk1 : ∀ k : Nat, i = k + 1 → w6 ((i : Int) - 1) = (k : Int) := fun k hk => by rw [w64 om]; omega
  have hV : rpxV1 q Z (i : Int) = Z ++ sepS q i := by
   unfold rpxV1 rpxV0 sepS
   by_cases h : i = 0
   ·subst h; rw [if_pos rfl]; simp
   obtain ⟨k, hk⟩ : ∃ k, i = k + 1 := ⟨i - 1, by omega⟩
   rw [hk1 k hk, Int.toNat_natCast, if_neg h, show i - 1 = k by omega, show decide ((i : Int) > 0) = true from decide_eq_true om, Bool.true_and, if_pos rfl, jnS]
   split
   ·rfl
   simp [bytesOf, byteB]
  have j36 : rpxj36 N q Z (i : Int) (rpxl27 N l (j : Int) C (m + 1)) := by
   refine ⟨(q.1.getD i default).length + 1, ?_⟩
   rw [hV]
   refine rpx49 q hi' (hs _ hin) om _ (Z ++ sepS q i) (by rw [List.length_append, List.length_append]; omega) ?_ (q.1.getD i default).length 0 _ om (by rw [List.drop_zero])
   rw [w64 om, show (i : Int) + 1 = ((i + 1 : Nat) : Int) by omega]
   exact ih (i + 1) _ om he
  have j37 : rpxj37 N q Z (i : Int) (rpxl27 N l (j : Int) C (m + 1)) := by
   have hsl : ∀ k : Nat, i = k + 1 → (sepS q i).length = (jnS (q.2.getD k default)).length := fun k hk => by
    subst hk
    unfold sepS; rw [if_neg om]; rfl
   refine ⟨fun hc => ⟨?_, j36⟩, fun hc => ⟨fun h1 => ?_, fun _ => j36⟩⟩
   ·unfold rpxV0 at hc
    rw [Bool.and_eq_true] at hc
    have h1 := of_decide_eq_true hc.1
    obtain ⟨k, hk⟩ : ∃ k, i = k + 1 := ⟨i - 1, by omega⟩
    have h2 := hsl k hk
    have h3 : 1 ≤ (jnS (q.2.getD k default)).length := by unfold jnS; split <;> simp
    show Z.length + 1 ≤ _
    omega
   have h1 := of_decide_eq_true h1
   obtain ⟨k, hk⟩ : ∃ k, i = k + 1 := ⟨i - 1, by omega⟩
   have h2 := hsl k hk
   have hc : (q.2.getD k default == 32) = false := by
    unfold rpxV0 at hc
    rw [hk1 k hk, Int.toNat_natCast, show decide ((i : Int) > 0) = true from decide_eq_true h1, Bool.true_and] at hc
    exact hc
   have h3 : (jnS (q.2.getD k default)).length = 3 := by unfold jnS; rw [if_f hc]; rfl
   rw [hk1 k hk, Int.toNat_natCast]
   exact ⟨by show Z.length + 1 ≤ _; omega, by omega, by omega, by rw [List.length_append]; show Z.length + 1 + 1 ≤ _; omega, by rw [List.length_append, List.length_append]; show Z.length + 1 + 1 + 1 ≤ _; omega, j36⟩
  refine ⟨by omega, by rw [Int.toNat_natCast]; exact U1, ?_⟩
  rw [Int.toNat_natCast, hq]
  refine ⟨fun _ => ⟨fun h1 => ?_, fun _ => j37⟩, fun hc => absurd (of_decide_eq_false hc) om⟩
  have h1 := of_decide_eq_true h1
  obtain ⟨k, hk⟩ : ∃ k, i = k + 1 := ⟨i - 1, by omega⟩
  rw [hk1 k hk, Int.toNat_natCast]
  exact ⟨by omega, by omega, j37⟩
def restP (l : List Ph) (i : Nat) : Bs := if i = 0 then tx3 l else tr3 (l.drop i)
theorem restP_step (l : List Ph) {i : Nat} (hi : i < l.length) : restP l i = (if i = 0 then [] else [44, 32]) ++ (tx2 (l.getD i default).1 (l.getD i default).2 ++ restP l (i + 1)) := by
 unfold restP
 rw [if_neg (by omega : ¬ i + 1 = 0)]
 by_cases h0 : i = 0
 ·subst h0
  rw [if_pos rfl, if_pos rfl]
  match l, hi with
  | (p, js) :: l, _ => rw [tx3]; rfl
 rw [if_neg h0, if_neg h0, drop_get (l := l) default hi]
 generalize l.getD i default = q
 obtain ⟨p, js⟩ := q
 rw [tr3]; rfl
theorem rpx_F (N : Nat) (l : List Ph) (h : rpxP (N + 1) l) : rpxF N l (fun r => r = tx3 l) := by
 have hin := fun q hq s hs i hi => stxP_in h (q := q) hq (s := s) hs (i := i) hi
 obtain ⟨_, hb, ho, hk⟩ := h
 have h5 := b3_eq l
 have hlen := w3_len l
 have e : maxLen = 9223372036854775807 := rfl
 have hL := tx3_len (fun q _ s _ y _ => tlen y) hk
 have loop : ∀ (m i : Nat) (Z : Bs), i + m = l.length → Z ++ restP l i = tx3 l → rpxl9 N l (fun r => r = tx3 l) (m + 1) Z (i : Int) := by
  intro m
  induction m with
  | zero =>
   intro i Z hi he
   refine ⟨fun hc => absurd (of_decide_eq_true hc) om, fun _ => ?_⟩
   have : restP l i = [] := by
    unfold restP
    by_cases h0 : i = 0
    ·rw [if_pos h0]
     have : l = [] := List.eq_nil_of_length_eq_zero om
     rw [this, tx3]
    rw [if_neg h0, List.drop_of_length_le om, tr3]
   rw [this, List.append_nil] at he
   exact he
  | succ m ih =>
   intro i Z hi he
   have hi' : i < l.length := by omega
   have hq := get_in (l := l) default hi'
   have hwq := w3_in hq
   obtain ⟨⟨q1, q2⟩, q3, q4⟩ := ok3_in hk hq
   rw [restP_step l hi', ← List.append_assoc, ← List.append_assoc] at he
   have hle := congrArg List.length he
   rw [List.length_append, List.length_append, List.length_append] at hle
   have hV : rpxV2 Z (i : Int) = Z ++ (if i = 0 then [] else [44, 32]) := by
    unfold rpxV2
    by_cases h0 : i = 0
    ·subst h0; simp
    rw [if_neg h0, if_pos (decide_eq_true om)]
   have j18 : rpxj18 N l Z (i : Int) (rpxl9 N l (fun r => r = tx3 l) (m + 1)) := by
    refine ⟨(l.getD i default).1.length + 1, ?_⟩
    rw [hV]
    refine rpx27 l hi' (ho _ hq).1 (hin _ hq) om q1 om _ (Z ++ (if i = 0 then [] else [44, 32]) ++ tx2 (l.getD i default).1 (l.getD i default).2) (by rw [List.length_append, List.length_append]; omega) ?_ (l.getD i default).1.length 0 _ om rfl
    rw [w64 om, show (i : Int) + 1 = ((i + 1 : Nat) : Int) by omega]
    exact ih (i + 1) _ om he
   refine ⟨fun _ => ⟨fun h1 => ⟨?_, j18⟩, fun _ => j18⟩, fun hc => absurd (of_decide_eq_false hc) om⟩
   have h1 := of_decide_eq_true h1
   rw [if_neg (by omega : ¬ i = 0)] at hle
   simp only [List.length_cons, List.length_nil] at hle ⊢
   omega
 exact ⟨_, loop l.length 0 [] om rfl⟩
theorem rtt_rec : ∀ N, rtt_C N ∧ rpx_C N
 | 0 => ⟨(by intro g axt_0 cxt_0 xt hRxt_0 hp; exact (rtt_0 xt hp).elim), (by intro g axl_0 cxl_0 xl hRxl_0 hp; exact (rpx_0 xl hp).elim)⟩
 | N + 1 =>
  have ih := rtt_rec N
  ⟨(by intro g axt_0 cxt_0 xt hRxt_0 hp; exact (rtt_ok N ih.1 ih.2 xt hRxt_0 _ (rtt_F N xt hp)).gives (by rintro g' H' v _ ⟨r0, rfl, rfl, hK⟩; subst hK; rfl)), (by intro g axl_0 cxl_0 xl hRxl_0 hp; exact (rpx_ok N ih.1 ih.2 xl hRxl_0 _ (rpx_F N xl hp)).gives (by rintro g' H' v _ ⟨r0, rfl, rfl, hK⟩; subst hK; rfl))⟩
def rpxPE (xl : List PH) : Prop := ∃ N, rpxP N xl
theorem rpx_c {g : Ghost} {axl_0 : Option Addr} {cxl_0 : Nat} (xl : List PH) (hRxl_0 : Rep g (.slice yP) [.slice axl_0 xl.length cxl_0] xl)  (hp : rpxPE xl) : CallsG Tryz.prog 11 #[.slice axl_0 xl.length cxl_0] g (sv (tx3 xl)) := by
 obtain ⟨N, hp⟩ := hp
 exact (rtt_rec N).2 _ xl hRxl_0 hp
end Go.Proofs.YtcnhdkhkadiohaaGreatDoor.Se
