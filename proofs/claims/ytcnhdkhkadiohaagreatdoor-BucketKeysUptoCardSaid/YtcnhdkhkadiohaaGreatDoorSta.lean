/- selector: the text of paths, by the program. -/
import Derived.Test.YtcnhdkhkadiohaaGreatDoorStp
import Derived.Test.YtcnhdkhkadiohaaGreatDoorBlw
namespace Go.Proofs.YtcnhdkhkadiohaaGreatDoor.Se
open Go Go.Eng Go.RowKit Bld Trm Css Tk Ti Me Rp Qu
set_option maxHeartbeats 4000000
set_option maxRecDepth 100000
set_option linter.unusedSimpArgs false
set_option linter.unusedVariables false
def nthF (xt : TS) (K : Bs → Prop) : Prop :=
 ((decide (xt.lab.2.2.2.2.2 < 0)) = true → i64P xt.lab.2.2.2.2.1 ∧ (Lib.itoa xt.lab.2.2.2.2.1).length + ([110] : Bs).length ≤ maxLen ∧ i64P xt.lab.2.2.2.2.2 ∧ ((Lib.itoa xt.lab.2.2.2.2.1) ++ ([110] : Bs)).length + (Lib.itoa xt.lab.2.2.2.2.2).length ≤ maxLen ∧ K (((Lib.itoa xt.lab.2.2.2.2.1) ++ ([110] : Bs)) ++ (Lib.itoa xt.lab.2.2.2.2.2))) ∧ ((decide (xt.lab.2.2.2.2.2 < 0)) = false → i64P xt.lab.2.2.2.2.1 ∧ (Lib.itoa xt.lab.2.2.2.2.1).length + ([110, 43] : Bs).length ≤ maxLen ∧ i64P xt.lab.2.2.2.2.2 ∧ ((Lib.itoa xt.lab.2.2.2.2.1) ++ ([110, 43] : Bs)).length + (Lib.itoa xt.lab.2.2.2.2.2).length ≤ maxLen ∧ K (((Lib.itoa xt.lab.2.2.2.2.1) ++ ([110, 43] : Bs)) ++ (Lib.itoa xt.lab.2.2.2.2.2)))
theorem nth_ok {g : Ghost} {axt_0 : Option Addr} {cxt_0 : Nat} (xt : TS) (hRxt_0 : Rep g (.slice yP) [.slice axt_0 xt.kids.length cxt_0] xt.kids) (hG3 : GlobL g 3 (.int .u64) DPow) (K : Bs → Prop)
  (hF : nthF xt K) : CallsH Tryz.prog 56 #[.agg (aL xt.lab axt_0 xt.kids.length cxt_0)] g [] (fun g' H' v => ∃ (r0 : Bs), v = sv r0 ∧ H' = [] ∧ K r0) := by
 refine CallsH.enter 22 [(0, .agg (aL xt.lab axt_0 xt.kids.length cxt_0))] Tryz.func56 rfl kr kr kr fun w0 => ?_
 refine Ok.sr ((Ok.op rfl (OpOk.box (v := .agg (aL xt.lab axt_0 xt.kids.length cxt_0)) (cs := (aL xt.lab axt_0 xt.kids.length cxt_0)) rfl kr rfl fun bs1 => ?_)))
 refine Ok.B 1 [(1, pv bs1 0)] kr (Ok.nt ((Ok.q (Ok.sr ((Ok.b 1 [1] [(3, pv bs1 5)] ?_))))))
 refine Ok.op rfl (OpOk.s (v := iv xt.lab.2.2.2.2.2) (Yields.l 0 rfl rfl Tryz.underlying3 rfl kr) rfl rfl (Ok.b 1 [1] [(5, .bool (decide (xt.lab.2.2.2.2.2 < 0)))] ?_))
 refine Ok.nt ((Ok.cn hF rfl (fun hc2 => ?_) (fun hc2 => ?_)))
 ·replace hF := hF.1 hc2
  refine Ok.q (Ok.quiet' kr kr (OkQ.b 1 [1] [(6, pv bs1 4)] ?_))
  refine OkQ.op rfl (OpQ.s (v := iv xt.lab.2.2.2.2.1) (Yields.l 0 rfl rfl Tryz.underlying3 rfl kr) rfl rfl ?_)
  obtain ⟨hp3, hF⟩ := hF
  refine OkQ.op rfl (OpQ.f enr (fun W hW => itoa_c xt.lab.2.2.2.2.1 (hG3.mono hW.sees) hp3) rfl ?_)
  obtain ⟨hv, hF⟩ := hF
  refine OkQ.op rfl (OpQ.s (v := sv ((Lib.itoa xt.lab.2.2.2.2.1) ++ ([110] : Bs))) (Yields.sa rfl rfl hv) rfl rfl (OkQ.B 1 [(9, sv ((Lib.itoa xt.lab.2.2.2.2.1) ++ ([110] : Bs))), (10, pv bs1 5)] kr (OkQ.op rfl (OpQ.s (v := iv xt.lab.2.2.2.2.2) (Yields.l 0 rfl rfl Tryz.underlying3 rfl kr) rfl rfl ?_))))
  obtain ⟨hp4, hF⟩ := hF
  refine OkQ.op rfl (OpQ.f enr (fun W hW => itoa_c xt.lab.2.2.2.2.2 (hG3.mono hW.sees) hp4) rfl ?_)
  obtain ⟨hv, hF⟩ := hF
  refine OkQ.op rfl (OpQ.s (v := sv (((Lib.itoa xt.lab.2.2.2.2.1) ++ ([110] : Bs)) ++ (Lib.itoa xt.lab.2.2.2.2.2))) (Yields.sa rfl rfl hv) rfl rfl (OkQ.B 1 [(2, sv (((Lib.itoa xt.lab.2.2.2.2.1) ++ ([110] : Bs)) ++ (Lib.itoa xt.lab.2.2.2.2.2)))] kr (OkQ.j (Ok.t (Ok.ret (Ok.tr ?_))))))
  exact Ok.p (vs := [sv (((Lib.itoa xt.lab.2.2.2.2.1) ++ ([110] : Bs)) ++ (Lib.itoa xt.lab.2.2.2.2.2))]) [] [] dc rfl (.inl rfl) rfl (.cons (.tmp rfl) .nil) (Gext.r w0 g) ⟨(((Lib.itoa xt.lab.2.2.2.2.1) ++ ([110] : Bs)) ++ (Lib.itoa xt.lab.2.2.2.2.2)), rfl, rfl, hF⟩
 replace hF := hF.2 hc2
 refine Ok.k (Ok.t (Ok.q (Ok.quiet' kr kr (OkQ.b 1 [1] [(14, pv bs1 4)] ?_))))
 refine OkQ.op rfl (OpQ.s (v := iv xt.lab.2.2.2.2.1) (Yields.l 0 rfl rfl Tryz.underlying3 rfl kr) rfl rfl ?_)
 obtain ⟨hp5, hF⟩ := hF
 refine OkQ.op rfl (OpQ.f enr (fun W hW => itoa_c xt.lab.2.2.2.2.1 (hG3.mono hW.sees) hp5) rfl ?_)
 obtain ⟨hv, hF⟩ := hF
 refine OkQ.op rfl (OpQ.s (v := sv ((Lib.itoa xt.lab.2.2.2.2.1) ++ ([110, 43] : Bs))) (Yields.sa rfl rfl hv) rfl rfl (OkQ.B 1 [(17, sv ((Lib.itoa xt.lab.2.2.2.2.1) ++ ([110, 43] : Bs))), (18, pv bs1 5)] kr (OkQ.op rfl (OpQ.s (v := iv xt.lab.2.2.2.2.2) (Yields.l 0 rfl rfl Tryz.underlying3 rfl kr) rfl rfl ?_))))
 obtain ⟨hp6, hF⟩ := hF
 refine OkQ.op rfl (OpQ.f enr (fun W hW => itoa_c xt.lab.2.2.2.2.2 (hG3.mono hW.sees) hp6) rfl ?_)
 obtain ⟨hv, hF⟩ := hF
 refine OkQ.op rfl (OpQ.s (v := sv (((Lib.itoa xt.lab.2.2.2.2.1) ++ ([110, 43] : Bs)) ++ (Lib.itoa xt.lab.2.2.2.2.2))) (Yields.sa rfl rfl hv) rfl rfl (OkQ.B 1 [(2, sv (((Lib.itoa xt.lab.2.2.2.2.1) ++ ([110, 43] : Bs)) ++ (Lib.itoa xt.lab.2.2.2.2.2)))] kr (OkQ.j (Ok.t (Ok.ret ?_)))))
 exact Ok.p (vs := [sv (((Lib.itoa xt.lab.2.2.2.2.1) ++ ([110, 43] : Bs)) ++ (Lib.itoa xt.lab.2.2.2.2.2))]) [] [] dc rfl (.inl rfl) rfl (.cons (.tmp rfl) .nil) (Gext.r w0 g) ⟨(((Lib.itoa xt.lab.2.2.2.2.1) ++ ([110, 43] : Bs)) ++ (Lib.itoa xt.lab.2.2.2.2.2)), rfl, rfl, hF⟩
theorem nth_F (t : Ts) (hp : nthTP t) : nthF t (fun r => r = nthT t) := by
 obtain ⟨h1, h2⟩ := itoa_1000 hp.1
 obtain ⟨h3, h4⟩ := itoa_1000 hp.2
 have e : maxLen = 9223372036854775807 := rfl
 refine ⟨fun hb => ⟨h1, sl, h3, sl, ?_⟩, fun hb => ⟨h1, sl, h3, sl, ?_⟩⟩
 ·unfold nthT nthS; rw [if_pos (of_decide_eq_true hb)]; simp
 unfold nthT nthS; rw [if_neg (of_decide_eq_false hb)]; simp
theorem nth_c {g : Ghost} {axt_0 : Option Addr} {cxt_0 : Nat} (xt : TS) (hRxt_0 : Rep g (.slice yP) [.slice axt_0 xt.kids.length cxt_0] xt.kids) (hG3 : GlobL g 3 (.int .u64) DPow)  (hp : nthTP xt) : CallsG Tryz.prog 56 #[.agg (aL xt.lab axt_0 xt.kids.length cxt_0)] g (sv (nthT xt)) :=
 (nth_ok xt hRxt_0 hG3 _ (nth_F xt hp)).gives (by rintro g' H' v _ ⟨r0, rfl, rfl, hK⟩; subst hK; rfl)
def stt_C (N : Nat) : Prop := ∀ (g : Ghost) {axt_0 : Option Addr} {cxt_0 : Nat} (xt : TS) (hRxt_0 : Rep g (.slice yP) [.slice axt_0 xt.kids.length cxt_0] xt.kids) (hG3 : GlobL g 3 (.int .u64) DPow)  (hp : sttP N xt), CallsG Tryz.prog 39 #[.agg (aL xt.lab axt_0 xt.kids.length cxt_0)] g (sv (txT xt))
def stx_C (N : Nat) : Prop := ∀ (g : Ghost) {axl_0 : Option Addr} {cxl_0 : Nat} (xl : List PH) (hRxl_0 : Rep g (.slice yP) [.slice axl_0 xl.length cxl_0] xl) (hG3 : GlobL g 3 (.int .u64) DPow)  (hp : stxP N xl), CallsG Tryz.prog 23 #[.slice axl_0 xl.length cxl_0] g (sv (tx3 xl))
def sttV0 (xt : TS) : Bool :=
 ((decide (((bytesOf ([xt.lab.2.2.1] : List Int)).length : Int) ≥ (([61] : Bs).length : Int))) && (((bytesOf ([xt.lab.2.2.1] : List Int)).drop (Int.toNat (w6 (((bytesOf ([xt.lab.2.2.1] : List Int)).length : Int) - (([61] : Bs).length : Int))))) == ([61] : Bs)))
def sttV1 (xt : TS) : Bs :=
 (if (sttV0 xt) = true then (bytesOf ([xt.lab.2.2.1] : List Int)).take (Int.toNat (w6 (((bytesOf ([xt.lab.2.2.1] : List Int)).length : Int) - (([61] : Bs).length : Int)))) else (bytesOf ([xt.lab.2.2.1] : List Int)))
def sttji5 (xt : TS) (K : Bs → Prop) : Prop :=
 (([91] : Bs) ++ xt.lab.2.1).length + (sttV1 xt).length ≤ maxLen ∧ ((([91] : Bs) ++ xt.lab.2.1) ++ (sttV1 xt)).length + ([61, 34] : Bs).length ≤ maxLen ∧ quoteP xt.lab.2.2.2.1 ∧ (((([91] : Bs) ++ xt.lab.2.1) ++ (sttV1 xt)) ++ ([61, 34] : Bs)).length + (quoteS xt.lab.2.2.2.1).length ≤ maxLen ∧ ((((([91] : Bs) ++ xt.lab.2.1) ++ (sttV1 xt)) ++ ([61, 34] : Bs)) ++ (quoteS xt.lab.2.2.2.1)).length + ([34, 93] : Bs).length ≤ maxLen ∧ K (((((([91] : Bs) ++ xt.lab.2.1) ++ (sttV1 xt)) ++ ([61, 34] : Bs)) ++ (quoteS xt.lab.2.2.2.1)) ++ ([34, 93] : Bs))
def sttj3i37i7i7 (xt : TS) (K : Bs → Prop) : Prop :=
 (((sttV0 xt)) = true → (0 : Int) ≤ 0 ∧ 0 ≤ (w6 (((bytesOf ([xt.lab.2.2.1] : List Int)).length : Int) - (([61] : Bs).length : Int))) ∧ (w6 (((bytesOf ([xt.lab.2.2.1] : List Int)).length : Int) - (([61] : Bs).length : Int))) ≤ ((bytesOf ([xt.lab.2.2.1] : List Int)).length : Int) ∧ sttji5 xt K) ∧ (((sttV0 xt)) = false → sttji5 xt K)
def sttF (N : Nat) (xt : TS) (K : Bs → Prop) : Prop :=
 (((xt.lab.1 == 1)) = true → K ([42] : Bs)) ∧ (((xt.lab.1 == 1)) = false → (((xt.lab.1 == 2)) = true → K xt.lab.2.1) ∧ (((xt.lab.1 == 2)) = false → (((xt.lab.1 == 3)) = true → ([35] : Bs).length + xt.lab.2.1.length ≤ maxLen ∧ K (([35] : Bs) ++ xt.lab.2.1)) ∧ (((xt.lab.1 == 3)) = false → (((xt.lab.1 == 4)) = true → ([46] : Bs).length + xt.lab.2.1.length ≤ maxLen ∧ K (([46] : Bs) ++ xt.lab.2.1)) ∧ (((xt.lab.1 == 4)) = false → (((xt.lab.1 == 5)) = true → (((xt.lab.2.2.1 == 0)) = true → ([91] : Bs).length + xt.lab.2.1.length ≤ maxLen ∧ (([91] : Bs) ++ xt.lab.2.1).length + ([93] : Bs).length ≤ maxLen ∧ K ((([91] : Bs) ++ xt.lab.2.1) ++ ([93] : Bs))) ∧ (((xt.lab.2.2.1 == 0)) = false → ([91] : Bs).length + xt.lab.2.1.length ≤ maxLen ∧ ((decide (((bytesOf ([xt.lab.2.2.1] : List Int)).length : Int) ≥ (([61] : Bs).length : Int))) = true → 0 ≤ (w6 (((bytesOf ([xt.lab.2.2.1] : List Int)).length : Int) - (([61] : Bs).length : Int))) ∧ ((w6 (((bytesOf ([xt.lab.2.2.1] : List Int)).length : Int) - (([61] : Bs).length : Int))) : Int) ≤ ((bytesOf ([xt.lab.2.2.1] : List Int)).length : Int) ∧ ((bytesOf ([xt.lab.2.2.1] : List Int)).length : Int) ≤ ((bytesOf ([xt.lab.2.2.1] : List Int)).length : Int) ∧ sttj3i37i7i7 xt K) ∧ ((decide (((bytesOf ([xt.lab.2.2.1] : List Int)).length : Int) ≥ (([61] : Bs).length : Int))) = false → sttj3i37i7i7 xt K))) ∧ (((xt.lab.1 == 5)) = false → (((xt.lab.1 == 6)) = true → K ([58, 114, 111, 111, 116] : Bs)) ∧ (((xt.lab.1 == 6)) = false → (((xt.lab.1 == 7)) = true → K ([58, 101, 109, 112, 116, 121] : Bs)) ∧ (((xt.lab.1 == 7)) = false → (((xt.lab.1 == 8)) = true → nthTP xt ∧ ([58, 110, 116, 104, 45, 99, 104, 105, 108, 100, 40] : Bs).length + (nthT xt).length ≤ maxLen ∧ (([58, 110, 116, 104, 45, 99, 104, 105, 108, 100, 40] : Bs) ++ (nthT xt)).length + ([41] : Bs).length ≤ maxLen ∧ K ((([58, 110, 116, 104, 45, 99, 104, 105, 108, 100, 40] : Bs) ++ (nthT xt)) ++ ([41] : Bs))) ∧ (((xt.lab.1 == 8)) = false → (((xt.lab.1 == 9)) = true → nthTP xt ∧ ([58, 110, 116, 104, 45, 108, 97, 115, 116, 45, 99, 104, 105, 108, 100, 40] : Bs).length + (nthT xt).length ≤ maxLen ∧ (([58, 110, 116, 104, 45, 108, 97, 115, 116, 45, 99, 104, 105, 108, 100, 40] : Bs) ++ (nthT xt)).length + ([41] : Bs).length ≤ maxLen ∧ K ((([58, 110, 116, 104, 45, 108, 97, 115, 116, 45, 99, 104, 105, 108, 100, 40] : Bs) ++ (nthT xt)) ++ ([41] : Bs))) ∧ (((xt.lab.1 == 9)) = false → (((xt.lab.1 == 10)) = true → stxP N xt.kids ∧ ([58, 110, 111, 116, 40] : Bs).length + (tx3 xt.kids).length ≤ maxLen ∧ (([58, 110, 111, 116, 40] : Bs) ++ (tx3 xt.kids)).length + ([41] : Bs).length ≤ maxLen ∧ K ((([58, 110, 111, 116, 40] : Bs) ++ (tx3 xt.kids)) ++ ([41] : Bs))) ∧ (((xt.lab.1 == 10)) = false → stxP N xt.kids ∧ ([58, 105, 115, 40] : Bs).length + (tx3 xt.kids).length ≤ maxLen ∧ (([58, 105, 115, 40] : Bs) ++ (tx3 xt.kids)).length + ([41] : Bs).length ≤ maxLen ∧ K ((([58, 105, 115, 40] : Bs) ++ (tx3 xt.kids)) ++ ([41] : Bs))))))))))))
theorem stt_ok {g : Ghost} (N : Nat) (ih_stt : stt_C N) (ih_stx : stx_C N) {axt_0 : Option Addr} {cxt_0 : Nat} (xt : TS) (hRxt_0 : Rep g (.slice yP) [.slice axt_0 xt.kids.length cxt_0] xt.kids) (hG3 : GlobL g 3 (.int .u64) DPow) (K : Bs → Prop)
  (hF : sttF N xt K) : CallsH Tryz.prog 39 #[.agg (aL xt.lab axt_0 xt.kids.length cxt_0)] g [] (fun g' H' v => ∃ (r0 : Bs), v = sv r0 ∧ H' = [] ∧ K r0) := by
 refine CallsH.enter 73 [(0, .agg (aL xt.lab axt_0 xt.kids.length cxt_0))] Tryz.func39 rfl kr kr kr fun w0 => ?_
 refine Ok.sr ((Ok.op rfl (OpOk.box (v := .agg (aL xt.lab axt_0 xt.kids.length cxt_0)) (cs := (aL xt.lab axt_0 xt.kids.length cxt_0)) rfl kr rfl fun bs1 => ?_)))
 refine Ok.B 1 [(1, pv bs1 0)] kr (Ok.nt ((Ok.q (Ok.sr ((Ok.b 1 [1] [(3, pv bs1 0)] ?_))))))
 refine Ok.op rfl (OpOk.s (v := iv xt.lab.1) (Yields.l 0 rfl rfl Tryz.underlying3 rfl kr) rfl rfl (Ok.nt ((Ok.block (Ok.sr ((Ok.b 2 [1] [(4, iv xt.lab.1), (5, .bool (xt.lab.1 == 1))] ?_)))))))
 refine Ok.nt ((Ok.cn hF rfl (fun hc2 => ?_) (fun hc2 => ?_)))
 ·replace hF := hF.1 hc2
  refine Ok.sr ((Ok.B 1 [(2, sv ([42] : Bs))] kr (Ok.nt ((Ok.ret (Ok.kr (Ok.tr ?_)))))))
  exact Ok.p (vs := [sv ([42] : Bs)]) [] [] dc rfl (.inl rfl) rfl (.cons (.tmp rfl) .nil) (Gext.r w0 g) ⟨([42] : Bs), rfl, rfl, hF⟩
 replace hF := hF.2 hc2
 refine Ok.sr ((Ok.b 2 [1, 4] [(7, .bool (xt.lab.1 == 2))] ?_))
 refine Ok.nt ((Ok.cn hF rfl (fun hc3 => ?_) (fun hc3 => ?_)))
 ·replace hF := hF.1 hc3
  refine Ok.sr ((Ok.B 1 [(9, pv bs1 1)] kr (Ok.op rfl (OpOk.s (v := sv xt.lab.2.1) (Yields.l 0 rfl rfl Tryz.underlying9 rfl kr) rfl rfl (Ok.B 1 [(2, sv xt.lab.2.1)] kr (Ok.nt ((Ok.ret (Ok.kr (Ok.tr ?_))))))))))
  exact Ok.p (vs := [sv xt.lab.2.1]) [] [] dc rfl (.inl rfl) rfl (.cons (.tmp rfl) .nil) (Gext.r w0 g) ⟨xt.lab.2.1, rfl, rfl, hF⟩
 replace hF := hF.2 hc3
 refine Ok.sr ((Ok.b 2 [1, 4] [(11, .bool (xt.lab.1 == 3))] ?_))
 refine Ok.nt ((Ok.cn hF rfl (fun hc4 => ?_) (fun hc4 => ?_)))
 ·replace hF := hF.1 hc4
  refine Ok.sr ((Ok.B 1 [(13, pv bs1 1)] kr (Ok.op rfl (OpOk.s (v := sv xt.lab.2.1) (Yields.l 0 rfl rfl Tryz.underlying9 rfl kr) rfl rfl ?_))))
  obtain ⟨hv, hF⟩ := hF
  refine Ok.op rfl (OpOk.s (v := sv (([35] : Bs) ++ xt.lab.2.1)) (Yields.sa rfl rfl hv) rfl rfl (Ok.B 1 [(2, sv (([35] : Bs) ++ xt.lab.2.1))] kr (Ok.nt ((Ok.ret (Ok.kr (Ok.tr ?_)))))))
  exact Ok.p (vs := [sv (([35] : Bs) ++ xt.lab.2.1)]) [] [] dc rfl (.inl rfl) rfl (.cons (.tmp rfl) .nil) (Gext.r w0 g) ⟨(([35] : Bs) ++ xt.lab.2.1), rfl, rfl, hF⟩
 replace hF := hF.2 hc4
 refine Ok.sr ((Ok.b 2 [1, 4] [(16, .bool (xt.lab.1 == 4))] ?_))
 refine Ok.nt ((Ok.cn hF rfl (fun hc5 => ?_) (fun hc5 => ?_)))
 ·replace hF := hF.1 hc5
  refine Ok.sr ((Ok.B 1 [(18, pv bs1 1)] kr (Ok.op rfl (OpOk.s (v := sv xt.lab.2.1) (Yields.l 0 rfl rfl Tryz.underlying9 rfl kr) rfl rfl ?_))))
  obtain ⟨hv, hF⟩ := hF
  refine Ok.op rfl (OpOk.s (v := sv (([46] : Bs) ++ xt.lab.2.1)) (Yields.sa rfl rfl hv) rfl rfl (Ok.B 1 [(2, sv (([46] : Bs) ++ xt.lab.2.1))] kr (Ok.nt ((Ok.ret (Ok.kr (Ok.tr ?_)))))))
  exact Ok.p (vs := [sv (([46] : Bs) ++ xt.lab.2.1)]) [] [] dc rfl (.inl rfl) rfl (.cons (.tmp rfl) .nil) (Gext.r w0 g) ⟨(([46] : Bs) ++ xt.lab.2.1), rfl, rfl, hF⟩
 replace hF := hF.2 hc5
 refine Ok.sr ((Ok.b 2 [1, 4] [(21, .bool (xt.lab.1 == 5))] ?_))
 refine Ok.nt ((Ok.cn hF rfl (fun hc6 => ?_) (fun hc6 => ?_)))
 ·replace hF := hF.1 hc6
  refine Ok.q (Ok.sr ((Ok.b 1 [1] [(23, pv bs1 2)] ?_)))
  refine Ok.op rfl (OpOk.s (v := .int .u8 xt.lab.2.2.1) (Yields.l 0 rfl rfl Tryz.underlying5 rfl kr) rfl rfl (Ok.b 1 [1] [(25, .bool (xt.lab.2.2.1 == 0))] ?_))
  refine Ok.nt ((Ok.cn hF rfl (fun hc7 => ?_) (fun hc7 => ?_)))
  ·replace hF := hF.1 hc7
   refine Ok.sr ((Ok.B 1 [(26, pv bs1 1)] kr (Ok.op rfl (OpOk.s (v := sv xt.lab.2.1) (Yields.l 0 rfl rfl Tryz.underlying9 rfl kr) rfl rfl ?_))))
   obtain ⟨hv, hF⟩ := hF
   refine Ok.op rfl (OpOk.s (v := sv (([91] : Bs) ++ xt.lab.2.1)) (Yields.sa rfl rfl hv) rfl rfl ?_)
   obtain ⟨hv, hF⟩ := hF
   refine Ok.op rfl (OpOk.s (v := sv ((([91] : Bs) ++ xt.lab.2.1) ++ ([93] : Bs))) (Yields.sa rfl rfl hv) rfl rfl (Ok.B 1 [(2, sv ((([91] : Bs) ++ xt.lab.2.1) ++ ([93] : Bs)))] kr (Ok.nt ((Ok.ret (Ok.tr (Ok.kr (Ok.tr ?_))))))))
   exact Ok.p (vs := [sv ((([91] : Bs) ++ xt.lab.2.1) ++ ([93] : Bs))]) [] [] dc rfl (.inl rfl) rfl (.cons (.tmp rfl) .nil) (Gext.r w0 g) ⟨((([91] : Bs) ++ xt.lab.2.1) ++ ([93] : Bs)), rfl, rfl, hF⟩
  replace hF := hF.2 hc7
  refine Ok.k (Ok.t (Ok.q (Ok.mix [] [] [.blk bs1 (.cells (aL xt.lab axt_0 xt.kids.length cxt_0) 48)] [(0, true), (1, true), (2, true), (3, true), (4, true), (10, true), (11, true), (5, false), (6, false), (7, false), (8, true), (9, true), (12, true), (13, true), (14, true), (15, true)] kr kr (.cons_cons _ .slnil) (OkM.b 1 [1] [(30, pv bs1 1)] ?_))))
  refine OkM.h rfl rfl (show _ = [.blk bs1 (.cells (aL xt.lab axt_0 xt.kids.length cxt_0) 48)] from rfl) (OpQ.s (v := sv xt.lab.2.1) (Yields.l 0 rfl rfl Tryz.underlying9 rfl kr) rfl rfl ?_)
  obtain ⟨hv, hF⟩ := hF
  refine OkM.h rfl rfl (show _ = [.blk bs1 (.cells (aL xt.lab axt_0 xt.kids.length cxt_0) 48)] from rfl) (OpQ.s (v := sv (([91] : Bs) ++ xt.lab.2.1)) (Yields.sa rfl rfl hv) rfl rfl (OkM.b 1 [1] [(32, sv (([91] : Bs) ++ xt.lab.2.1)), (33, pv bs1 2)] ?_))
  refine OkM.h rfl rfl (show _ = [.blk bs1 (.cells (aL xt.lab axt_0 xt.kids.length cxt_0) 48)] from rfl) (OpQ.s (v := .int .u8 xt.lab.2.2.1) (Yields.l 0 rfl rfl Tryz.underlying5 rfl kr) rfl rfl (OkM.b 1 [32] [(34, .int .u8 xt.lab.2.2.1), (40, pv bs1 3)] ?_))
  refine OkM.h rfl rfl (show _ = [.blk bs1 (.cells (aL xt.lab axt_0 xt.kids.length cxt_0) 48)] from rfl) (OpQ.s (v := sv xt.lab.2.2.2.1) (Yields.l 0 rfl rfl Tryz.underlying9 rfl kr) rfl rfl ?_)
  have hL8 : RepL g yb ([.int .u8 xt.lab.2.2.1] : List Value) ([xt.lab.2.2.1] : List Int) := (RepL.consN (c := [.int .u8 xt.lab.2.2.1]) rfl rfl)
  refine OkM.t rfl rfl (OpOk.lit (E := 5) yb ([xt.lab.2.2.1] : List Int) ([.int .u8 xt.lab.2.2.1] : List Value) kr kr rfl kr hL8 rfl fun b8 => ?_)
  refine OkM.l (i := 5) (show _ = [.blk bs1 (.cells (aL xt.lab axt_0 xt.kids.length cxt_0) 48)] from rfl) (Gle.refl _) (.cons _ (.cons_cons _ .slnil)) (OkM.t rfl rfl (OpOk.s (v := sv (bytesOf ([xt.lab.2.2.1] : List Int))) (Yields.strOfOwn 0 kr rfl rfl hL8 Tryz.underlying23 Tryz.underlying9 Tryz.underlying5) rfl rfl (OkM.l (i := 6) (show _ = [.blk bs1 (.cells (aL xt.lab axt_0 xt.kids.length cxt_0) 48)] from rfl) (Gle.refl _) (.cons _ (.cons_cons _ .slnil)) (OkM.t rfl rfl (OpOk.i (args := #[sv (bytesOf ([xt.lab.2.2.1] : List Int)), sv ([61] : Bs)]) 8 [(0, sv (bytesOf ([xt.lab.2.2.1] : List Int))), (1, sv ([61] : Bs))] enr Tryz.func54 rfl rfl rfl rfl (Ok.sr ((Ok.B 1 [(0, sv (bytesOf ([xt.lab.2.2.1] : List Int))), (1, sv ([61] : Bs))] kr (Ok.nt ((Ok.sr ((Ok.B 2 [(5, sv (bytesOf ([xt.lab.2.2.1] : List Int))), (6, sv ([61] : Bs))] kr (Ok.op rfl (OpOk.cut (fun a W => ∃ Z1 : Ghost, Gext w0 g Z1 ∧ StA 8 [(7, sv (sttV1 xt))] a ∧ StW w0 [.blk bs1 (.cells (aL xt.lab axt_0 xt.kids.length cxt_0) 48)] Z1 W ∧ sttji5 xt K) ?_ ?_)))))))))))))))
  ·
   refine OpOk.i (args := #[sv (bytesOf ([xt.lab.2.2.1] : List Int)), sv ([61] : Bs)]) 16 [(0, sv (bytesOf ([xt.lab.2.2.1] : List Int))), (1, sv ([61] : Bs))] enr Tryz.func83 rfl rfl rfl rfl (Ok.sr ((Ok.B 1 [(0, sv (bytesOf ([xt.lab.2.2.1] : List Int))), (1, sv ([61] : Bs))] kr (Ok.nt ((Ok.q (Ok.sr ((Ok.b 2 [0, 1] [(5, sv (bytesOf ([xt.lab.2.2.1] : List Int))), (6, sv ([61] : Bs))] ?_)))))))))
   refine Ok.op rfl (OpOk.i (args := #[sv (bytesOf ([xt.lab.2.2.1] : List Int)), sv ([61] : Bs)]) 21 [(0, sv (bytesOf ([xt.lab.2.2.1] : List Int))), (1, sv ([61] : Bs))] enr Tryz.func104 rfl rfl rfl rfl (Ok.sr ((Ok.b 1 [0, 1] [] ?_))))
   refine Ok.nt ((Ok.cut (fun a W => ∃ V0 : Ghost, Gext w0 g V0 ∧ StA 21 [(4, .bool (sttV0 xt))] a ∧ StW w0 [.blk bs1 (.cells (aL xt.lab axt_0 xt.kids.length cxt_0) 48)] V0 W ∧ sttj3i37i7i7 xt K) ?_ ?_))
   ·
    refine Ok.r (Ok.b 6 [0, 1] [(10, .bool (decide (((bytesOf ([xt.lab.2.2.1] : List Int)).length : Int) ≥ (([61] : Bs).length : Int))))] ?_)
    refine Ok.a 10 (decide (((bytesOf ([xt.lab.2.2.1] : List Int)).length : Int) ≥ (([61] : Bs).length : Int))) rfl (fun P0 => ?_) (fun P0 => ?_)
    ·replace hF := hF.1 P0
     refine Ok.b 6 [1] [(10, .bool true), (11, sv (bytesOf ([xt.lab.2.2.1] : List Int))), (16, iv (w6 (((bytesOf ([xt.lab.2.2.1] : List Int)).length : Int) - (([61] : Bs).length : Int))))] ?_
     obtain ⟨h013, h113, h213, hF⟩ := hF
     refine Ok.y (j := 5) (d := 10) (want := true) (b := true) rfl kr kr rfl (OpOk.s (v := sv ((bytesOf ([xt.lab.2.2.1] : List Int)).drop (Int.toNat (w6 (((bytesOf ([xt.lab.2.2.1] : List Int)).length : Int) - (([61] : Bs).length : Int)))))) (Yields.ss (s := (bytesOf ([xt.lab.2.2.1] : List Int))) (l := (w6 (((bytesOf ([xt.lab.2.2.1] : List Int)).length : Int) - (([61] : Bs).length : Int)))) (h := ((bytesOf ([xt.lab.2.2.1] : List Int)).length : Int)) kr Tryz.underlying9 (.inl ⟨_, _, rfl, rfl⟩) (.inr ⟨rfl, rfl⟩) h013 h113 h213 ((bytesOf ([xt.lab.2.2.1] : List Int)).drop (Int.toNat (w6 (((bytesOf ([xt.lab.2.2.1] : List Int)).length : Int) - (([61] : Bs).length : Int))))) (by rw [show (((bytesOf ([xt.lab.2.2.1] : List Int)).length : Int)).toNat = (bytesOf ([xt.lab.2.2.1] : List Int)).length from Int.toNat_natCast _, List.take_length])) rfl rfl (Ok.b 1 [10] [(17, sv ((bytesOf ([xt.lab.2.2.1] : List Int)).drop (Int.toNat (w6 (((bytesOf ([xt.lab.2.2.1] : List Int)).length : Int) - (([61] : Bs).length : Int)))))), (18, sv ([61] : Bs))] ?_))
     refine Ok.y (j := 5) (d := 10) (want := true) (b := true) rfl kr kr rfl (OpOk.s (v := .bool (((bytesOf ([xt.lab.2.2.1] : List Int)).drop (Int.toNat (w6 (((bytesOf ([xt.lab.2.2.1] : List Int)).length : Int) - (([61] : Bs).length : Int))))) == ([61] : Bs))) (Yields.sc (f := .eql) (a := ((bytesOf ([xt.lab.2.2.1] : List Int)).drop (Int.toNat (w6 (((bytesOf ([xt.lab.2.2.1] : List Int)).length : Int) - (([61] : Bs).length : Int)))))) (b := ([61] : Bs)) kr kr rfl) rfl rfl (Ok.B 2 [(4, .bool (((bytesOf ([xt.lab.2.2.1] : List Int)).drop (Int.toNat (w6 (((bytesOf ([xt.lab.2.2.1] : List Int)).length : Int) - (([61] : Bs).length : Int))))) == ([61] : Bs)))] kr (Ok.nt ((Ok.v 4 rfl (show (.bool (((bytesOf ([xt.lab.2.2.1] : List Int)).drop (Int.toNat (w6 (((bytesOf ([xt.lab.2.2.1] : List Int)).length : Int) - (([61] : Bs).length : Int))))) == ([61] : Bs)) : Value) = .bool (sttV0 xt) from congrArg (Value.bool) (mand_t P0)) ?_)))))
     exact fun a W hA hW => ⟨g, (Gext.r w0 g), hA.sub kr, hW.sub (.cons _ (.cons_cons _ .slnil)), hF⟩
    replace hF := hF.2 P0
    refine Ok.B 11 [(4, .bool false)] kr (Ok.nt ((Ok.v 4 rfl (show (.bool false : Value) = .bool (sttV0 xt) from congrArg (Value.bool) (mand_f P0)) ?_)))
    exact fun a W hA hW => ⟨g, (Gext.r w0 g), hA.sub kr, hW.sub (.cons _ (.cons_cons _ .slnil)), hF⟩
   clear hF
   rintro a W ⟨V0, Q0, hA, hW, hF⟩
   refine (?_ : Ok _ _ _ _ _ _) a W hA hW
   clear hA hW
   replace hRxt_0 := hRxt_0.mono Q0.1
   replace hG3 := hG3.mono Q0.1
   refine Ok.ret (Ok.back (vs := [.bool (sttV0 xt)]) (.inl rfl) rfl (.cons (.tmp rfl) .nil) rfl (Ok.nt ((Ok.cn hF rfl (fun o1 => ?_) (fun o1 => ?_)))))
   ·replace hF := hF.1 o1
    refine Ok.sr ((Ok.B 6 [(8, sv (bytesOf ([xt.lab.2.2.1] : List Int))), (13, iv (w6 (((bytesOf ([xt.lab.2.2.1] : List Int)).length : Int) - (([61] : Bs).length : Int))))] kr ?_))
    obtain ⟨V1, Q1, h211, hF⟩ := hF
    refine Ok.op rfl (OpOk.s (v := sv ((bytesOf ([xt.lab.2.2.1] : List Int)).take (Int.toNat (w6 (((bytesOf ([xt.lab.2.2.1] : List Int)).length : Int) - (([61] : Bs).length : Int)))))) (Yields.ss (s := (bytesOf ([xt.lab.2.2.1] : List Int))) (l := 0) (h := (w6 (((bytesOf ([xt.lab.2.2.1] : List Int)).length : Int) - (([61] : Bs).length : Int)))) kr Tryz.underlying9 (.inr ⟨rfl, rfl⟩) (.inl ⟨_, _, rfl, rfl⟩) V1 Q1 h211 ((bytesOf ([xt.lab.2.2.1] : List Int)).take (Int.toNat (w6 (((bytesOf ([xt.lab.2.2.1] : List Int)).length : Int) - (([61] : Bs).length : Int))))) (by simp)) rfl rfl (Ok.B 1 [(4, sv ((bytesOf ([xt.lab.2.2.1] : List Int)).take (Int.toNat (w6 (((bytesOf ([xt.lab.2.2.1] : List Int)).length : Int) - (([61] : Bs).length : Int))))))] kr (Ok.nt ((Ok.ret (Ok.tr (Ok.back (vs := [sv ((bytesOf ([xt.lab.2.2.1] : List Int)).take (Int.toNat (w6 (((bytesOf ([xt.lab.2.2.1] : List Int)).length : Int) - (([61] : Bs).length : Int)))))]) (.inl rfl) rfl (.cons (.tmp rfl) .nil) rfl (Ok.v 7 rfl (show (sv ((bytesOf ([xt.lab.2.2.1] : List Int)).take (Int.toNat (w6 (((bytesOf ([xt.lab.2.2.1] : List Int)).length : Int) - (([61] : Bs).length : Int))))) : Value) = sv (sttV1 xt) from congrArg ((fun s : Bs => Value.string ⟨⟨s⟩⟩)) ((if_t o1).symm)) ?_))))))))
    exact fun a W hA hW => ⟨V0, Q0, hA.sub kr, hW, hF⟩
   replace hF := hF.2 o1
   refine Ok.k (Ok.t (Ok.sr ((Ok.B 2 [(4, sv (bytesOf ([xt.lab.2.2.1] : List Int)))] kr (Ok.nt ((Ok.ret (Ok.back (vs := [sv (bytesOf ([xt.lab.2.2.1] : List Int))]) (.inl rfl) rfl (.cons (.tmp rfl) .nil) rfl (Ok.v 7 rfl (show (sv (bytesOf ([xt.lab.2.2.1] : List Int)) : Value) = sv (sttV1 xt) from congrArg ((fun s : Bs => Value.string ⟨⟨s⟩⟩)) ((if_f o1).symm)) ?_)))))))))
   exact fun a W hA hW => ⟨V0, Q0, hA.sub kr, hW, hF⟩
  clear hF
  rintro a W ⟨Z1, m1, hA, hW, hF⟩
  refine (?_ : Ok _ _ _ _ _ _) a W hA hW
  clear hA hW
  replace hRxt_0 := hRxt_0.mono m1.1
  replace hG3 := hG3.mono m1.1
  refine Ok.B 1 [(4, sv (sttV1 xt))] kr (Ok.nt ((Ok.ret (Ok.back (vs := [sv (sttV1 xt)]) (.inl rfl) rfl (.cons (.tmp rfl) .nil) rfl (OkM.l (i := 7) (show _ = [.blk bs1 (.cells (aL xt.lab axt_0 xt.kids.length cxt_0) 48)] from rfl) m1.1 (.cons_cons _ .slnil) ?_)))))
  obtain ⟨hv, hF⟩ := hF
  refine OkM.h rfl rfl (show _ = [.blk bs1 (.cells (aL xt.lab axt_0 xt.kids.length cxt_0) 48)] from rfl) (OpQ.s (v := sv ((([91] : Bs) ++ xt.lab.2.1) ++ (sttV1 xt))) (Yields.sa rfl rfl hv) rfl rfl ?_)
  obtain ⟨hv, hF⟩ := hF
  refine OkM.h rfl rfl (show _ = [.blk bs1 (.cells (aL xt.lab axt_0 xt.kids.length cxt_0) 48)] from rfl) (OpQ.s (v := sv (((([91] : Bs) ++ xt.lab.2.1) ++ (sttV1 xt)) ++ ([61, 34] : Bs))) (Yields.sa rfl rfl hv) rfl rfl ?_)
  obtain ⟨hp9, hF⟩ := hF
  refine OkM.h rfl rfl (show _ = [.blk bs1 (.cells (aL xt.lab axt_0 xt.kids.length cxt_0) 48)] from rfl) (OpQ.f enr (fun W hW => quo_c xt.lab.2.2.2.1 hp9) rfl ?_)
  obtain ⟨hv, hF⟩ := hF
  refine OkM.h rfl rfl (show _ = [.blk bs1 (.cells (aL xt.lab axt_0 xt.kids.length cxt_0) 48)] from rfl) (OpQ.s (v := sv ((((([91] : Bs) ++ xt.lab.2.1) ++ (sttV1 xt)) ++ ([61, 34] : Bs)) ++ (quoteS xt.lab.2.2.2.1))) (Yields.sa rfl rfl hv) rfl rfl ?_)
  obtain ⟨hv, hF⟩ := hF
  refine OkM.h rfl rfl (show _ = [.blk bs1 (.cells (aL xt.lab axt_0 xt.kids.length cxt_0) 48)] from rfl) (OpQ.s (v := sv (((((([91] : Bs) ++ xt.lab.2.1) ++ (sttV1 xt)) ++ ([61, 34] : Bs)) ++ (quoteS xt.lab.2.2.2.1)) ++ ([34, 93] : Bs))) (Yields.sa rfl rfl hv) rfl rfl (OkM.B 1 [(2, sv (((((([91] : Bs) ++ xt.lab.2.1) ++ (sttV1 xt)) ++ ([61, 34] : Bs)) ++ (quoteS xt.lab.2.2.2.1)) ++ ([34, 93] : Bs)))] kr (OkM.nil (Ok.t (Ok.ret (Ok.kr (Ok.tr ?_)))))))
  exact Ok.p (vs := [sv (((((([91] : Bs) ++ xt.lab.2.1) ++ (sttV1 xt)) ++ ([61, 34] : Bs)) ++ (quoteS xt.lab.2.2.2.1)) ++ ([34, 93] : Bs))]) [] [] dc rfl (.inl rfl) rfl (.cons (.tmp rfl) .nil) m1 ⟨(((((([91] : Bs) ++ xt.lab.2.1) ++ (sttV1 xt)) ++ ([61, 34] : Bs)) ++ (quoteS xt.lab.2.2.2.1)) ++ ([34, 93] : Bs)), rfl, rfl, hF⟩
 replace hF := hF.2 hc6
 refine Ok.sr ((Ok.b 2 [1, 4] [(45, .bool (xt.lab.1 == 6))] ?_))
 refine Ok.nt ((Ok.cn hF rfl (fun K1 => ?_) (fun K1 => ?_)))
 ·replace hF := hF.1 K1
  refine Ok.sr ((Ok.B 1 [(2, sv ([58, 114, 111, 111, 116] : Bs))] kr (Ok.nt ((Ok.ret (Ok.kr (Ok.tr ?_)))))))
  exact Ok.p (vs := [sv ([58, 114, 111, 111, 116] : Bs)]) [] [] dc rfl (.inl rfl) rfl (.cons (.tmp rfl) .nil) (Gext.r w0 g) ⟨([58, 114, 111, 111, 116] : Bs), rfl, rfl, hF⟩
 replace hF := hF.2 K1
 refine Ok.sr ((Ok.b 2 [1, 4] [(47, .bool (xt.lab.1 == 7))] ?_))
 refine Ok.nt ((Ok.cn hF rfl (fun Y1 => ?_) (fun Y1 => ?_)))
 ·replace hF := hF.1 Y1
  refine Ok.sr ((Ok.B 1 [(2, sv ([58, 101, 109, 112, 116, 121] : Bs))] kr (Ok.nt ((Ok.ret (Ok.kr (Ok.tr ?_)))))))
  exact Ok.p (vs := [sv ([58, 101, 109, 112, 116, 121] : Bs)]) [] [] dc rfl (.inl rfl) rfl (.cons (.tmp rfl) .nil) (Gext.r w0 g) ⟨([58, 101, 109, 112, 116, 121] : Bs), rfl, rfl, hF⟩
 replace hF := hF.2 Y1
 refine Ok.sr ((Ok.b 2 [1, 4] [(49, .bool (xt.lab.1 == 8))] ?_))
 refine Ok.nt ((Ok.cn hF rfl (fun U1 => ?_) (fun U1 => ?_)))
 ·replace hF := hF.1 U1
  refine Ok.sr ((Ok.op rfl (OpOk.s (v := .agg (aL xt.lab axt_0 xt.kids.length cxt_0)) (Yields.loadAgg 0 7 (aL xt.lab axt_0 xt.kids.length cxt_0) rfl rfl Tryz.underlying48 rfl kr kr kr) rfl rfl ?_)))
  obtain ⟨J1, hF⟩ := hF
  refine Ok.op rfl (OpOk.f enr (fun W hW => nth_c xt (hRxt_0.mono hW.sees) (hG3.mono hW.sees) J1) rfl ?_)
  obtain ⟨hv, hF⟩ := hF
  refine Ok.op rfl (OpOk.s (v := sv (([58, 110, 116, 104, 45, 99, 104, 105, 108, 100, 40] : Bs) ++ (nthT xt))) (Yields.sa rfl rfl hv) rfl rfl ?_)
  obtain ⟨hv, hF⟩ := hF
  refine Ok.op rfl (OpOk.s (v := sv ((([58, 110, 116, 104, 45, 99, 104, 105, 108, 100, 40] : Bs) ++ (nthT xt)) ++ ([41] : Bs))) (Yields.sa rfl rfl hv) rfl rfl (Ok.B 1 [(2, sv ((([58, 110, 116, 104, 45, 99, 104, 105, 108, 100, 40] : Bs) ++ (nthT xt)) ++ ([41] : Bs)))] kr (Ok.nt ((Ok.ret (Ok.kr (Ok.tr ?_)))))))
  exact Ok.p (vs := [sv ((([58, 110, 116, 104, 45, 99, 104, 105, 108, 100, 40] : Bs) ++ (nthT xt)) ++ ([41] : Bs))]) [] [] dc rfl (.inl rfl) rfl (.cons (.tmp rfl) .nil) (Gext.r w0 g) ⟨((([58, 110, 116, 104, 45, 99, 104, 105, 108, 100, 40] : Bs) ++ (nthT xt)) ++ ([41] : Bs)), rfl, rfl, hF⟩
 replace hF := hF.2 U1
 refine Ok.sr ((Ok.b 2 [1, 4] [(55, .bool (xt.lab.1 == 9))] ?_))
 refine Ok.nt ((Ok.cn hF rfl (fun W1 => ?_) (fun W1 => ?_)))
 ·replace hF := hF.1 W1
  refine Ok.sr ((Ok.op rfl (OpOk.s (v := .agg (aL xt.lab axt_0 xt.kids.length cxt_0)) (Yields.loadAgg 0 7 (aL xt.lab axt_0 xt.kids.length cxt_0) rfl rfl Tryz.underlying48 rfl kr kr kr) rfl rfl ?_)))
  obtain ⟨hp19, hF⟩ := hF
  refine Ok.op rfl (OpOk.f enr (fun W hW => nth_c xt (hRxt_0.mono hW.sees) (hG3.mono hW.sees) hp19) rfl ?_)
  obtain ⟨hv, hF⟩ := hF
  refine Ok.op rfl (OpOk.s (v := sv (([58, 110, 116, 104, 45, 108, 97, 115, 116, 45, 99, 104, 105, 108, 100, 40] : Bs) ++ (nthT xt))) (Yields.sa rfl rfl hv) rfl rfl ?_)
  obtain ⟨hv, hF⟩ := hF
  refine Ok.op rfl (OpOk.s (v := sv ((([58, 110, 116, 104, 45, 108, 97, 115, 116, 45, 99, 104, 105, 108, 100, 40] : Bs) ++ (nthT xt)) ++ ([41] : Bs))) (Yields.sa rfl rfl hv) rfl rfl (Ok.B 1 [(2, sv ((([58, 110, 116, 104, 45, 108, 97, 115, 116, 45, 99, 104, 105, 108, 100, 40] : Bs) ++ (nthT xt)) ++ ([41] : Bs)))] kr (Ok.nt ((Ok.ret (Ok.kr (Ok.tr ?_)))))))
  exact Ok.p (vs := [sv ((([58, 110, 116, 104, 45, 108, 97, 115, 116, 45, 99, 104, 105, 108, 100, 40] : Bs) ++ (nthT xt)) ++ ([41] : Bs))]) [] [] dc rfl (.inl rfl) rfl (.cons (.tmp rfl) .nil) (Gext.r w0 g) ⟨((([58, 110, 116, 104, 45, 108, 97, 115, 116, 45, 99, 104, 105, 108, 100, 40] : Bs) ++ (nthT xt)) ++ ([41] : Bs)), rfl, rfl, hF⟩
 replace hF := hF.2 W1
 refine Ok.sr ((Ok.b 2 [1] [(61, .bool (xt.lab.1 == 10))] ?_))
 refine Ok.nt ((Ok.cn hF rfl (fun X1 => ?_) (fun X1 => ?_)))
 ·replace hF := hF.1 X1
  refine Ok.sr ((Ok.B 1 [(63, pv bs1 6)] kr (Ok.op rfl (OpOk.s (v := .slice axt_0 xt.kids.length cxt_0) (Yields.l 0 rfl rfl Tryz.underlying29 rfl kr) rfl rfl ?_))))
  obtain ⟨hp21, hF⟩ := hF
  refine Ok.op rfl (OpOk.f enr (fun W hW => ih_stx _ xt.kids (hRxt_0.mono hW.sees) (hG3.mono hW.sees) hp21) rfl ?_)
  obtain ⟨hv, hF⟩ := hF
  refine Ok.op rfl (OpOk.s (v := sv (([58, 110, 111, 116, 40] : Bs) ++ (tx3 xt.kids))) (Yields.sa rfl rfl hv) rfl rfl ?_)
  obtain ⟨hv, hF⟩ := hF
  refine Ok.op rfl (OpOk.s (v := sv ((([58, 110, 111, 116, 40] : Bs) ++ (tx3 xt.kids)) ++ ([41] : Bs))) (Yields.sa rfl rfl hv) rfl rfl (Ok.B 1 [(2, sv ((([58, 110, 111, 116, 40] : Bs) ++ (tx3 xt.kids)) ++ ([41] : Bs)))] kr (Ok.nt ((Ok.ret (Ok.kr (Ok.tr ?_)))))))
  exact Ok.p (vs := [sv ((([58, 110, 111, 116, 40] : Bs) ++ (tx3 xt.kids)) ++ ([41] : Bs))]) [] [] dc rfl (.inl rfl) rfl (.cons (.tmp rfl) .nil) (Gext.r w0 g) ⟨((([58, 110, 111, 116, 40] : Bs) ++ (tx3 xt.kids)) ++ ([41] : Bs)), rfl, rfl, hF⟩
 replace hF := hF.2 X1
 refine Ok.k (Ok.kn (Ok.t (Ok.sr ((Ok.B 1 [(68, pv bs1 6)] kr (Ok.op rfl (OpOk.s (v := .slice axt_0 xt.kids.length cxt_0) (Yields.l 0 rfl rfl Tryz.underlying29 rfl kr) rfl rfl ?_)))))))
 obtain ⟨hp22, hF⟩ := hF
 refine Ok.op rfl (OpOk.f enr (fun W hW => ih_stx _ xt.kids (hRxt_0.mono hW.sees) (hG3.mono hW.sees) hp22) rfl ?_)
 obtain ⟨hv, hF⟩ := hF
 refine Ok.op rfl (OpOk.s (v := sv (([58, 105, 115, 40] : Bs) ++ (tx3 xt.kids))) (Yields.sa rfl rfl hv) rfl rfl ?_)
 obtain ⟨hv, hF⟩ := hF
 refine Ok.op rfl (OpOk.s (v := sv ((([58, 105, 115, 40] : Bs) ++ (tx3 xt.kids)) ++ ([41] : Bs))) (Yields.sa rfl rfl hv) rfl rfl (Ok.B 1 [(2, sv ((([58, 105, 115, 40] : Bs) ++ (tx3 xt.kids)) ++ ([41] : Bs)))] kr (Ok.nt ((Ok.ret ?_)))))
 exact Ok.p (vs := [sv ((([58, 105, 115, 40] : Bs) ++ (tx3 xt.kids)) ++ ([41] : Bs))]) [] [] dc rfl (.inl rfl) rfl (.cons (.tmp rfl) .nil) (Gext.r w0 g) ⟨((([58, 105, 115, 40] : Bs) ++ (tx3 xt.kids)) ++ ([41] : Bs)), rfl, rfl, hF⟩
def stxV0 (e4 : PH) (q0 : Int) (z0 : List Int) : List Int :=
 (if (decide (q0 > 0)) = true then (if ((e4.2.getD (Int.toNat (w6 (q0 - 1))) default) != 32) = true then (wrS (Bld.wbS z0 32).2 ([(e4.2.getD (Int.toNat (w6 (q0 - 1))) default), 32] : List Int)).2.2 else (Bld.wbS z0 32).2) else z0)
def stxl54b (N : Nat) (e11 : List TS) (q0 : Int) (C26 : Int → (List Int) → Prop) (d0 : Int) (u0 : List Int) (C54 : Int → (List Int) → Prop) : Prop :=
 ((decide (d0 < (e11.length : Int))) = true → 0 ≤ d0 ∧ Int.toNat d0 < e11.length ∧ sttP N (e11.getD (Int.toNat d0) default) ∧ Bld.wsP u0 (txT (e11.getD (Int.toNat d0) default)) ∧ C54 (w6 (d0 + 1)) (Bld.wsS u0 (txT (e11.getD (Int.toNat d0) default))).2.2) ∧ ((decide (d0 < (e11.length : Int))) = false → C26 (w6 (q0 + 1)) u0)
def stxl54 (N : Nat) (e11 : List TS) (q0 : Int) (C26 : Int → (List Int) → Prop) : Nat → Int → (List Int) → Prop
 | 0, _, _ => False
 | k + 1, d0, u0 => stxl54b N e11 q0 C26 d0 u0 (stxl54 N e11 q0 C26 k)
def stxj37 (N : Nat) (e4 : PH) (e11 : List TS) (q0 : Int) (z0 : List Int) (C26 : Int → (List Int) → Prop) : Prop :=
 ∃ k, stxl54 N e11 q0 C26 k 0 (stxV0 e4 q0 z0)
def stxl26b (N : Nat) (e4 : PH) (b0 : Int) (v0 : List Bs) (C9 : Int → (List Bs) → Prop) (q0 : Int) (z0 : List Int) (C26 : Int → (List Int) → Prop) : Prop :=
 ((decide (q0 < (e4.1.length : Int))) = true → 0 ≤ q0 ∧ Int.toNat q0 < e4.1.length ∧ ((decide (q0 > 0)) = true → Bld.wbP z0 32 ∧ 0 ≤ (w6 (q0 - 1)) ∧ Int.toNat (w6 (q0 - 1)) < e4.2.length ∧ ((((e4.2.getD (Int.toNat (w6 (q0 - 1))) default) != 32)) = true → wrP (Bld.wbS z0 32).2 ([(e4.2.getD (Int.toNat (w6 (q0 - 1))) default), 32] : List Int) ∧ stxj37 N e4 (e4.1.getD (Int.toNat q0) default) q0 z0 C26) ∧ ((((e4.2.getD (Int.toNat (w6 (q0 - 1))) default) != 32)) = false → stxj37 N e4 (e4.1.getD (Int.toNat q0) default) q0 z0 C26)) ∧ ((decide (q0 > 0)) = false → stxj37 N e4 (e4.1.getD (Int.toNat q0) default) q0 z0 C26)) ∧ ((decide (q0 < (e4.1.length : Int))) = false → Bld.stP z0 ∧ (v0 ++ ([(bytesOf z0)] : List Bs)).length ≤ 8796093022208 ∧ C9 (w6 (b0 + 1)) (v0 ++ ([(bytesOf z0)] : List Bs)))
def stxl26 (N : Nat) (e4 : PH) (b0 : Int) (v0 : List Bs) (C9 : Int → (List Bs) → Prop) : Nat → Int → (List Int) → Prop
 | 0, _, _ => False
 | k + 1, q0, z0 => stxl26b N e4 b0 v0 C9 q0 z0 (stxl26 N e4 b0 v0 C9 k)
def stxl9b (N : Nat) (xl : List PH) (K : Bs → Prop) (b0 : Int) (v0 : List Bs) (C9 : Int → (List Bs) → Prop) : Prop :=
 ((decide (b0 < (xl.length : Int))) = true → 0 ≤ b0 ∧ Int.toNat b0 < xl.length ∧ ∃ k, stxl26 N (xl.getD (Int.toNat b0) default) b0 v0 C9 k 0 ([] : List Int)) ∧ ((decide (b0 < (xl.length : Int))) = false → joinP v0 ([44, 32] : Bs) ∧ K (joinS v0 ([44, 32] : Bs)))
def stxl9 (N : Nat) (xl : List PH) (K : Bs → Prop) : Nat → Int → (List Bs) → Prop
 | 0, _, _ => False
 | k + 1, b0, v0 => stxl9b N xl K b0 v0 (stxl9 N xl K k)
def stxF (N : Nat) (xl : List PH) (K : Bs → Prop) : Prop :=
 ∃ k, stxl9 N xl K k 0 ([] : List Bs)
theorem stx_ok {g : Ghost} (N : Nat) (ih_stt : stt_C N) (ih_stx : stx_C N) {axl_0 : Option Addr} {cxl_0 : Nat} (xl : List PH) (hRxl_0 : Rep g (.slice yP) [.slice axl_0 xl.length cxl_0] xl) (hG3 : GlobL g 3 (.int .u64) DPow) (K : Bs → Prop)
  (hF : stxF N xl K) : CallsH Tryz.prog 23 #[.slice axl_0 xl.length cxl_0] g [] (fun g' H' v => ∃ (r0 : Bs), v = sv r0 ∧ H' = [] ∧ K r0) := by
 refine CallsH.enter 58 [(0, .slice axl_0 xl.length cxl_0)] Tryz.func23 rfl kr kr kr fun w0 => ?_
 refine Ok.sr ((Ok.B 1 [(0, .slice axl_0 xl.length cxl_0)] kr (Ok.nt ((Ok.sr ((Ok.b 1 [0] [(3, .slice none 0 0)] ?_)))))))
 have hL1 : RepL g (.str) [] [] := rfl
 refine Ok.ownNil 9 1 (Ok.nt ((Ok.q (Ok.sr ((Ok.B 3 [(3, .slice none ([] : List Bs).length 0), (12, .slice axl_0 xl.length cxl_0), (13, iv (xl.length : Int)), (14, iv 0)] kr (Ok.nt ((Ok.block ?_)))))))))
 obtain ⟨k, hF⟩ := hF
 refine Ok.L (fun k a W => ∃ gl9 : Ghost, Gext w0 g gl9 ∧ ∃ (b0 : Int) (j0 : Option Addr) (x0 : Nat) (v0 : List Bs) (s0 : List Value), RepL gl9 (.str) s0 v0 ∧ StA 58 [(3, .slice j0 v0.length x0), (12, .slice axl_0 xl.length cxl_0), (13, iv (xl.length : Int)), (14, iv b0)] a ∧ StW w0 [.own (.slice j0 v0.length x0) 9 1 v0.length s0] gl9 W ∧ stxl9 N xl K k b0 v0) k ?_ ?_
 ·
  exact fun a W hA hW => ⟨g, (Gext.r w0 g), 0, none, 0, ([] : List Bs), [], hL1, hA.sub kr, hW, hF⟩
 clear hF
 rintro k9 a W ⟨gl9, i1, b0, j0, x0, v0, s0, y0, hA, hW, hF⟩
 cases k9 with
 | zero => exact (hF : False).elim
 | succ k9 =>
  refine (?_ : Ok _ _ _ _ _ _) a W hA hW
  clear hA hW
  replace hRxl_0 := hRxl_0.mono i1.1
  replace hG3 := hG3.mono i1.1
  refine Ok.sr ((Ok.b 1 [3, 12, 13, 14] [(15, .bool (decide (b0 < (xl.length : Int))))] ?_))
  refine Ok.nt ((Ok.q (Ok.cn hF rfl (fun hc2 => ?_) (fun hc2 => ?_))))
  ·replace hF := hF.1 hc2
   refine Ok.k (Ok.t (Ok.q (Ok.block (Ok.q (Ok.r ?_)))))
   obtain ⟨h04, h14, hF⟩ := hF
   have he4 := get_of (l := xl) (default : PH) h14
   generalize hg4 : (xl.getD (Int.toNat b0) default) = e4 at he4 hF ⊢
   refine Ok.op rfl (OpOk.indexRo (e := yP) (i := b0) (el := e4) rfl rfl Tryz.underlying29 kr hRxl_0 h04 he4 rfl fun q3 o3 cs3 _ S1 hr3 => ?_)
   obtain ⟨_, _, rfl, ⟨U0, J0, rfl, hm3_0, hr3_0⟩, ⟨X0, S0, rfl, hm3_1, hr3_1⟩⟩ := hr3
   have a0 : Rep gl9 (.slice (.slice yS)) [.slice U0 e4.1.length J0] e4.1 := ⟨U0, J0, rfl, hm3_0, hr3_0⟩
   have i0 : Rep gl9 (.slice yb) [.slice X0 e4.2.length S0] e4.2 := ⟨X0, S0, rfl, hm3_1, hr3_1⟩
   replace S1 : At gl9 q3 o3 [.slice U0 e4.1.length J0, .slice X0 e4.2.length S0] := S1
   refine Ok.op rfl (OpOk.s (v := .agg #[.slice U0 e4.1.length J0, .slice X0 e4.2.length S0]) (Yields.loadAggRo 0 2 #[.slice U0 e4.1.length J0, .slice X0 e4.2.length S0] S1 kr Tryz.underlying25 rfl kr kr kr) rfl rfl ?_)
   have hL5 : RepL gl9 yb [] [] := rfl
   refine Ok.ownNil 5 1 (Ok.op rfl (OpOk.a (z := .agg #[.slice none 0 0, .slice none ([] : List Int).length 0]) (cs := #[.slice none 0 0, .slice none ([] : List Int).length 0]) kr kr rfl fun bs5 => ?_))
   refine Ok.op rfl (OpOk.sto (k := 2) (v := .agg #[.slice U0 e4.1.length J0, .slice X0 e4.2.length S0]) 0 #[.slice U0 e4.1.length J0, .slice X0 e4.2.length S0] rfl rfl rfl ?_)
   refine Ok.nt ((Ok.q (Ok.r ?_)))
   have hL7 : RepL gl9 yb [] [] := rfl
   refine Ok.ownNil 5 1 (Ok.op rfl (OpOk.a (z := .agg #[.pointer none, .slice none 0 0]) (cs := #[.pointer none, .slice none 0 0]) kr kr rfl fun b8 => ?_))
   refine Ok.bhd (Ok.nt ((Ok.q (Ok.sr ((Ok.B 1 [(3, .slice j0 v0.length x0), (5, pv bs5 0), (6, pv b8 0), (12, .slice axl_0 xl.length cxl_0), (13, iv (xl.length : Int)), (14, iv b0), (18, pv bs5 0)] kr (Ok.op rfl (OpOk.s (v := .slice U0 e4.1.length J0) (Yields.l 2 rfl rfl Tryz.underlying22 rfl kr) rfl rfl (Ok.b 2 [3, 5, 6, 12, 13, 14] [(19, .slice U0 e4.1.length J0), (20, iv (e4.1.length : Int)), (21, iv 0)] ?_)))))))))
   refine Ok.nt ((Ok.block ?_))
   obtain ⟨k, hF⟩ := hF
   refine Ok.L (fun k a W => ∃ O0 : Ghost, Gext w0 gl9 O0 ∧ ∃ (q0 : Int) (f0 : Option Addr) (g0 : Nat) (z0 : List Int) (m0 : List Value), RepL O0 yb m0 z0 ∧ StA 58 [(3, .slice j0 v0.length x0), (5, pv bs5 0), (6, pv b8 0), (12, .slice axl_0 xl.length cxl_0), (13, iv (xl.length : Int)), (14, iv b0), (19, .slice U0 e4.1.length J0), (20, iv (e4.1.length : Int)), (21, iv q0)] a ∧ StW w0 [.bhd b8 68 (.slice f0 z0.length g0), .own (.slice f0 z0.length g0) 5 1 z0.length m0, .blk bs5 (.cells #[.slice U0 e4.1.length J0, .slice X0 e4.2.length S0] 25), .own (.slice j0 v0.length x0) 9 1 v0.length s0] O0 W ∧ stxl26 N e4 b0 v0 (stxl9 N xl K k9) k q0 z0) k ?_ ?_
   ·
    exact fun a W hA hW => ⟨gl9, (Gext.r w0 gl9), 0, none, 0, ([] : List Int), [], hL7, hA.sub kr, hW.sub (.cons_cons _ (.cons_cons _ (.cons_cons _ (.cons _ (.cons_cons _ .slnil))))), hF⟩
   clear hF
   rintro k26 a W ⟨O0, M0, q0, f0, g0, z0, m0, W0, hA, hW, hF⟩
   cases k26 with
   | zero => exact (hF : False).elim
   | succ k26 =>
    refine (?_ : Ok _ _ _ _ _ _) a W hA hW
    clear hA hW
    replace y0 := y0.mono M0.1
    replace hRxl_0 := hRxl_0.mono M0.1
    replace a0 := a0.mono M0.1
    replace i0 := i0.mono M0.1
    replace hG3 := hG3.mono M0.1
    refine Ok.sr ((Ok.b 1 [3, 5, 6, 12, 13, 14, 19, 20, 21] [(22, .bool (decide (q0 < (e4.1.length : Int))))] ?_))
    refine Ok.nt ((Ok.q (Ok.cn hF rfl (fun hc9 => ?_) (fun hc9 => ?_))))
    ·replace hF := hF.1 hc9
     refine Ok.k (Ok.t (Ok.q (Ok.block (Ok.sr ((Ok.b 1 [3, 5, 6, 12, 13, 14, 19, 20, 21] [(23, iv q0)] ?_))))))
     obtain ⟨V1, Q1, hF⟩ := hF
     have B1 := get_of (l := e4.1) (default : List TS) Q1
     generalize hg11 : (e4.1.getD (Int.toNat q0) default) = e11 at B1 hF ⊢
     refine Ok.op rfl (OpOk.indexRo (e := .slice yS) (i := q0) (el := e11) rfl rfl Tryz.underlying22 kr a0 V1 B1 rfl fun q10 o10 cs10 _ p1 hr10 => ?_)
     obtain ⟨D0, E0, rfl, hm10_0, hr10_0⟩ := hr10
     have t0 : Rep O0 (.slice yS) [.slice D0 e11.length E0] e11 := ⟨D0, E0, rfl, hm10_0, hr10_0⟩
     replace p1 : At O0 q10 o10 [.slice D0 e11.length E0] := p1
     refine Ok.op rfl (OpOk.s (v := .slice D0 e11.length E0) (Yields.lr 0 p1 kr Tryz.underlying41 rfl kr) rfl rfl (Ok.b 2 [3, 5, 6, 12, 13, 14, 19, 20, 21] [(7, iv q0), (8, .slice D0 e11.length E0)] ?_))
     refine Ok.nt ((Ok.cut (fun a W => ∃ b1 : Ghost, Gext w0 O0 b1 ∧ ∃ (K0 : Option Addr) (Y0 : Nat) (Z0 : List Value), RepL b1 yb Z0 (stxV0 e4 q0 z0) ∧ StA 58 [(3, .slice j0 v0.length x0), (5, pv bs5 0), (6, pv b8 0), (8, .slice D0 e11.length E0), (12, .slice axl_0 xl.length cxl_0), (13, iv (xl.length : Int)), (14, iv b0), (19, .slice U0 e4.1.length J0), (20, iv (e4.1.length : Int)), (21, iv q0)] a ∧ StW w0 [.bhd b8 68 (.slice K0 (stxV0 e4 q0 z0).length Y0), .own (.slice K0 (stxV0 e4 q0 z0).length Y0) 5 1 (stxV0 e4 q0 z0).length Z0, .blk bs5 (.cells #[.slice U0 e4.1.length J0, .slice X0 e4.2.length S0] 25), .own (.slice j0 v0.length x0) 9 1 v0.length s0] b1 W ∧ stxj37 N e4 e11 q0 z0 (stxl26 N e4 b0 v0 (stxl9 N xl K k9) k26)) ?_ ?_))
     ·
      refine Ok.sr ((Ok.b 2 [3, 5, 6, 7, 8, 12, 13, 14, 19, 20, 21] [(27, .bool (decide (q0 > 0)))] ?_))
      refine Ok.nt ((Ok.cn hF rfl (fun H0 => ?_) (fun H0 => ?_)))
      ·replace hF := hF.1 H0
       refine Ok.q (Ok.r ?_)
       obtain ⟨hp20, hF⟩ := hF
       refine Ok.op rfl (OpOk.callH [_, _] _ enr rfl (Bld.wb_c z0 32 W0 hp20) rfl fun g21 _ _ I0 hV21 => ?_)
       obtain ⟨z1, v1, R0, rfl, T0, rfl⟩ := hV21
       replace y0 := y0.mono I0.1
       replace hRxl_0 := hRxl_0.mono I0.1
       replace a0 := a0.mono I0.1
       replace t0 := t0.mono I0.1
       replace i0 := i0.mono I0.1
       replace hG3 := hG3.mono I0.1
       refine Ok.nt ((Ok.sr ((Ok.b 1 [3, 5, 6, 7, 8, 12, 13, 14, 19, 20, 21] [(29, pv bs5 1)] ?_))))
       refine Ok.op rfl (OpOk.s (v := .slice X0 e4.2.length S0) (Yields.l 2 rfl rfl Tryz.underlying23 rfl kr) rfl rfl (Ok.b 2 [3, 5, 6, 8, 12, 13, 14, 19, 20, 21] [(30, .slice X0 e4.2.length S0), (32, iv (w6 (q0 - 1)))] ?_))
       obtain ⟨h023, h123, hF⟩ := hF
       have C1 := get_of (l := e4.2) (default : Int) h123
       generalize D1 : (e4.2.getD (Int.toNat (w6 (q0 - 1))) default) = e23 at C1 hF ⊢
       refine Ok.op rfl (OpOk.indexRo (e := .int .u8) (i := w6 (q0 - 1)) (el := e23) rfl rfl Tryz.underlying23 kr i0 h023 C1 rfl fun q22 o22 cs22 _ r1 hr22 => ?_)
       obtain rfl := hr22
       replace r1 : At g21 q22 o22 [.int .u8 e23] := r1
       refine Ok.op rfl (OpOk.s (v := .int .u8 e23) (Yields.lr 0 r1 kr Tryz.underlying5 rfl kr) rfl rfl (Ok.b 1 [3, 5, 6, 8, 12, 13, 14, 19, 20, 21] [(9, .int .u8 e23)] ?_))
       refine Ok.nt ((Ok.sr ((Ok.b 2 [3, 5, 6, 8, 9, 12, 13, 14, 19, 20, 21] [(36, .bool (e23 != 32))] ?_))))
       refine Ok.nt ((Ok.cn hF rfl (fun L0 => ?_) (fun L0 => ?_)))
       ·replace hF := hF.1 L0
        refine Ok.r (Ok.b 1 [3, 5, 6, 8, 12, 13, 14, 19, 20, 21] [(37, .int .u8 e23)] ?_)
        have E1 : RepL g21 yb ([.int .u8 e23, .int .u8 32] : List Value) ([e23, 32] : List Int) := (RepL.consN (c := [.int .u8 e23]) rfl (RepL.consN (c := [.int .u8 32]) rfl rfl))
        refine Ok.op rfl (OpOk.lit (E := 5) yb ([e23, 32] : List Int) ([.int .u8 e23, .int .u8 32] : List Value) kr kr rfl kr E1 rfl fun b25 => ?_)
        refine Ok.frz 0 rfl E1 fun g26 y1 t1 => ?_
        replace y0 := y0.mono y1.1
        replace hRxl_0 := hRxl_0.mono y1.1
        replace a0 := a0.mono y1.1
        replace t0 := t0.mono y1.1
        replace T0 := T0.mono y1.1
        replace i0 := i0.mono y1.1
        replace hG3 := hG3.mono y1.1
        obtain ⟨hp27, hF⟩ := hF
        refine Ok.op rfl (OpOk.callH [_, _] _ enr rfl (wr_c (Bld.wbS z0 32).2 ([e23, 32] : List Int) T0 t1 hp27) rfl fun g28 _ _ u1 hV28 => ?_)
        obtain ⟨j1, x1, A0, rfl, hL28_0, rfl⟩ := hV28
        replace y0 := y0.mono u1.1
        replace hRxl_0 := hRxl_0.mono u1.1
        replace a0 := a0.mono u1.1
        replace t0 := t0.mono u1.1
        replace t1 := t1.mono u1.1
        replace i0 := i0.mono u1.1
        replace hG3 := hG3.mono u1.1
        refine Ok.j (Ok.t ?_)
        subst D1
        refine Ok.heapEq (H' := [.bhd b8 68 (.slice j1 (stxV0 e4 q0 z0).length x1), .own (.slice j1 (stxV0 e4 q0 z0).length x1) 5 1 (stxV0 e4 q0 z0).length A0, .blk bs5 (.cells #[.slice U0 e4.1.length J0, .slice X0 e4.2.length S0] 25), .own (.slice j0 v0.length x0) 9 1 v0.length s0]) (econs (congrArg (fun l : Value => Ent.bhd b8 68 l) (congrArg (fun l : List Int => Value.slice j1 l.length x1) ((Eq.trans ((if_t L0).symm) ((if_t H0).symm))))) (econs (congrArg (fun l : List Int => Ent.own (.slice j1 l.length x1) 5 1 l.length A0) ((Eq.trans ((if_t L0).symm) ((if_t H0).symm)))) (econs (rfl) (econs (rfl) rfl)))) ?_
        exact fun a W hA hW => ⟨g28, ((I0.trans y1).trans u1), j1, x1, A0, (Eq.mp (congrArg (fun l : List Int => RepL g28 yb A0 l) ((Eq.trans ((if_t L0).symm) ((if_t H0).symm)))) hL28_0), hA.sub kr, hW, hF⟩
       replace hF := hF.2 L0
       refine Ok.k (Ok.t ?_)
       subst D1
       refine Ok.heapEq (H' := [.bhd b8 68 (.slice z1 (stxV0 e4 q0 z0).length v1), .own (.slice z1 (stxV0 e4 q0 z0).length v1) 5 1 (stxV0 e4 q0 z0).length R0, .blk bs5 (.cells #[.slice U0 e4.1.length J0, .slice X0 e4.2.length S0] 25), .own (.slice j0 v0.length x0) 9 1 v0.length s0]) (econs (congrArg (fun l : Value => Ent.bhd b8 68 l) (congrArg (fun l : List Int => Value.slice z1 l.length v1) ((Eq.trans ((if_f L0).symm) ((if_t H0).symm))))) (econs (congrArg (fun l : List Int => Ent.own (.slice z1 l.length v1) 5 1 l.length R0) ((Eq.trans ((if_f L0).symm) ((if_t H0).symm)))) (econs (rfl) (econs (rfl) rfl)))) ?_
       exact fun a W hA hW => ⟨g21, I0, z1, v1, R0, (Eq.mp (congrArg (fun l : List Int => RepL g21 yb R0 l) ((Eq.trans ((if_f L0).symm) ((if_t H0).symm)))) T0), hA.sub kr, hW, hF⟩
      replace hF := hF.2 H0
      refine Ok.k (Ok.t (Ok.heapEq (H' := [.bhd b8 68 (.slice f0 (stxV0 e4 q0 z0).length g0), .own (.slice f0 (stxV0 e4 q0 z0).length g0) 5 1 (stxV0 e4 q0 z0).length m0, .blk bs5 (.cells #[.slice U0 e4.1.length J0, .slice X0 e4.2.length S0] 25), .own (.slice j0 v0.length x0) 9 1 v0.length s0]) (econs (congrArg (fun l : Value => Ent.bhd b8 68 l) (congrArg (fun l : List Int => Value.slice f0 l.length g0) ((if_f H0).symm))) (econs (congrArg (fun l : List Int => Ent.own (.slice f0 l.length g0) 5 1 l.length m0) ((if_f H0).symm)) (econs (rfl) (econs (rfl) rfl)))) ?_))
      exact fun a W hA hW => ⟨O0, (Gext.r w0 O0), f0, g0, m0, (Eq.mp (congrArg (fun l : List Int => RepL O0 yb m0 l) ((if_f H0).symm)) W0), hA.sub kr, hW, hF⟩
     clear hF
     rintro a W ⟨b1, N0, K0, Y0, Z0, hLyown7_0j37, hA, hW, hF⟩
     refine (?_ : Ok _ _ _ _ _ _) a W hA hW
     clear hA hW
     replace y0 := y0.mono N0.1
     replace t0 := t0.mono N0.1
     replace hRxl_0 := hRxl_0.mono N0.1
     replace a0 := a0.mono N0.1
     replace i0 := i0.mono N0.1
     replace hG3 := hG3.mono N0.1
     refine Ok.sr ((Ok.b 3 [3, 5, 6, 12, 13, 14, 19, 20, 21] [(40, .slice D0 e11.length E0), (41, iv (e11.length : Int)), (42, iv 0)] ?_))
     refine Ok.nt ((Ok.block ?_))
     obtain ⟨k, hF⟩ := hF
     refine Ok.L (fun k a W => ∃ d1 : Ghost, Gext w0 b1 d1 ∧ ∃ (d0 : Int) (n0 : Option Addr) (o0 : Nat) (u0 : List Int) (p0 : List Value), RepL d1 yb p0 u0 ∧ StA 58 [(3, .slice j0 v0.length x0), (5, pv bs5 0), (6, pv b8 0), (12, .slice axl_0 xl.length cxl_0), (13, iv (xl.length : Int)), (14, iv b0), (19, .slice U0 e4.1.length J0), (20, iv (e4.1.length : Int)), (21, iv q0), (40, .slice D0 e11.length E0), (41, iv (e11.length : Int)), (42, iv d0)] a ∧ StW w0 [.bhd b8 68 (.slice n0 u0.length o0), .own (.slice n0 u0.length o0) 5 1 u0.length p0, .blk bs5 (.cells #[.slice U0 e4.1.length J0, .slice X0 e4.2.length S0] 25), .own (.slice j0 v0.length x0) 9 1 v0.length s0] d1 W ∧ stxl54 N e11 q0 (stxl26 N e4 b0 v0 (stxl9 N xl K k9) k26) k d0 u0) k ?_ ?_
     ·
      exact fun a W hA hW => ⟨b1, (Gext.r w0 b1), 0, K0, Y0, (stxV0 e4 q0 z0), Z0, hLyown7_0j37, hA.sub kr, hW, hF⟩
     clear hF
     rintro k54 a W ⟨d1, G0, d0, n0, o0, u0, p0, F0, hA, hW, hF⟩
     cases k54 with
     | zero => exact (hF : False).elim
     | succ k54 =>
      refine (?_ : Ok _ _ _ _ _ _) a W hA hW
      clear hA hW
      replace y0 := y0.mono G0.1
      replace hRxl_0 := hRxl_0.mono G0.1
      replace a0 := a0.mono G0.1
      replace t0 := t0.mono G0.1
      replace i0 := i0.mono G0.1
      replace hG3 := hG3.mono G0.1
      refine Ok.sr ((Ok.b 1 [3, 5, 6, 12, 13, 14, 19, 20, 21, 40, 41, 42] [(43, .bool (decide (d0 < (e11.length : Int))))] ?_))
      refine Ok.nt ((Ok.q (Ok.cn hF rfl (fun P0 => ?_) (fun P0 => ?_))))
      ·replace hF := hF.1 P0
       refine Ok.k (Ok.t (Ok.q (Ok.block (Ok.q (Ok.r ?_)))))
       obtain ⟨h014, h114, hF⟩ := hF
       have F1 := get_of (l := e11) (default : TS) h114
       generalize hg14 : (e11.getD (Int.toNat d0) default) = e14 at F1 hF ⊢
       refine Ok.op rfl (OpOk.indexRo (e := yS) (i := d0) (el := e14) rfl rfl Tryz.underlying41 kr t0 h014 F1 rfl fun q13 o13 cs13 _ a1 hr13 => ?_)
       have f1 := hr13
       replace f1 := Rep.tst.1 f1
       obtain ⟨_, _, rfl, ⟨_, _, rfl, rfl, ⟨_, _, rfl, rfl, ⟨_, _, rfl, rfl, ⟨_, _, rfl, rfl, ⟨_, _, rfl, rfl, rfl⟩⟩⟩⟩⟩, ⟨B0, C0, rfl, hm13_6, hr13_6⟩⟩ := f1
       have g1 : Rep d1 (.slice yP) [.slice B0 e14.kids.length C0] e14.kids := ⟨B0, C0, rfl, hm13_6, hr13_6⟩
       replace a1 : At d1 q13 o13 (vL e14.lab B0 e14.kids.length C0) := a1
       refine Ok.op rfl (OpOk.s (v := .agg (aL e14.lab B0 e14.kids.length C0)) (Yields.loadAggRo 0 7 (aL e14.lab B0 e14.kids.length C0) a1 kr Tryz.underlying48 rfl kr kr kr) rfl rfl (Ok.op rfl (OpOk.a (z := .agg #[iv 0, sv ([] : Bs), .int .u8 0, sv ([] : Bs), iv 0, iv 0, .slice none 0 0]) (cs := #[iv 0, sv ([] : Bs), .int .u8 0, sv ([] : Bs), iv 0, iv 0, .slice none 0 0]) kr kr rfl fun bs11 => ?_)))
       refine Ok.op rfl (OpOk.sto (k := 7) (v := .agg (aL e14.lab B0 e14.kids.length C0)) 0 (aL e14.lab B0 e14.kids.length C0) rfl rfl rfl ?_)
       refine Ok.nt ((Ok.r (Ok.op rfl (OpOk.s (v := .agg (aL e14.lab B0 e14.kids.length C0)) (Yields.loadAgg 0 7 (aL e14.lab B0 e14.kids.length C0) rfl rfl Tryz.underlying48 rfl kr kr kr) rfl rfl ?_))))
       obtain ⟨hp16, hF⟩ := hF
       refine Ok.op rfl (OpOk.f enr (fun W hW => ih_stt _ e14 (g1.mono hW.sees) (hG3.mono hW.sees) hp16) rfl ?_)
       obtain ⟨J1, hF⟩ := hF
       refine Ok.e [1, 2, 0, 3, 4] [.bhd b8 68 (.slice n0 u0.length o0), .own (.slice n0 u0.length o0) 5 1 u0.length p0, .blk bs11 (.cells (aL e14.lab B0 e14.kids.length C0) 48), .blk bs5 (.cells #[.slice U0 e4.1.length J0, .slice X0 e4.2.length S0] 25), .own (.slice j0 v0.length x0) 9 1 v0.length s0] dc rfl (Ok.op rfl (OpOk.callH [_, _] _ enr rfl (Bld.ws_c u0 (txT e14) F0 J1) rfl fun g18 _ _ s1 hV18 => ?_))
       obtain ⟨a18_0, c18_0, xs18_0, rfl, hL18_0, rfl⟩ := hV18
       replace y0 := y0.mono s1.1
       replace hRxl_0 := hRxl_0.mono s1.1
       replace a0 := a0.mono s1.1
       replace t0 := t0.mono s1.1
       replace g1 := g1.mono s1.1
       replace i0 := i0.mono s1.1
       replace hG3 := hG3.mono s1.1
       refine Ok.j (Ok.kn (Ok.t (Ok.r (Ok.B 2 [(3, .slice j0 v0.length x0), (5, pv bs5 0), (6, pv b8 0), (12, .slice axl_0 xl.length cxl_0), (13, iv (xl.length : Int)), (14, iv b0), (19, .slice U0 e4.1.length J0), (20, iv (e4.1.length : Int)), (21, iv q0), (40, .slice D0 e11.length E0), (41, iv (e11.length : Int)), (42, iv (w6 (d0 + 1)))] kr (Ok.j (Ok.t ?_))))))
       subst hg14
       exact fun a W hA hW => ⟨k54, Nat.lt_succ_self _, g18, (G0.trans s1), w6 (d0 + 1), a18_0, c18_0, (Bld.wsS u0 (txT (e11.getD (Int.toNat d0) default))).2.2, xs18_0, hL18_0, hA.sub kr, hW.sub (.cons_cons _ (.cons_cons _ (.cons _ (.cons_cons _ (.cons_cons _ .slnil))))), hF⟩
      replace hF := hF.2 P0
      refine Ok.x (Ok.thenE (Ok.thenE (Ok.blockHit (Ok.kn (Ok.t (Ok.r (Ok.b 2 [3, 5, 6, 12, 13, 14, 19, 20] [(21, iv (w6 (q0 + 1)))] ?_)))))))
      refine Ok.j (Ok.t ?_)
      subst hg11
      exact fun a W hA hW => ⟨k26, Nat.lt_succ_self _, d1, ((M0.trans N0).trans G0), w6 (q0 + 1), n0, o0, u0, p0, F0, hA.sub kr, hW, hF⟩
    replace hF := hF.2 hc9
    refine Ok.x (Ok.thenE (Ok.thenE (Ok.blockHit (Ok.t (Ok.r (Ok.b 1 [6, 12, 13, 14] [(51, .slice j0 v0.length x0)] ?_))))))
    obtain ⟨hp29, hF⟩ := hF
    refine Ok.op rfl (OpOk.callH [_, _] _ enr rfl (Bld.st_c z0 W0 hp29) rfl fun g30 _ _ n1 hV30 => ?_)
    obtain ⟨rfl, rfl⟩ := hV30
    replace hRxl_0 := hRxl_0.mono n1.1
    replace y0 := y0.mono n1.1
    replace a0 := a0.mono n1.1
    replace i0 := i0.mono n1.1
    replace hG3 := hG3.mono n1.1
    have G1 : RepL g30 (.str) ([sv (bytesOf z0)] : List Value) ([(bytesOf z0)] : List Bs) := (RepL.consN (c := [sv (bytesOf z0)]) rfl rfl)
    refine Ok.op rfl (OpOk.lit (E := 9) (.str) ([(bytesOf z0)] : List Bs) ([sv (bytesOf z0)] : List Value) kr kr rfl kr G1 rfl fun b31 => ?_)
    obtain ⟨hb32, hF⟩ := hF
    refine Ok.op rfl (OpOk.append' (e := .str) 16 8796093022208 2 0 rfl rfl rfl rfl y0 G1 Tryz.underlying38 kr kr kr hb32 rfl fun a32 c32 xs32 hL32 => ?_)
    refine Ok.b 1 [12, 13, 14] [(3, .slice a32 (v0 ++ ([(bytesOf z0)] : List Bs)).length c32)] ?_
    refine Ok.j (Ok.kn (Ok.t (Ok.r (Ok.b 2 [3, 12, 13] [(14, iv (w6 (b0 + 1)))] ?_))))
    refine Ok.j (Ok.t ?_)
    subst hg4
    exact fun a W hA hW => ⟨k9, Nat.lt_succ_self _, g30, ((i1.trans M0).trans n1), w6 (b0 + 1), a32, c32, (v0 ++ ([(bytesOf z0)] : List Bs)), xs32, hL32, hA.sub kr, hW.sub (.cons _ (.cons _ (.cons_cons _ .slnil))), hF⟩
  replace hF := hF.2 hc2
  refine Ok.x (Ok.thenE (Ok.thenE (Ok.blockHit (Ok.t (Ok.sr ((Ok.B 1 [(56, .slice j0 v0.length x0)] kr ?_)))))))
  obtain ⟨hp33, hF⟩ := hF
  refine Ok.op rfl (OpOk.f enr (fun W hW => join_c v0 ([44, 32] : Bs) (hW.seeOwn 0 rfl y0) hp33) rfl ?_)
  refine Ok.B 1 [(2, sv (joinS v0 ([44, 32] : Bs)))] kr (Ok.nt ((Ok.ret ?_)))
  exact Ok.p (vs := [sv (joinS v0 ([44, 32] : Bs))]) [] [] dc rfl (.inl rfl) rfl (.cons (.tmp rfl) .nil) i1 ⟨(joinS v0 ([44, 32] : Bs)), rfl, rfl, hF⟩
theorem stt_0 (t : Ts) : ¬ sttP 0 t := fun h => absurd h.1 (Nat.not_lt_zero _)
theorem stx_0 (l : List Ph) : ¬ stxP 0 l := fun h => absurd h.1 (Nat.not_lt_zero _)
theorem byte_ints (z : Int) : bytesOf ([z] : List Int) = [byteB z] := rfl
theorem byteB_61 {z : Int} (h : btN z) : (([byteB z] : Bs) == [61]) = (z == 61) := by
 obtain ⟨h1, h2⟩ := h
 obtain ⟨n, rfl⟩ : ∃ n : Nat, z = n := ⟨z.toNat, by omega⟩
 have := Rp.byte_all (p := fun c => (([c] : Bs) == [61]) == (((c.toNat : Nat) : Int) == 61)) dk (byteB (n : Int))
 rw [eq_of_beq this]
 have e : (byteB (n : Int)).toNat = n := by
  unfold byteB
  rw [Int.toNat_natCast]
  exact UInt8.toNat_ofNat_of_lt (show n < 256 by omega)
 rw [e]
theorem stt_op {t : Ts} (h : btN t.lab.2.2.1) : sttV0 t = (t.lab.2.2.1 == 61) ∧ sttV1 t = opS t.lab.2.2.1 := by
 have e0 : sttV0 t = (t.lab.2.2.1 == 61) := by
  unfold sttV0
  rw [byte_ints]
  exact byteB_61 h
 refine ⟨e0, ?_⟩
 unfold sttV1 opS
 rw [e0, byte_ints]
 rfl
theorem w10 (z : Int) : w6 ((([byteB z] : Bs).length : Int) - (([61] : Bs).length : Int)) = 0 := rfl
theorem stt_F (N : Nat) (t : Ts) (h : sttP (N + 1) t) : sttF N t (fun r => r = txT t) := by
 have hk := fun hx => sttP_kids h hx
 obtain ⟨_, hb, ho, i, hi⟩ := h
 rw [okT_eq, Bool.and_eq_true] at hi
 obtain ⟨hab, hl1, hl2⟩ := lab_ab hi.1
 have hkb := bT_kids t
 have e : maxLen = 9223372036854775807 := rfl
 have hop := stt_op (okB_kids ho).1
 have hq : quoteP t.lab.2.2.2.1 := by unfold quoteP; omega
 have hql := quote_len t.lab.2.2.2.1
 have hT := txT_eq t
 have ho1 : (opS t.lab.2.2.1).length ≤ 1 := by unfold opS; split <;> simp
 have hlen : ∀ hx, (tx3 t.kids).length ≤ 400 * 1048600 := fun hx => by
  have h1 := tx3_len (fun q _ s _ y _ => tlen y) (hk hx).2.2.2
  have h2 := b3_eq t.kids
  omega
 have hn := nth_len hab
 unfold nthT at hn
 have k1 : ∀ {n : Int} {P : Prop}, ((t.lab.1 == n) = true → t.lab.1 = n) := fun h => eq_of_beq h
 have k0 : ∀ {n : Int}, (t.lab.1 == n) = false → t.lab.1 ≠ n := fun h => by simpa using h
 refine ⟨fun c1 => ?_, fun c1 => ⟨fun c2 => ?_, fun c2 => ⟨fun c3 => ⟨sl, ?_⟩, fun c3 => ⟨fun c4 => ⟨sl, ?_⟩, fun c4 => ⟨fun c5 => ?_, fun c5 => ?_⟩⟩⟩⟩⟩
 ·rw [hT, labT, if_t c1]
 ·rw [hT, labT, if_f c1, if_t c2]
 ·rw [hT, labT, if_f c1, if_f c2, if_t c3]; rfl
 ·rw [hT, labT, if_f c1, if_f c2, if_f c3, if_t c4]; rfl
 ·rw [labT, if_f c1, if_f c2, if_f c3, if_f c4, if_t c5] at hT
  refine ⟨fun c0 => ⟨sl, sl, ?_⟩, fun c0 => ?_⟩
  ·rw [hT, if_t c0]; simp
  rw [if_f c0] at hT
  have j5 : sttji5 t (fun r => r = txT t) := by
   unfold sttji5
   rw [hop.2]
   refine ⟨sl, sl, hq, sl, sl, ?_⟩
   rw [hT, dqS]; simp
  have j7 : sttj3i37i7i7 t (fun r => r = txT t) := ⟨fun _ => ⟨by decide, by rw [byte_ints, w10]; exact Int.le_refl 0, by rw [byte_ints, w10]; exact Int.natCast_nonneg _, j5⟩, fun _ => j5⟩
  exact ⟨sl, fun _ => ⟨by rw [byte_ints, w10]; exact Int.le_refl 0, by rw [byte_ints, w10]; exact Int.natCast_nonneg _, by omega, j7⟩, fun _ => j7⟩
 rw [labT, if_f c1, if_f c2, if_f c3, if_f c4, if_f c5] at hT
 have hN : (nthT t).length ≤ 2006 := nth_len hab
 refine ⟨fun c6 => ?_, fun c6 => ⟨fun c7 => ?_, fun c7 => ⟨fun c8 => ⟨hab, ?_, ?_, ?_⟩, fun c8 => ⟨fun c9 => ⟨hab, ?_, ?_, ?_⟩, fun c9 => ⟨fun c10 => ?_, fun c10 => ?_⟩⟩⟩⟩⟩
 ·show _ = _; rw [hT, if_t c6]
 ·show _ = _; rw [hT, if_f c6, if_t c7]
 ·simp only [List.length_cons, List.length_nil]; omega
 ·simp only [List.length_append, List.length_cons, List.length_nil]; omega
 ·show _ = _; rw [hT, if_f c6, if_f c7, if_t c8, List.append_assoc]; rfl
 ·simp only [List.length_cons, List.length_nil]; omega
 ·simp only [List.length_append, List.length_cons, List.length_nil]; omega
 ·show _ = _; rw [hT, if_f c6, if_f c7, if_f c8, if_t c9, List.append_assoc]; rfl
 ·have h3 := hlen (.inl (k1 (P := True) c10))
  refine ⟨hk (.inl (k1 (P := True) c10)), sl, sl, ?_⟩
  show _ = _; rw [hT, if_f c6, if_f c7, if_f c8, if_f c9, if_t c10, List.append_assoc]
 have h11 : t.lab.1 = 11 := by
  have := k0 c1; have := k0 c2; have := k0 c3; have := k0 c4; have := k0 c5; have := k0 c6; have := k0 c7; have := k0 c8; have := k0 c9; have := k0 c10
  omega
 have h3 := hlen (.inr h11)
 refine ⟨hk (.inr h11), sl, sl, ?_⟩
 show _ = _; rw [hT, if_f c6, if_f c7, if_f c8, if_f c9, if_f c10, List.append_assoc]
theorem ints_app (a b : Bs) : intsOf (a ++ b) = intsOf a ++ intsOf b := List.map_append ..
theorem ints_len (a : Bs) : (intsOf a).length = a.length := List.length_map ..
theorem stx54 {N : Nat} (s : List Ts) (hs : ∀ i, i < s.length → sttP N (s.getD i default)) (hl : s.length ≤ 1048600) (j : Int) (C : Int → List Int → Prop) (Z : Bs) (hZ : (Z ++ tx1 s).length ≤ 140737488355328) (hC : C (w6 (j + 1)) (intsOf (Z ++ tx1 s))) :
  ∀ (m i : Nat) (Y : Bs), i + m = s.length → Y ++ tx1 (s.drop i) = Z ++ tx1 s → stxl54 N s j C (m + 1) (i : Int) (intsOf Y) := by
 intro m
 induction m with
 | zero =>
  intro i Y hi he
  rw [List.drop_of_length_le om, tx1, List.append_nil] at he
  exact ⟨fun hc => absurd (of_decide_eq_true hc) om, fun _ => by rw [he]; exact hC⟩
 | succ m ih =>
  intro i Y hi he
  have hi' : i < s.length := by omega
  rw [drop_get (l := s) default hi', tx1, ← List.append_assoc] at he
  have hle := congrArg List.length he
  rw [List.length_append, List.length_append] at hle
  refine ⟨fun _ => ⟨by omega, by rw [Int.toNat_natCast]; omega, ?_⟩, fun hc => absurd (of_decide_eq_false hc) om⟩
  rw [Int.toNat_natCast]
  refine ⟨hs i hi', ?_, ?_⟩
  ·show (intsOf Y).length + _ ≤ _
   rw [ints_len]; omega
  show stxl54 N s j C (m + 1) _ (intsOf Y ++ intsOf _)
  rw [← ints_app, w64 om, show (i : Int) + 1 = ((i + 1 : Nat) : Int) by omega]
  exact ih (i + 1) _ om he
def restS (q : Ph) (i : Nat) : Bs := if i = 0 then tx2 q.1 q.2 else tr2 (q.1.drop i) (q.2.drop (i - 1))
def sepS (q : Ph) (i : Nat) : Bs := if i = 0 then [] else jnS (q.2.getD (i - 1) default)
theorem rest_step (q : Ph) {i : Nat} (hi : i < q.1.length) (hj : q.2.length + 1 = q.1.length) : restS q i = sepS q i ++ (tx1 (q.1.getD i default) ++ restS q (i + 1)) := by
 unfold restS sepS
 rw [if_neg (by omega : ¬ i + 1 = 0)]
 by_cases h0 : i = 0
 ·subst h0
  rw [if_pos rfl, if_pos rfl]
  obtain ⟨p, js⟩ := q
  match p, hi with
  | s :: p, _ => rw [tx2]; rfl
 rw [if_neg h0, if_neg h0]
 obtain ⟨k, rfl⟩ : ∃ k, i = k + 1 := ⟨i - 1, by omega⟩
 rw [drop_get (l := q.1) default hi, Nat.add_sub_cancel, Nat.add_sub_cancel, drop_get (l := q.2) default om, tr2]
 rfl
theorem rest_end (q : Ph) (h0 : q.1 ≠ []) : restS q q.1.length = [] := by
 unfold restS
 have : q.1.length ≠ 0 := fun h => h0 (List.eq_nil_of_length_eq_zero h)
 rw [if_neg this, List.drop_of_length_le (Nat.le_refl _), tr2]
theorem ints_jn {z : Int} (hz : btN z) : intsOf (jnS z) = if (z != 32) = true then [32, z, 32] else [32] := by
 obtain ⟨h1, h2⟩ := hz
 obtain ⟨n, rfl⟩ : ∃ n : Nat, z = n := ⟨z.toNat, by omega⟩
 have e : (byteB (n : Int)).toNat = n := by
  unfold byteB
  rw [Int.toNat_natCast]
  exact UInt8.toNat_ofNat_of_lt (show n < 256 by omega)
 unfold jnS
 by_cases h : (n : Int) = 32
 ·rw [h]; rfl
 rw [if_neg (by simpa using h), if_pos (by simpa using h)]
 show [_, (((byteB (n : Int)).toNat : Nat) : Int), _] = _
 rw [e]; rfl
theorem stx26 {N : Nat} (q : Ph) (hj : ∀ z ∈ q.2, btN z) (hs : ∀ s ∈ q.1, ∀ i, i < s.length → sttP N (s.getD i default)) (hw : w2 q.1 ≤ 1048600) (h0 : q.1 ≠ []) (hjl : q.2.length + 1 = q.1.length) (hL : (tx2 q.1 q.2).length ≤ 140737488355328) (j : Int) (outs : List Bs) (ho : outs.length + 1 ≤ 8796093022208) (C : Int → List Bs → Prop) (hC : C (w6 (j + 1)) (outs ++ [tx2 q.1 q.2])) :
  ∀ (m i : Nat) (Z : Bs), i + m = q.1.length → Z ++ restS q i = tx2 q.1 q.2 → stxl26 N q j outs C (m + 1) (i : Int) (intsOf Z) := by
 have hl2 := w2_len q.1
 intro m
 induction m with
 | zero =>
  intro i Z hi he
  have : i = q.1.length := by omega
  subst this
  rw [rest_end q h0, List.append_nil] at he
  refine ⟨fun hc => absurd (of_decide_eq_true hc) om, fun _ => ⟨by unfold stP; rw [bytesOf_intsOf], by rw [List.length_append]; simpa using ho, ?_⟩⟩
  rw [bytesOf_intsOf, he]; exact hC
 | succ m ih =>
  intro i Z hi he
  have hi' : i < q.1.length := by omega
  have hin := get_in (l := q.1) default hi'
  have hw1 := w2_in hin
  have hw3 := w1_len (q.1.getD i default)
  rw [rest_step q hi' hjl, ← List.append_assoc, ← List.append_assoc] at he
  have hle := congrArg List.length he
  rw [List.length_append, List.length_append, List.length_append] at hle
  have hV : stxV0 q (i : Int) (intsOf Z) = intsOf (Z ++ sepS q i) := by
   unfold stxV0 sepS
   by_cases h : i = 0
   ·subst h; rw [if_neg (by simp), if_pos rfl, List.append_nil]
   obtain ⟨k, rfl⟩ : ∃ k, i = k + 1 := ⟨i - 1, by omega⟩
   rw [if_pos (by apply decide_eq_true; omega), if_neg h, w64 om, show ((k + 1 : Nat) : Int) - 1 = (k : Int) by omega, Int.toNat_natCast, Nat.add_sub_cancel, ints_app, ints_jn (hj _ (get_in (l := q.2) default om))]
   split
   ·show intsOf Z ++ [32] ++ [_, 32] = _
    rw [List.append_assoc]; rfl
   rfl
  have j37 : stxj37 N q (q.1.getD i default) (i : Int) (intsOf Z) (stxl26 N q j outs C (m + 1)) := by
   refine ⟨(q.1.getD i default).length + 1, ?_⟩
   rw [hV]
   refine stx54 (q.1.getD i default) (hs _ hin) om (i : Int) _ (Z ++ sepS q i) (by rw [List.length_append, List.length_append]; omega) ?_ (q.1.getD i default).length 0 _ om (by rw [List.drop_zero])
   rw [w64 om, show (i : Int) + 1 = ((i + 1 : Nat) : Int) by omega]
   exact ih (i + 1) _ om he
  refine ⟨fun _ => ⟨by omega, by rw [Int.toNat_natCast]; exact hi', ?_⟩, fun hc => absurd (of_decide_eq_false hc) om⟩
  rw [Int.toNat_natCast]
  refine ⟨fun hc => ?_, fun _ => j37⟩
  have hc := of_decide_eq_true hc
  obtain ⟨k, rfl⟩ : ∃ k, i = k + 1 := ⟨i - 1, by omega⟩
  have e1 : w6 (((k + 1 : Nat) : Int) - 1) = (k : Int) := by rw [w64 om]; omega
  have hsl : (sepS q (k + 1)).length = (jnS (q.2.getD k default)).length := by
   unfold sepS; rw [if_neg om]; rfl
  have hz := hj _ (get_in (l := q.2) (i := k) default om)
  have hb : 1 ≤ (jnS (q.2.getD k default)).length := by unfold jnS; split <;> simp
  refine ⟨by show (intsOf Z).length + 1 ≤ _; rw [ints_len]; omega, by rw [e1]; omega, by rw [e1, Int.toNat_natCast]; omega, ?_⟩
  rw [e1, Int.toNat_natCast]
  refine ⟨fun h32 => ⟨⟨by simp, ?_⟩, j37⟩, fun _ => j37⟩
  have h3 : (jnS (q.2.getD k default)).length = 3 := by
   unfold jnS
   rw [if_neg (by simpa using h32)]; rfl
  show (intsOf Z ++ [32]).length + 2 ≤ _
  rw [List.length_append, ints_len]
  show Z.length + 1 + 2 ≤ _
  omega
theorem stx_F (N : Nat) (l : List Ph) (h : stxP (N + 1) l) : stxF N l (fun r => r = tx3 l) := by
 have hin := fun q hq s hs i hi => stxP_in h (q := q) hq (s := s) hs (i := i) hi
 obtain ⟨_, hb, ho, hk⟩ := h
 have h5 := b3_eq l
 have hlen := w3_len l
 have hL := tx3_len (fun q _ s _ y _ => tlen y) hk
 have loop : ∀ (m i : Nat), i + m = l.length → stxl9 N l (fun r => r = tx3 l) (m + 1) (i : Int) ((l.take i).map fun q => tx2 q.1 q.2) := by
  intro m
  induction m with
  | zero =>
   intro i hi
   refine ⟨fun hc => absurd (of_decide_eq_true hc) om, fun _ => ?_⟩
   rw [List.take_of_length_le om]
   refine ⟨⟨by rw [List.length_map]; omega, by rw [tx3_map]; omega⟩, tx3_map l⟩
  | succ m ih =>
   intro i hi
   have hi' : i < l.length := by omega
   have hq := get_in (l := l) default hi'
   have hwq := w3_in hq
   obtain ⟨⟨q1, q2⟩, q3, q4⟩ := ok3_in hk hq
   have hql := tx2_len (p := (l.getD i default).1) (js := (l.getD i default).2) (fun s _ y _ => tlen y) q3
   refine ⟨fun _ => ⟨by omega, by rw [Int.toNat_natCast]; exact hi', (l.getD i default).1.length + 1, ?_⟩, fun hc => absurd (of_decide_eq_false hc) om⟩
   rw [Int.toNat_natCast]
   refine stx26 (l.getD i default) (ho _ hq).1 (hin _ hq) om q1 q2 om (i : Int) _ (by rw [List.length_map, List.length_take]; omega) _ ?_ (l.getD i default).1.length 0 [] om rfl
   rw [w64 om, show (i : Int) + 1 = ((i + 1 : Nat) : Int) by omega]
   have := ih (i + 1) om
   rw [List.take_add_one, List.getElem?_eq_getElem hi', Option.toList_some, List.map_append] at this
   rw [List.getD_eq_getElem?_getD, List.getElem?_eq_getElem hi']
   exact this
 exact ⟨_, loop l.length 0 om⟩
theorem stt_rec : ∀ N, stt_C N ∧ stx_C N
 | 0 => ⟨(by intro g axt_0 cxt_0 xt hRxt_0 hG3 hp; exact (stt_0 xt hp).elim), (by intro g axl_0 cxl_0 xl hRxl_0 hG3 hp; exact (stx_0 xl hp).elim)⟩
 | N + 1 =>
  have ih := stt_rec N
  ⟨(by intro g axt_0 cxt_0 xt hRxt_0 hG3 hp; exact (stt_ok N ih.1 ih.2 xt hRxt_0 hG3 _ (stt_F N xt hp)).gives (by rintro g' H' v _ ⟨r0, rfl, rfl, hK⟩; subst hK; rfl)), (by intro g axl_0 cxl_0 xl hRxl_0 hG3 hp; exact (stx_ok N ih.1 ih.2 xl hRxl_0 hG3 _ (stx_F N xl hp)).gives (by rintro g' H' v _ ⟨r0, rfl, rfl, hK⟩; subst hK; rfl))⟩
def stxPE (xl : List PH) : Prop := ∃ N, stxP N xl
theorem stx_c {g : Ghost} {axl_0 : Option Addr} {cxl_0 : Nat} (xl : List PH) (hRxl_0 : Rep g (.slice yP) [.slice axl_0 xl.length cxl_0] xl) (hG3 : GlobL g 3 (.int .u64) DPow)  (hp : stxPE xl) : CallsG Tryz.prog 23 #[.slice axl_0 xl.length cxl_0] g (sv (tx3 xl)) := by
 obtain ⟨N, hp⟩ := hp
 exact (stt_rec N).2 _ xl hRxl_0 hG3 hp
end Go.Proofs.YtcnhdkhkadiohaaGreatDoor.Se
