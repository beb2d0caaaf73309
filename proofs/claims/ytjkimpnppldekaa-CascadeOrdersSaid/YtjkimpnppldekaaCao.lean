/- CascadeWins, CascadeOrders: functions of their laws. -/
import Derived.Test.YtjkimpnppldekaaSsq
import Derived.Test.YtjkimpnppldekaaSee
import Derived.Test.YtjkimpnppldekaaSto
namespace Go.Proofs.Ytjkimpnppldekaa.Ca
open Go Go.Eng Go.RowKit Go.Stb So
set_option linter.unusedVariables false
abbrev G := List UInt8 × List UInt8 × Int × Bool × Int × Int
def rankF (xg : List UInt8 × List UInt8 × Int × Bool × Int × Int) (K : Int → Prop) : Prop :=
  ((!xg.2.2.2.1) = true → K xg.2.2.1) ∧ ((!xg.2.2.2.1) = false → (((xg.2.2.1 == 1)) = true → K 3) ∧ (((xg.2.2.1 == 1)) = false → (((xg.2.2.1 == 2)) = true → K 4) ∧ (((xg.2.2.1 == 2)) = false → K 5)))
set_option maxHeartbeats 4000000 in
set_option maxRecDepth 100000 in
set_option linter.unusedVariables false in
theorem rank_ok {g : Ghost} (xg : List UInt8 × List UInt8 × Int × Bool × Int × Int) (K : Int → Prop)
    (hF : rankF xg K) : CallsH Try.prog 16 #[.agg #[.string ⟨⟨xg.1⟩⟩, .string ⟨⟨xg.2.1⟩⟩, .int .i64 xg.2.2.1, .bool xg.2.2.2.1, .int .i64 xg.2.2.2.2.1, .int .i64 xg.2.2.2.2.2]] g [] (fun g' H' v => ∃ (r0 : Int), v = .int .i64 r0 ∧ H' = [] ∧ K r0) := by
  refine CallsH.enter 14 [(0, .agg #[.string ⟨⟨xg.1⟩⟩, .string ⟨⟨xg.2.1⟩⟩, .int .i64 xg.2.2.1, .bool xg.2.2.2.1, .int .i64 xg.2.2.2.2.1, .int .i64 xg.2.2.2.2.2])] Try.func16 rfl (by kernel_rfl) (by kernel_rfl) (by kernel_rfl) fun w0 => ?_
  refine Ok.seq ?_
  refine Ok.region ?_
  refine Ok.op rfl (OpOk.box (v := .agg #[.string ⟨⟨xg.1⟩⟩, .string ⟨⟨xg.2.1⟩⟩, .int .i64 xg.2.2.1, .bool xg.2.2.2.1, .int .i64 xg.2.2.2.2.1, .int .i64 xg.2.2.2.2.2]) (cs := #[.string ⟨⟨xg.1⟩⟩, .string ⟨⟨xg.2.1⟩⟩, .int .i64 xg.2.2.1, .bool xg.2.2.2.1, .int .i64 xg.2.2.2.2.1, .int .i64 xg.2.2.2.2.2]) rfl (by kernel_rfl) rfl fun bs1 => ?_)
  refine Ok.batch 1 [(1, .pointer (some ⟨bs1, 0, none⟩))] (by kernel_rfl) ?_
  refine Ok.nil ?_
  refine Ok.thenN ?_
  refine Ok.seq ?_
  refine Ok.seq ?_
  refine Ok.region ?_
  refine Ok.batch 1 [(1, .pointer (some ⟨bs1, 0, none⟩)), (3, .pointer (some ⟨bs1, 3, none⟩))] (by kernel_rfl) ?_
  refine Ok.op rfl (OpOk.step (v := .bool xg.2.2.2.1) (Yields.load 0 rfl rfl Try.underlying4 rfl (by kernel_rfl)) rfl rfl ?_)
  refine Ok.batch 1 [(1, .pointer (some ⟨bs1, 0, none⟩)), (5, .bool (!xg.2.2.2.1))] (by kernel_rfl) ?_
  refine Ok.nil ?_
  refine Ok.thenN ?_
  refine Ok.cond (b := !xg.2.2.2.1) rfl (fun hc2 => ?_) (fun hc2 => ?_)
  · replace hF := hF.1 hc2
    refine Ok.seq ?_
    refine Ok.region ?_
    refine Ok.batch 1 [(6, .pointer (some ⟨bs1, 2, none⟩))] (by kernel_rfl) ?_
    refine Ok.op rfl (OpOk.step (v := .int .i64 xg.2.2.1) (Yields.load 0 rfl rfl Try.underlying3 rfl (by kernel_rfl)) rfl rfl ?_)
    refine Ok.batch 1 [(2, .int .i64 xg.2.2.1)] (by kernel_rfl) ?_
    refine Ok.nil ?_
    refine Ok.thenN ?_
    refine Ok.ret ?_
    refine Ok.thenR ?_
    exact Ok.resP (vs := [.int .i64 xg.2.2.1]) [] [] (by decide) rfl (.inl rfl) rfl (.cons (.tmp rfl) .nil) (Gext.refl w0 g) ⟨xg.2.2.1, rfl, rfl, hF⟩
  · replace hF := hF.2 hc2
    refine Ok.skip ?_
    refine Ok.thenN ?_
    refine Ok.seq ?_
    refine Ok.seq ?_
    refine Ok.region ?_
    refine Ok.batch 1 [(8, .pointer (some ⟨bs1, 2, none⟩))] (by kernel_rfl) ?_
    refine Ok.op rfl (OpOk.step (v := .int .i64 xg.2.2.1) (Yields.load 0 rfl rfl Try.underlying3 rfl (by kernel_rfl)) rfl rfl ?_)
    refine Ok.nil ?_
    refine Ok.thenN ?_
    refine Ok.block ?_
    refine Ok.seq ?_
    refine Ok.region ?_
    refine Ok.batch 2 [(9, .int .i64 xg.2.2.1), (10, .bool (xg.2.2.1 == 1))] (by kernel_rfl) ?_
    refine Ok.nil ?_
    refine Ok.thenN ?_
    refine Ok.cond (b := (xg.2.2.1 == 1)) rfl (fun hc3 => ?_) (fun hc3 => ?_)
    · replace hF := hF.1 hc3
      refine Ok.seq ?_
      refine Ok.region ?_
      refine Ok.batch 1 [(2, .int .i64 3)] (by kernel_rfl) ?_
      refine Ok.nil ?_
      refine Ok.thenN ?_
      refine Ok.ret ?_
      refine Ok.blockR ?_
      refine Ok.thenR ?_
      exact Ok.resP (vs := [.int .i64 3]) [] [] (by decide) rfl (.inl rfl) rfl (.cons (.tmp rfl) .nil) (Gext.refl w0 g) ⟨3, rfl, rfl, hF⟩
    · replace hF := hF.2 hc3
      refine Ok.seq ?_
      refine Ok.region ?_
      refine Ok.batch 2 [(12, .bool (xg.2.2.1 == 2))] (by kernel_rfl) ?_
      refine Ok.nil ?_
      refine Ok.thenN ?_
      refine Ok.cond (b := (xg.2.2.1 == 2)) rfl (fun hc4 => ?_) (fun hc4 => ?_)
      · replace hF := hF.1 hc4
        refine Ok.seq ?_
        refine Ok.region ?_
        refine Ok.batch 1 [(2, .int .i64 4)] (by kernel_rfl) ?_
        refine Ok.nil ?_
        refine Ok.thenN ?_
        refine Ok.ret ?_
        refine Ok.blockR ?_
        refine Ok.thenR ?_
        exact Ok.resP (vs := [.int .i64 4]) [] [] (by decide) rfl (.inl rfl) rfl (.cons (.tmp rfl) .nil) (Gext.refl w0 g) ⟨4, rfl, rfl, hF⟩
      · replace hF := hF.2 hc4
        refine Ok.skip ?_
        refine Ok.blockN ?_
        refine Ok.thenN ?_
        refine Ok.seq ?_
        refine Ok.region ?_
        refine Ok.batch 1 [(2, .int .i64 5)] (by kernel_rfl) ?_
        refine Ok.nil ?_
        refine Ok.thenN ?_
        refine Ok.ret ?_
        exact Ok.resP (vs := [.int .i64 5]) [] [] (by decide) rfl (.inl rfl) rfl (.cons (.tmp rfl) .nil) (Gext.refl w0 g) ⟨5, rfl, rfl, hF⟩
def rankI (g : G) : Int := if g.2.2.2.1 = false then g.2.2.1 else if g.2.2.1 = 1 then 3 else if g.2.2.1 = 2 then 4 else 5
theorem rank_F (g : G) : rankF g (fun r => r = rankI g) := by
  unfold rankF rankI
  refine ⟨fun h => ?_, fun h => ⟨fun h2 => ?_, fun h2 => ⟨fun h3 => ?_, fun h3 => ?_⟩⟩⟩
  · have h : g.2.2.2.1 = false := by simpa using h
    rw [if_pos h]
  all_goals
    have h : ¬ g.2.2.2.1 = false := by simpa using h
    rw [if_neg h]
  · have h2 : g.2.2.1 = 1 := by simpa using h2
    rw [if_pos h2]
  all_goals
    have h2 : ¬ g.2.2.1 = 1 := by simpa using h2
    rw [if_neg h2]
  · have h3 : g.2.2.1 = 2 := by simpa using h3
    rw [if_pos h3]
  · have h3 : ¬ g.2.2.1 = 2 := by simpa using h3
    rw [if_neg h3]
set_option linter.unusedVariables false in
theorem rank_c {g : Ghost} (xg : List UInt8 × List UInt8 × Int × Bool × Int × Int)  : CallsG Try.prog 16 #[.agg #[.string ⟨⟨xg.1⟩⟩, .string ⟨⟨xg.2.1⟩⟩, .int .i64 xg.2.2.1, .bool xg.2.2.2.1, .int .i64 xg.2.2.2.2.1, .int .i64 xg.2.2.2.2.2]] g (.int .i64 (rankI xg)) :=
  (rank_ok xg _ (rank_F xg)).gives (by rintro g' H' v _ ⟨r0, rfl, rfl, hK⟩; subst hK; rfl)
def rrankF (xg : List UInt8 × List UInt8 × Int × Bool × Int × Int) (K : Int → Prop) : Prop :=
  ((!xg.2.2.2.1) = true → K xg.2.2.1) ∧ ((!xg.2.2.2.1) = false → (((xg.2.2.1 == 1)) = true → K 3) ∧ (((xg.2.2.1 == 1)) = false → (((xg.2.2.1 == 2)) = true → K 4) ∧ (((xg.2.2.1 == 2)) = false → K 5)))
set_option maxHeartbeats 4000000 in
set_option maxRecDepth 100000 in
set_option linter.unusedVariables false in
theorem rrank_ok {g : Ghost} (xg : List UInt8 × List UInt8 × Int × Bool × Int × Int) (K : Int → Prop)
    (hF : rrankF xg K) : CallsH Try.prog 12 #[.agg #[.string ⟨⟨xg.1⟩⟩, .string ⟨⟨xg.2.1⟩⟩, .int .i64 xg.2.2.1, .bool xg.2.2.2.1, .int .i64 xg.2.2.2.2.1, .int .i64 xg.2.2.2.2.2]] g [] (fun g' H' v => ∃ (r0 : Int), v = .int .i64 r0 ∧ H' = [] ∧ K r0) := by
  refine CallsH.enter 14 [(0, .agg #[.string ⟨⟨xg.1⟩⟩, .string ⟨⟨xg.2.1⟩⟩, .int .i64 xg.2.2.1, .bool xg.2.2.2.1, .int .i64 xg.2.2.2.2.1, .int .i64 xg.2.2.2.2.2])] Try.func12 rfl (by kernel_rfl) (by kernel_rfl) (by kernel_rfl) fun w0 => ?_
  refine Ok.seq ?_
  refine Ok.region ?_
  refine Ok.op rfl (OpOk.box (v := .agg #[.string ⟨⟨xg.1⟩⟩, .string ⟨⟨xg.2.1⟩⟩, .int .i64 xg.2.2.1, .bool xg.2.2.2.1, .int .i64 xg.2.2.2.2.1, .int .i64 xg.2.2.2.2.2]) (cs := #[.string ⟨⟨xg.1⟩⟩, .string ⟨⟨xg.2.1⟩⟩, .int .i64 xg.2.2.1, .bool xg.2.2.2.1, .int .i64 xg.2.2.2.2.1, .int .i64 xg.2.2.2.2.2]) rfl (by kernel_rfl) rfl fun bs1 => ?_)
  refine Ok.batch 1 [(1, .pointer (some ⟨bs1, 0, none⟩))] (by kernel_rfl) ?_
  refine Ok.nil ?_
  refine Ok.thenN ?_
  refine Ok.seq ?_
  refine Ok.seq ?_
  refine Ok.region ?_
  refine Ok.batch 1 [(1, .pointer (some ⟨bs1, 0, none⟩)), (3, .pointer (some ⟨bs1, 3, none⟩))] (by kernel_rfl) ?_
  refine Ok.op rfl (OpOk.step (v := .bool xg.2.2.2.1) (Yields.load 0 rfl rfl Try.underlying4 rfl (by kernel_rfl)) rfl rfl ?_)
  refine Ok.batch 1 [(1, .pointer (some ⟨bs1, 0, none⟩)), (5, .bool (!xg.2.2.2.1))] (by kernel_rfl) ?_
  refine Ok.nil ?_
  refine Ok.thenN ?_
  refine Ok.cond (b := !xg.2.2.2.1) rfl (fun hc2 => ?_) (fun hc2 => ?_)
  · replace hF := hF.1 hc2
    refine Ok.seq ?_
    refine Ok.region ?_
    refine Ok.batch 1 [(6, .pointer (some ⟨bs1, 2, none⟩))] (by kernel_rfl) ?_
    refine Ok.op rfl (OpOk.step (v := .int .i64 xg.2.2.1) (Yields.load 0 rfl rfl Try.underlying3 rfl (by kernel_rfl)) rfl rfl ?_)
    refine Ok.batch 1 [(2, .int .i64 xg.2.2.1)] (by kernel_rfl) ?_
    refine Ok.nil ?_
    refine Ok.thenN ?_
    refine Ok.ret ?_
    refine Ok.thenR ?_
    exact Ok.resP (vs := [.int .i64 xg.2.2.1]) [] [] (by decide) rfl (.inl rfl) rfl (.cons (.tmp rfl) .nil) (Gext.refl w0 g) ⟨xg.2.2.1, rfl, rfl, hF⟩
  · replace hF := hF.2 hc2
    refine Ok.skip ?_
    refine Ok.thenN ?_
    refine Ok.seq ?_
    refine Ok.seq ?_
    refine Ok.region ?_
    refine Ok.batch 1 [(1, .pointer (some ⟨bs1, 0, none⟩)), (8, .pointer (some ⟨bs1, 2, none⟩))] (by kernel_rfl) ?_
    refine Ok.op rfl (OpOk.step (v := .int .i64 xg.2.2.1) (Yields.load 0 rfl rfl Try.underlying3 rfl (by kernel_rfl)) rfl rfl ?_)
    refine Ok.batch 1 [(1, .pointer (some ⟨bs1, 0, none⟩)), (10, .bool (xg.2.2.1 == 1))] (by kernel_rfl) ?_
    refine Ok.nil ?_
    refine Ok.thenN ?_
    refine Ok.cond (b := (xg.2.2.1 == 1)) rfl (fun hc3 => ?_) (fun hc3 => ?_)
    · replace hF := hF.1 hc3
      refine Ok.seq ?_
      refine Ok.region ?_
      refine Ok.batch 1 [(2, .int .i64 3)] (by kernel_rfl) ?_
      refine Ok.nil ?_
      refine Ok.thenN ?_
      refine Ok.ret ?_
      refine Ok.thenR ?_
      exact Ok.resP (vs := [.int .i64 3]) [] [] (by decide) rfl (.inl rfl) rfl (.cons (.tmp rfl) .nil) (Gext.refl w0 g) ⟨3, rfl, rfl, hF⟩
    · replace hF := hF.2 hc3
      refine Ok.skip ?_
      refine Ok.thenN ?_
      refine Ok.seq ?_
      refine Ok.seq ?_
      refine Ok.region ?_
      refine Ok.batch 1 [(11, .pointer (some ⟨bs1, 2, none⟩))] (by kernel_rfl) ?_
      refine Ok.op rfl (OpOk.step (v := .int .i64 xg.2.2.1) (Yields.load 0 rfl rfl Try.underlying3 rfl (by kernel_rfl)) rfl rfl ?_)
      refine Ok.batch 1 [(13, .bool (xg.2.2.1 == 2))] (by kernel_rfl) ?_
      refine Ok.nil ?_
      refine Ok.thenN ?_
      refine Ok.cond (b := (xg.2.2.1 == 2)) rfl (fun hc4 => ?_) (fun hc4 => ?_)
      · replace hF := hF.1 hc4
        refine Ok.seq ?_
        refine Ok.region ?_
        refine Ok.batch 1 [(2, .int .i64 4)] (by kernel_rfl) ?_
        refine Ok.nil ?_
        refine Ok.thenN ?_
        refine Ok.ret ?_
        refine Ok.thenR ?_
        exact Ok.resP (vs := [.int .i64 4]) [] [] (by decide) rfl (.inl rfl) rfl (.cons (.tmp rfl) .nil) (Gext.refl w0 g) ⟨4, rfl, rfl, hF⟩
      · replace hF := hF.2 hc4
        refine Ok.skip ?_
        refine Ok.thenN ?_
        refine Ok.seq ?_
        refine Ok.region ?_
        refine Ok.batch 1 [(2, .int .i64 5)] (by kernel_rfl) ?_
        refine Ok.nil ?_
        refine Ok.thenN ?_
        refine Ok.ret ?_
        exact Ok.resP (vs := [.int .i64 5]) [] [] (by decide) rfl (.inl rfl) rfl (.cons (.tmp rfl) .nil) (Gext.refl w0 g) ⟨5, rfl, rfl, hF⟩
theorem rrank_F (g : G) : rrankF g (fun r => r = rankI g) := rank_F g
set_option linter.unusedVariables false in
theorem rrank_c {g : Ghost} (xg : List UInt8 × List UInt8 × Int × Bool × Int × Int)  : CallsG Try.prog 12 #[.agg #[.string ⟨⟨xg.1⟩⟩, .string ⟨⟨xg.2.1⟩⟩, .int .i64 xg.2.2.1, .bool xg.2.2.2.1, .int .i64 xg.2.2.2.2.1, .int .i64 xg.2.2.2.2.2]] g (.int .i64 (rankI xg)) :=
  (rrank_ok xg _ (rrank_F xg)).gives (by rintro g' H' v _ ⟨r0, rfl, rfl, hK⟩; subst hK; rfl)
def laterF (xa : List UInt8 × List UInt8 × Int × Bool × Int × Int) (xb : List UInt8 × List UInt8 × Int × Bool × Int × Int) (K : Bool → Prop) : Prop :=
  ((((rankI xa) != (rankI xb))) = true → K (decide ((rankI xa) < (rankI xb)))) ∧ ((((rankI xa) != (rankI xb))) = false → (((xa.2.2.2.2.1 != xb.2.2.2.2.1)) = true → K (decide (xa.2.2.2.2.1 < xb.2.2.2.2.1))) ∧ (((xa.2.2.2.2.1 != xb.2.2.2.2.1)) = false → K (decide (xa.2.2.2.2.2 < xb.2.2.2.2.2))))
set_option maxHeartbeats 4000000 in
set_option maxRecDepth 100000 in
set_option linter.unusedVariables false in
theorem later_ok {g : Ghost} (xa : List UInt8 × List UInt8 × Int × Bool × Int × Int) (xb : List UInt8 × List UInt8 × Int × Bool × Int × Int) (K : Bool → Prop)
    (hF : laterF xa xb K) : CallsH Try.prog 8 #[.agg #[.string ⟨⟨xa.1⟩⟩, .string ⟨⟨xa.2.1⟩⟩, .int .i64 xa.2.2.1, .bool xa.2.2.2.1, .int .i64 xa.2.2.2.2.1, .int .i64 xa.2.2.2.2.2], .agg #[.string ⟨⟨xb.1⟩⟩, .string ⟨⟨xb.2.1⟩⟩, .int .i64 xb.2.2.1, .bool xb.2.2.2.1, .int .i64 xb.2.2.2.2.1, .int .i64 xb.2.2.2.2.2]] g [] (fun g' H' v => ∃ (r0 : Bool), v = .bool r0 ∧ H' = [] ∧ K r0) := by
  refine CallsH.enter 30 [(0, .agg #[.string ⟨⟨xa.1⟩⟩, .string ⟨⟨xa.2.1⟩⟩, .int .i64 xa.2.2.1, .bool xa.2.2.2.1, .int .i64 xa.2.2.2.2.1, .int .i64 xa.2.2.2.2.2]), (1, .agg #[.string ⟨⟨xb.1⟩⟩, .string ⟨⟨xb.2.1⟩⟩, .int .i64 xb.2.2.1, .bool xb.2.2.2.1, .int .i64 xb.2.2.2.2.1, .int .i64 xb.2.2.2.2.2])] Try.func8 rfl (by kernel_rfl) (by kernel_rfl) (by kernel_rfl) fun w0 => ?_
  refine Ok.seq ?_
  refine Ok.region ?_
  refine Ok.op rfl (OpOk.box (v := .agg #[.string ⟨⟨xa.1⟩⟩, .string ⟨⟨xa.2.1⟩⟩, .int .i64 xa.2.2.1, .bool xa.2.2.2.1, .int .i64 xa.2.2.2.2.1, .int .i64 xa.2.2.2.2.2]) (cs := #[.string ⟨⟨xa.1⟩⟩, .string ⟨⟨xa.2.1⟩⟩, .int .i64 xa.2.2.1, .bool xa.2.2.2.1, .int .i64 xa.2.2.2.2.1, .int .i64 xa.2.2.2.2.2]) rfl (by kernel_rfl) rfl fun bs2 => ?_)
  refine Ok.op rfl (OpOk.box (v := .agg #[.string ⟨⟨xb.1⟩⟩, .string ⟨⟨xb.2.1⟩⟩, .int .i64 xb.2.2.1, .bool xb.2.2.2.1, .int .i64 xb.2.2.2.2.1, .int .i64 xb.2.2.2.2.2]) (cs := #[.string ⟨⟨xb.1⟩⟩, .string ⟨⟨xb.2.1⟩⟩, .int .i64 xb.2.2.1, .bool xb.2.2.2.1, .int .i64 xb.2.2.2.2.1, .int .i64 xb.2.2.2.2.2]) rfl (by kernel_rfl) rfl fun bs3 => ?_)
  refine Ok.batch 1 [(2, .pointer (some ⟨bs2, 0, none⟩)), (3, .pointer (some ⟨bs3, 0, none⟩))] (by kernel_rfl) ?_
  refine Ok.nil ?_
  refine Ok.thenN ?_
  refine Ok.seq ?_
  refine Ok.seq ?_
  refine Ok.quiet' (by kernel_rfl) (by kernel_rfl) ?_
  refine OkQ.op rfl (OpQ.step (v := .agg #[.string ⟨⟨xa.1⟩⟩, .string ⟨⟨xa.2.1⟩⟩, .int .i64 xa.2.2.1, .bool xa.2.2.2.1, .int .i64 xa.2.2.2.2.1, .int .i64 xa.2.2.2.2.2]) (Yields.loadAgg 1 6 #[.string ⟨⟨xa.1⟩⟩, .string ⟨⟨xa.2.1⟩⟩, .int .i64 xa.2.2.1, .bool xa.2.2.2.1, .int .i64 xa.2.2.2.2.1, .int .i64 xa.2.2.2.2.2] rfl rfl Try.underlying28 rfl (by kernel_rfl) (by kernel_rfl) (by kernel_rfl)) rfl rfl ?_)
  refine OkQ.op rfl (OpQ.callG (v := .int .i64 (rankI xa)) (enters (by kernel_rfl) (fun _ => by kernel_rfl)) (fun W hW => rrank_c xa) rfl ?_)
  refine OkQ.op rfl (OpQ.step (v := .agg #[.string ⟨⟨xb.1⟩⟩, .string ⟨⟨xb.2.1⟩⟩, .int .i64 xb.2.2.1, .bool xb.2.2.2.1, .int .i64 xb.2.2.2.2.1, .int .i64 xb.2.2.2.2.2]) (Yields.loadAgg 0 6 #[.string ⟨⟨xb.1⟩⟩, .string ⟨⟨xb.2.1⟩⟩, .int .i64 xb.2.2.1, .bool xb.2.2.2.1, .int .i64 xb.2.2.2.2.1, .int .i64 xb.2.2.2.2.2] rfl rfl Try.underlying28 rfl (by kernel_rfl) (by kernel_rfl) (by kernel_rfl)) rfl rfl ?_)
  refine OkQ.op rfl (OpQ.callG (v := .int .i64 (rankI xb)) (enters (by kernel_rfl) (fun _ => by kernel_rfl)) (fun W hW => rrank_c xb) rfl ?_)
  refine OkQ.batch 1 [(2, .pointer (some ⟨bs2, 0, none⟩)), (3, .pointer (some ⟨bs3, 0, none⟩)), (9, .bool ((rankI xa) != (rankI xb)))] (by kernel_rfl) ?_
  refine OkQ.nil ?_
  refine Ok.thenN ?_
  refine Ok.cond (b := ((rankI xa) != (rankI xb))) rfl (fun hc3 => ?_) (fun hc3 => ?_)
  · replace hF := hF.1 hc3
    refine Ok.seq ?_
    refine Ok.quiet' (by kernel_rfl) (by kernel_rfl) ?_
    refine OkQ.op rfl (OpQ.step (v := .agg #[.string ⟨⟨xa.1⟩⟩, .string ⟨⟨xa.2.1⟩⟩, .int .i64 xa.2.2.1, .bool xa.2.2.2.1, .int .i64 xa.2.2.2.2.1, .int .i64 xa.2.2.2.2.2]) (Yields.loadAgg 1 6 #[.string ⟨⟨xa.1⟩⟩, .string ⟨⟨xa.2.1⟩⟩, .int .i64 xa.2.2.1, .bool xa.2.2.2.1, .int .i64 xa.2.2.2.2.1, .int .i64 xa.2.2.2.2.2] rfl rfl Try.underlying28 rfl (by kernel_rfl) (by kernel_rfl) (by kernel_rfl)) rfl rfl ?_)
    refine OkQ.op rfl (OpQ.callG (v := .int .i64 (rankI xa)) (enters (by kernel_rfl) (fun _ => by kernel_rfl)) (fun W hW => rrank_c xa) rfl ?_)
    refine OkQ.op rfl (OpQ.step (v := .agg #[.string ⟨⟨xb.1⟩⟩, .string ⟨⟨xb.2.1⟩⟩, .int .i64 xb.2.2.1, .bool xb.2.2.2.1, .int .i64 xb.2.2.2.2.1, .int .i64 xb.2.2.2.2.2]) (Yields.loadAgg 0 6 #[.string ⟨⟨xb.1⟩⟩, .string ⟨⟨xb.2.1⟩⟩, .int .i64 xb.2.2.1, .bool xb.2.2.2.1, .int .i64 xb.2.2.2.2.1, .int .i64 xb.2.2.2.2.2] rfl rfl Try.underlying28 rfl (by kernel_rfl) (by kernel_rfl) (by kernel_rfl)) rfl rfl ?_)
    refine OkQ.op rfl (OpQ.callG (v := .int .i64 (rankI xb)) (enters (by kernel_rfl) (fun _ => by kernel_rfl)) (fun W hW => rrank_c xb) rfl ?_)
    refine OkQ.batch 2 [(4, .bool (decide ((rankI xa) < (rankI xb))))] (by kernel_rfl) ?_
    refine OkQ.nil ?_
    refine Ok.thenN ?_
    refine Ok.ret ?_
    refine Ok.thenR ?_
    exact Ok.resP (vs := [.bool (decide ((rankI xa) < (rankI xb)))]) [] [] (by decide) rfl (.inl rfl) rfl (.cons (.tmp rfl) .nil) (Gext.refl w0 g) ⟨(decide ((rankI xa) < (rankI xb))), rfl, rfl, hF⟩
  · replace hF := hF.2 hc3
    refine Ok.skip ?_
    refine Ok.thenN ?_
    refine Ok.seq ?_
    refine Ok.seq ?_
    refine Ok.region ?_
    refine Ok.batch 1 [(2, .pointer (some ⟨bs2, 0, none⟩)), (3, .pointer (some ⟨bs3, 0, none⟩)), (15, .pointer (some ⟨bs2, 4, none⟩))] (by kernel_rfl) ?_
    refine Ok.op rfl (OpOk.step (v := .int .i64 xa.2.2.2.2.1) (Yields.load 1 rfl rfl Try.underlying3 rfl (by kernel_rfl)) rfl rfl ?_)
    refine Ok.batch 1 [(2, .pointer (some ⟨bs2, 0, none⟩)), (3, .pointer (some ⟨bs3, 0, none⟩)), (16, .int .i64 xa.2.2.2.2.1), (17, .pointer (some ⟨bs3, 4, none⟩))] (by kernel_rfl) ?_
    refine Ok.op rfl (OpOk.step (v := .int .i64 xb.2.2.2.2.1) (Yields.load 0 rfl rfl Try.underlying3 rfl (by kernel_rfl)) rfl rfl ?_)
    refine Ok.batch 1 [(2, .pointer (some ⟨bs2, 0, none⟩)), (3, .pointer (some ⟨bs3, 0, none⟩)), (19, .bool (xa.2.2.2.2.1 != xb.2.2.2.2.1))] (by kernel_rfl) ?_
    refine Ok.nil ?_
    refine Ok.thenN ?_
    refine Ok.cond (b := (xa.2.2.2.2.1 != xb.2.2.2.2.1)) rfl (fun hc4 => ?_) (fun hc4 => ?_)
    · replace hF := hF.1 hc4
      refine Ok.seq ?_
      refine Ok.region ?_
      refine Ok.batch 1 [(3, .pointer (some ⟨bs3, 0, none⟩)), (20, .pointer (some ⟨bs2, 4, none⟩))] (by kernel_rfl) ?_
      refine Ok.op rfl (OpOk.step (v := .int .i64 xa.2.2.2.2.1) (Yields.load 1 rfl rfl Try.underlying3 rfl (by kernel_rfl)) rfl rfl ?_)
      refine Ok.batch 1 [(21, .int .i64 xa.2.2.2.2.1), (22, .pointer (some ⟨bs3, 4, none⟩))] (by kernel_rfl) ?_
      refine Ok.op rfl (OpOk.step (v := .int .i64 xb.2.2.2.2.1) (Yields.load 0 rfl rfl Try.underlying3 rfl (by kernel_rfl)) rfl rfl ?_)
      refine Ok.batch 2 [(4, .bool (decide (xa.2.2.2.2.1 < xb.2.2.2.2.1)))] (by kernel_rfl) ?_
      refine Ok.nil ?_
      refine Ok.thenN ?_
      refine Ok.ret ?_
      refine Ok.thenR ?_
      exact Ok.resP (vs := [.bool (decide (xa.2.2.2.2.1 < xb.2.2.2.2.1))]) [] [] (by decide) rfl (.inl rfl) rfl (.cons (.tmp rfl) .nil) (Gext.refl w0 g) ⟨(decide (xa.2.2.2.2.1 < xb.2.2.2.2.1)), rfl, rfl, hF⟩
    · replace hF := hF.2 hc4
      refine Ok.skip ?_
      refine Ok.thenN ?_
      refine Ok.seq ?_
      refine Ok.region ?_
      refine Ok.batch 1 [(3, .pointer (some ⟨bs3, 0, none⟩)), (25, .pointer (some ⟨bs2, 5, none⟩))] (by kernel_rfl) ?_
      refine Ok.op rfl (OpOk.step (v := .int .i64 xa.2.2.2.2.2) (Yields.load 1 rfl rfl Try.underlying3 rfl (by kernel_rfl)) rfl rfl ?_)
      refine Ok.batch 1 [(26, .int .i64 xa.2.2.2.2.2), (27, .pointer (some ⟨bs3, 5, none⟩))] (by kernel_rfl) ?_
      refine Ok.op rfl (OpOk.step (v := .int .i64 xb.2.2.2.2.2) (Yields.load 0 rfl rfl Try.underlying3 rfl (by kernel_rfl)) rfl rfl ?_)
      refine Ok.batch 2 [(4, .bool (decide (xa.2.2.2.2.2 < xb.2.2.2.2.2)))] (by kernel_rfl) ?_
      refine Ok.nil ?_
      refine Ok.thenN ?_
      refine Ok.ret ?_
      exact Ok.resP (vs := [.bool (decide (xa.2.2.2.2.2 < xb.2.2.2.2.2))]) [] [] (by decide) rfl (.inl rfl) rfl (.cons (.tmp rfl) .nil) (Gext.refl w0 g) ⟨(decide (xa.2.2.2.2.2 < xb.2.2.2.2.2)), rfl, rfl, hF⟩
def laterB (a b : G) : Bool := if ¬ rankI a = rankI b then decide (rankI a < rankI b) else if ¬ a.2.2.2.2.1 = b.2.2.2.2.1 then decide (a.2.2.2.2.1 < b.2.2.2.2.1) else decide (a.2.2.2.2.2 < b.2.2.2.2.2)
theorem later_F (a b : G) : laterF a b (fun r => r = laterB a b) := by
  unfold laterF laterB
  refine ⟨fun h => ?_, fun h => ⟨fun h2 => ?_, fun h2 => ?_⟩⟩
  · have h : ¬ rankI a = rankI b := by simpa using h
    rw [if_pos h]
  · have h : rankI a = rankI b := by simpa using h
    have h2 : ¬ a.2.2.2.2.1 = b.2.2.2.2.1 := by simpa using h2
    rw [if_neg (by simpa using h), if_pos h2]
  · have h : rankI a = rankI b := by simpa using h
    have h2 : a.2.2.2.2.1 = b.2.2.2.2.1 := by simpa using h2
    rw [if_neg (by simpa using h), if_neg (by simpa using h2)]
set_option linter.unusedVariables false in
theorem later_c {g : Ghost} (xa : List UInt8 × List UInt8 × Int × Bool × Int × Int) (xb : List UInt8 × List UInt8 × Int × Bool × Int × Int)  : CallsG Try.prog 8 #[.agg #[.string ⟨⟨xa.1⟩⟩, .string ⟨⟨xa.2.1⟩⟩, .int .i64 xa.2.2.1, .bool xa.2.2.2.1, .int .i64 xa.2.2.2.2.1, .int .i64 xa.2.2.2.2.2], .agg #[.string ⟨⟨xb.1⟩⟩, .string ⟨⟨xb.2.1⟩⟩, .int .i64 xb.2.2.1, .bool xb.2.2.2.1, .int .i64 xb.2.2.2.2.1, .int .i64 xb.2.2.2.2.2]] g (.bool (laterB xa xb)) :=
  (later_ok xa xb _ (later_F xa xb)).gives (by rintro g' H' v _ ⟨r0, rfl, rfl, hK⟩; subst hK; rfl)
def cnanF (xx : Int) (K : Bool → Prop) : Prop :=
  K (xx != xx)
set_option maxHeartbeats 4000000 in
set_option maxRecDepth 100000 in
set_option linter.unusedVariables false in
theorem cnan_ok {g : Ghost} (xx : Int) (K : Bool → Prop)
    (hF : cnanF xx K) : CallsH Try.prog 19 #[.int .i64 xx] g [] (fun g' H' v => ∃ (r0 : Bool), v = .bool r0 ∧ H' = [] ∧ K r0) := by
  refine CallsH.enter 6 [(0, .int .i64 xx)] Try.func19 rfl (by kernel_rfl) (by kernel_rfl) (by kernel_rfl) fun w0 => ?_
  refine Ok.seq ?_
  refine Ok.region ?_
  refine Ok.batch 1 [(0, .int .i64 xx)] (by kernel_rfl) ?_
  refine Ok.nil ?_
  refine Ok.thenN ?_
  refine Ok.seq ?_
  refine Ok.region ?_
  refine Ok.batch 4 [(2, .bool (xx != xx))] (by kernel_rfl) ?_
  refine Ok.nil ?_
  refine Ok.thenN ?_
  refine Ok.ret ?_
  exact Ok.resH (vs := [.bool (xx != xx)]) (.inl rfl) rfl (.cons (.tmp rfl) .nil) (Gext.refl w0 g) ⟨(xx != xx), rfl, rfl, hF⟩
def nanB (x : Int) : Bool := false
theorem cnan_F (x : Int) : cnanF x (fun r => r = nanB x) := by unfold cnanF nanB; simp
set_option linter.unusedVariables false in
theorem cnan_c {g : Ghost} (xx : Int)  : CallsG Try.prog 19 #[.int .i64 xx] g (.bool (nanB xx)) :=
  (cnan_ok xx _ (cnan_F xx)).gives (by rintro g' H' v _ ⟨r0, rfl, rfl, hK⟩; subst hK; rfl)
def ccmpF (xx : Int) (xy : Int) (K : Int → Prop) : Prop :=
  (((nanB xx)) = true → (((nanB xy)) = true → K 0) ∧ (((nanB xy)) = false → K (-1))) ∧ (((nanB xx)) = false → (((nanB xy)) = true → K 1) ∧ (((nanB xy)) = false → ((decide (xx < xy)) = true → K (-1)) ∧ ((decide (xx < xy)) = false → ((decide (xx > xy)) = true → K 1) ∧ ((decide (xx > xy)) = false → K 0))))
set_option maxHeartbeats 4000000 in
set_option maxRecDepth 100000 in
set_option linter.unusedVariables false in
theorem ccmp_ok {g : Ghost} (xx : Int) (xy : Int) (K : Int → Prop)
    (hF : ccmpF xx xy K) : CallsH Try.prog 15 #[.int .i64 xx, .int .i64 xy] g [] (fun g' H' v => ∃ (r0 : Int), v = .int .i64 r0 ∧ H' = [] ∧ K r0) := by
  refine CallsH.enter 20 [(0, .int .i64 xx), (1, .int .i64 xy)] Try.func15 rfl (by kernel_rfl) (by kernel_rfl) (by kernel_rfl) fun w0 => ?_
  refine Ok.seq ?_
  refine Ok.region ?_
  refine Ok.batch 1 [(0, .int .i64 xx), (1, .int .i64 xy)] (by kernel_rfl) ?_
  refine Ok.nil ?_
  refine Ok.thenN ?_
  refine Ok.seq ?_
  refine Ok.region ?_
  refine Ok.batch 1 [(0, .int .i64 xx), (1, .int .i64 xy), (7, .int .i64 xx)] (by kernel_rfl) ?_
  refine Ok.op rfl (OpOk.callG (v := .bool (nanB xx)) (enters (by kernel_rfl) (fun _ => by kernel_rfl)) (fun W hW => cnan_c xx) rfl ?_)
  refine Ok.batch 1 [(0, .int .i64 xx), (1, .int .i64 xy), (5, .bool (nanB xx))] (by kernel_rfl) ?_
  refine Ok.nil ?_
  refine Ok.thenN ?_
  refine Ok.seq ?_
  refine Ok.region ?_
  refine Ok.batch 1 [(0, .int .i64 xx), (1, .int .i64 xy), (5, .bool (nanB xx)), (9, .int .i64 xy)] (by kernel_rfl) ?_
  refine Ok.op rfl (OpOk.callG (v := .bool (nanB xy)) (enters (by kernel_rfl) (fun _ => by kernel_rfl)) (fun W hW => cnan_c xy) rfl ?_)
  refine Ok.batch 1 [(0, .int .i64 xx), (1, .int .i64 xy), (5, .bool (nanB xx)), (6, .bool (nanB xy))] (by kernel_rfl) ?_
  refine Ok.nil ?_
  refine Ok.thenN ?_
  refine Ok.seq ?_
  refine Ok.seq ?_
  refine Ok.region ?_
  refine Ok.batch 1 [(0, .int .i64 xx), (1, .int .i64 xy), (6, .bool (nanB xy)), (11, .bool (nanB xx))] (by kernel_rfl) ?_
  refine Ok.nil ?_
  refine Ok.thenN ?_
  refine Ok.cond (b := (nanB xx)) rfl (fun hc1 => ?_) (fun hc1 => ?_)
  · replace hF := hF.1 hc1
    refine Ok.seq ?_
    refine Ok.seq ?_
    refine Ok.region ?_
    refine Ok.batch 1 [(12, .bool (nanB xy))] (by kernel_rfl) ?_
    refine Ok.nil ?_
    refine Ok.thenN ?_
    refine Ok.cond (b := (nanB xy)) rfl (fun hc2 => ?_) (fun hc2 => ?_)
    · replace hF := hF.1 hc2
      refine Ok.seq ?_
      refine Ok.region ?_
      refine Ok.batch 1 [(4, .int .i64 0)] (by kernel_rfl) ?_
      refine Ok.nil ?_
      refine Ok.thenN ?_
      refine Ok.ret ?_
      refine Ok.thenR ?_
      refine Ok.thenR ?_
      exact Ok.resH (vs := [.int .i64 0]) (.inl rfl) rfl (.cons (.tmp rfl) .nil) (Gext.refl w0 g) ⟨0, rfl, rfl, hF⟩
    · replace hF := hF.2 hc2
      refine Ok.skip ?_
      refine Ok.thenN ?_
      refine Ok.seq ?_
      refine Ok.region ?_
      refine Ok.batch 1 [(4, .int .i64 (-1))] (by kernel_rfl) ?_
      refine Ok.nil ?_
      refine Ok.thenN ?_
      refine Ok.ret ?_
      refine Ok.thenR ?_
      exact Ok.resH (vs := [.int .i64 (-1)]) (.inl rfl) rfl (.cons (.tmp rfl) .nil) (Gext.refl w0 g) ⟨(-1), rfl, rfl, hF⟩
  · replace hF := hF.2 hc1
    refine Ok.skip ?_
    refine Ok.thenN ?_
    refine Ok.seq ?_
    refine Ok.seq ?_
    refine Ok.region ?_
    refine Ok.batch 1 [(0, .int .i64 xx), (1, .int .i64 xy), (13, .bool (nanB xy))] (by kernel_rfl) ?_
    refine Ok.nil ?_
    refine Ok.thenN ?_
    refine Ok.cond (b := (nanB xy)) rfl (fun hc3 => ?_) (fun hc3 => ?_)
    · replace hF := hF.1 hc3
      refine Ok.seq ?_
      refine Ok.region ?_
      refine Ok.batch 1 [(4, .int .i64 1)] (by kernel_rfl) ?_
      refine Ok.nil ?_
      refine Ok.thenN ?_
      refine Ok.ret ?_
      refine Ok.thenR ?_
      exact Ok.resH (vs := [.int .i64 1]) (.inl rfl) rfl (.cons (.tmp rfl) .nil) (Gext.refl w0 g) ⟨1, rfl, rfl, hF⟩
    · replace hF := hF.2 hc3
      refine Ok.skip ?_
      refine Ok.thenN ?_
      refine Ok.seq ?_
      refine Ok.seq ?_
      refine Ok.region ?_
      refine Ok.batch 3 [(0, .int .i64 xx), (1, .int .i64 xy), (16, .bool (decide (xx < xy)))] (by kernel_rfl) ?_
      refine Ok.nil ?_
      refine Ok.thenN ?_
      refine Ok.cond (b := decide (xx < xy)) rfl (fun hc4 => ?_) (fun hc4 => ?_)
      · replace hF := hF.1 hc4
        refine Ok.seq ?_
        refine Ok.region ?_
        refine Ok.batch 1 [(4, .int .i64 (-1))] (by kernel_rfl) ?_
        refine Ok.nil ?_
        refine Ok.thenN ?_
        refine Ok.ret ?_
        refine Ok.thenR ?_
        exact Ok.resH (vs := [.int .i64 (-1)]) (.inl rfl) rfl (.cons (.tmp rfl) .nil) (Gext.refl w0 g) ⟨(-1), rfl, rfl, hF⟩
      · replace hF := hF.2 hc4
        refine Ok.skip ?_
        refine Ok.thenN ?_
        refine Ok.seq ?_
        refine Ok.seq ?_
        refine Ok.region ?_
        refine Ok.batch 3 [(19, .bool (decide (xx > xy)))] (by kernel_rfl) ?_
        refine Ok.nil ?_
        refine Ok.thenN ?_
        refine Ok.cond (b := decide (xx > xy)) rfl (fun hc5 => ?_) (fun hc5 => ?_)
        · replace hF := hF.1 hc5
          refine Ok.seq ?_
          refine Ok.region ?_
          refine Ok.batch 1 [(4, .int .i64 1)] (by kernel_rfl) ?_
          refine Ok.nil ?_
          refine Ok.thenN ?_
          refine Ok.ret ?_
          refine Ok.thenR ?_
          exact Ok.resH (vs := [.int .i64 1]) (.inl rfl) rfl (.cons (.tmp rfl) .nil) (Gext.refl w0 g) ⟨1, rfl, rfl, hF⟩
        · replace hF := hF.2 hc5
          refine Ok.skip ?_
          refine Ok.thenN ?_
          refine Ok.seq ?_
          refine Ok.region ?_
          refine Ok.batch 1 [(4, .int .i64 0)] (by kernel_rfl) ?_
          refine Ok.nil ?_
          refine Ok.thenN ?_
          refine Ok.ret ?_
          exact Ok.resH (vs := [.int .i64 0]) (.inl rfl) rfl (.cons (.tmp rfl) .nil) (Gext.refl w0 g) ⟨0, rfl, rfl, hF⟩
def cmpZ (x y : Int) : Int := if x < y then -1 else if y < x then 1 else 0
theorem ccmp_F (x y : Int) : ccmpF x y (fun r => r = cmpZ x y) := by
  unfold ccmpF nanB cmpZ
  refine ⟨fun h => (by cases h), fun _ => ⟨fun h => (by cases h), fun _ => ⟨fun h => ?_, fun h => ⟨fun h2 => ?_, fun h2 => ?_⟩⟩⟩⟩
  · rw [if_pos (of_decide_eq_true h)]
  · rw [if_neg (of_decide_eq_false h), if_pos (of_decide_eq_true h2)]
  · rw [if_neg (of_decide_eq_false h), if_neg (of_decide_eq_false h2)]
set_option linter.unusedVariables false in
theorem ccmp_c {g : Ghost} (xx : Int) (xy : Int)  : CallsG Try.prog 15 #[.int .i64 xx, .int .i64 xy] g (.int .i64 (cmpZ xx xy)) :=
  (ccmp_ok xx xy _ (ccmp_F xx xy)).gives (by rintro g' H' v _ ⟨r0, rfl, rfl, hK⟩; subst hK; rfl)
def corl9b (xvals : List (Int)) (K : Int → Prop) (x8l9 : Int) (C9 : Int → Prop) : Prop :=
  ((decide (x8l9 < (xvals.length : Int))) = true → (0 : Int) ≤ x8l9 ∧ Int.toNat x8l9 < xvals.length ∧ ((((xvals.getD (Int.toNat x8l9) default) != 0)) = true → K (xvals.getD (Int.toNat x8l9) default)) ∧ ((((xvals.getD (Int.toNat x8l9) default) != 0)) = false → C9 (IntKind.wrap .i64 (x8l9 + 1)))) ∧ ((decide (x8l9 < (xvals.length : Int))) = false → K 0)
def corl9 (xvals : List (Int)) (K : Int → Prop) : Nat → Int → Prop
  | 0, _ => False
  | k + 1, x8l9 => corl9b xvals K x8l9 (corl9 xvals K k)
def corF (xvals : List (Int)) (K : Int → Prop) : Prop :=
  ∃ k, corl9 xvals K k 0
set_option maxHeartbeats 4000000 in
set_option maxRecDepth 100000 in
set_option linter.unusedVariables false in
theorem cor_ok {g : Ghost} {axvals_0 : Option Addr} {cxvals_0 : Nat} (xvals : List (Int)) (hRxvals_0 : Rep g (.slice (.int .i64)) [.slice axvals_0 xvals.length cxvals_0] xvals) (K : Int → Prop)
    (hF : corF xvals K) : CallsH Try.prog 14 #[.slice axvals_0 xvals.length cxvals_0] g [] (fun g' H' v => ∃ (r0 : Int), v = .int .i64 r0 ∧ H' = [] ∧ K r0) := by
  refine CallsH.enter 18 [(0, .slice axvals_0 xvals.length cxvals_0)] Try.func14 rfl (by kernel_rfl) (by kernel_rfl) (by kernel_rfl) fun w0 => ?_
  refine Ok.seq ?_
  refine Ok.region ?_
  refine Ok.batch 1 [(0, .slice axvals_0 xvals.length cxvals_0)] (by kernel_rfl) ?_
  refine Ok.nil ?_
  refine Ok.thenN ?_
  refine Ok.seq ?_
  refine Ok.region ?_
  refine Ok.batch 1 [(0, .slice axvals_0 xvals.length cxvals_0), (3, .int .i64 0)] (by kernel_rfl) ?_
  refine Ok.nil ?_
  refine Ok.thenN ?_
  refine Ok.seq ?_
  refine Ok.seq ?_
  refine Ok.region ?_
  refine Ok.batch 3 [(3, .int .i64 0), (6, .slice axvals_0 xvals.length cxvals_0), (7, .int .i64 (xvals.length : Int)), (8, .int .i64 0)] (by kernel_rfl) ?_
  refine Ok.nil ?_
  refine Ok.thenN ?_
  refine Ok.block ?_
  obtain ⟨k, hF⟩ := hF
  refine Ok.loop (fun k a W => ∃ (x8l9 : Int), StA 18 [(3, .int .i64 0), (6, .slice axvals_0 xvals.length cxvals_0), (7, .int .i64 (xvals.length : Int)), (8, .int .i64 x8l9)] a ∧ StW w0 [] g W ∧ corl9 xvals K k x8l9) k ?_ ?_
  ·
    exact fun a W hA hW => ⟨0, hA.sub (by kernel_rfl), hW, hF⟩
  ·
    clear hF
    rintro k9 a W ⟨x8l9, hA, hW, hF⟩
    cases k9 with
    | zero => exact (hF : False).elim
    | succ k9 =>
      refine (?_ : Ok _ _ _ _ _ _) a W hA hW
      clear hA hW
      refine Ok.seq ?_
      refine Ok.region ?_
      refine Ok.batch 1 [(3, .int .i64 0), (6, .slice axvals_0 xvals.length cxvals_0), (7, .int .i64 (xvals.length : Int)), (8, .int .i64 x8l9), (9, .bool (decide (x8l9 < (xvals.length : Int))))] (by kernel_rfl) ?_
      refine Ok.nil ?_
      refine Ok.thenN ?_
      refine Ok.seq ?_
      refine Ok.cond (b := decide (x8l9 < (xvals.length : Int))) rfl (fun hc1 => ?_) (fun hc1 => ?_)
      · replace hF := hF.1 hc1
        refine Ok.skip ?_
        refine Ok.thenN ?_
        refine Ok.seq ?_
        refine Ok.block ?_
        refine Ok.seq ?_
        refine Ok.region ?_
        obtain ⟨h03, h13, hF⟩ := hF
        have he3 := get_of (l := xvals) (default : Int) h13
        generalize hg3 : (xvals.getD (Int.toNat x8l9) default) = e3 at he3 hF ⊢
        refine Ok.op rfl (OpOk.indexRo (e := .int .i64) (i := x8l9) (el := e3) rfl rfl Try.underlying24 (by kernel_rfl) hRxvals_0 h03 he3 rfl fun q2 o2 cs2 _ hat2 hr2 => ?_)
        obtain rfl := hr2
        replace hat2 : At g q2 o2 [.int .i64 e3] := hat2
        refine Ok.op rfl (OpOk.step (v := .int .i64 e3) (Yields.loadRo 0 hat2 (by kernel_rfl) Try.underlying3 rfl (by kernel_rfl)) rfl rfl ?_)
        refine Ok.batch 1 [(3, .int .i64 0), (5, .int .i64 e3), (6, .slice axvals_0 xvals.length cxvals_0), (7, .int .i64 (xvals.length : Int)), (8, .int .i64 x8l9)] (by kernel_rfl) ?_
        refine Ok.nil ?_
        refine Ok.thenN ?_
        refine Ok.seq ?_
        refine Ok.region ?_
        refine Ok.batch 3 [(3, .int .i64 0), (5, .int .i64 e3), (6, .slice axvals_0 xvals.length cxvals_0), (7, .int .i64 (xvals.length : Int)), (8, .int .i64 x8l9), (14, .bool (e3 != 0))] (by kernel_rfl) ?_
        refine Ok.nil ?_
        refine Ok.thenN ?_
        refine Ok.cond (b := (e3 != 0)) rfl (fun hc4 => ?_) (fun hc4 => ?_)
        · replace hF := hF.1 hc4
          refine Ok.seq ?_
          refine Ok.region ?_
          refine Ok.batch 2 [(2, .int .i64 e3)] (by kernel_rfl) ?_
          refine Ok.nil ?_
          refine Ok.thenN ?_
          refine Ok.ret ?_
          refine Ok.blockR ?_
          refine Ok.thenR ?_
          refine Ok.thenR ?_
          refine Ok.blockR ?_
          refine Ok.thenR ?_
          exact Ok.resH (vs := [.int .i64 e3]) (.inl rfl) rfl (.cons (.tmp rfl) .nil) (Gext.refl w0 g) ⟨e3, rfl, rfl, hF⟩
        · replace hF := hF.2 hc4
          refine Ok.skip ?_
          refine Ok.blockN ?_
          refine Ok.thenN ?_
          refine Ok.region ?_
          refine Ok.batch 2 [(3, .int .i64 0), (6, .slice axvals_0 xvals.length cxvals_0), (7, .int .i64 (xvals.length : Int)), (8, .int .i64 (IntKind.wrap .i64 (x8l9 + 1)))] (by kernel_rfl) ?_
          refine Ok.nil ?_
          refine Ok.thenN ?_
          subst hg3
          exact fun a W hA hW => ⟨k9, Nat.lt_succ_self _, IntKind.wrap .i64 (x8l9 + 1), hA.sub (by kernel_rfl), hW, hF⟩
      · replace hF := hF.2 hc1
        refine Ok.exit ?_
        refine Ok.thenE ?_
        refine Ok.thenE ?_
        refine Ok.blockHit ?_
        refine Ok.thenN ?_
        refine Ok.seq ?_
        refine Ok.region ?_
        refine Ok.batch 2 [(2, .int .i64 0)] (by kernel_rfl) ?_
        refine Ok.nil ?_
        refine Ok.thenN ?_
        refine Ok.ret ?_
        exact Ok.resH (vs := [.int .i64 0]) (.inl rfl) rfl (.cons (.tmp rfl) .nil) (Gext.refl w0 g) ⟨0, rfl, rfl, hF⟩
def orP (l : List Int) : Prop := l.length ≤ 1000
def orZ : List Int → Int
  | [] => 0
  | x :: l => if x = 0 then orZ l else x
theorem or_step {l : List Int} {k : Nat} {x : Int} (hx : l[k]? = some x) : orZ (l.drop k) = if x = 0 then orZ (l.drop (k + 1)) else x := by
  obtain ⟨hk, rfl⟩ := List.getElem?_eq_some_iff.1 hx
  rw [List.drop_eq_getElem_cons hk]; rfl
theorem cor_loop {l : List Int} (hl : l.length ≤ 1000) : ∀ (n k : Nat), l.length < n + k → k ≤ l.length → orZ l = orZ (l.drop k) → corl9 l (fun r => r = orZ l) n k := by
  intro n
  induction n with
  | zero => intro k h1 h2; omega
  | succ n ih =>
    intro k h1 h2 hK
    show corl9b l _ k _
    unfold corl9b
    rw [show (k : Int).toNat = k by omega]
    refine ⟨fun h => ?_, fun h => ?_⟩
    · have h := of_decide_eq_true h
      obtain ⟨x, hx⟩ : ∃ x, l[k]? = some x := ⟨l[k], by simp⟩
      rw [or_step hx] at hK
      have hxd : l.getD k default = x := by rw [List.getD_eq_getElem?_getD, hx]; rfl
      rw [hxd]
      refine ⟨by omega, by omega, fun h3 => ?_, fun h3 => ?_⟩
      · rw [if_neg (by simpa using h3)] at hK; exact hK.symm
      · rw [if_pos (by simpa using h3)] at hK
        rw [w64 (by omega), show (k : Int) + 1 = ((k + 1 : Nat) : Int) by omega]
        exact ih (k + 1) (by omega) (by omega) hK
    · have h := of_decide_eq_false h
      rw [List.drop_eq_nil_of_le (by omega)] at hK; exact hK.symm
theorem cor_F (l : List Int) (h : orP l) : corF l (fun r => r = orZ l) := by
  exact ⟨l.length + 1, cor_loop h (l.length + 1) 0 (by omega) (by omega) (by rw [List.drop_zero])⟩
set_option linter.unusedVariables false in
theorem cor_c {g : Ghost} {axvals_0 : Option Addr} {cxvals_0 : Nat} (xvals : List (Int)) (hRxvals_0 : Rep g (.slice (.int .i64)) [.slice axvals_0 xvals.length cxvals_0] xvals)  (hp : orP xvals) : CallsG Try.prog 14 #[.slice axvals_0 xvals.length cxvals_0] g (.int .i64 (orZ xvals)) :=
  (cor_ok xvals hRxvals_0 _ (cor_F xvals hp)).gives (by rintro g' H' v _ ⟨r0, rfl, rfl, hK⟩; subst hK; rfl)
def compF (xa : List UInt8 × List UInt8 × Int × Bool × Int × Int) (xb : List UInt8 × List UInt8 × Int × Bool × Int × Int) (K : Int → Prop) : Prop :=
  orP ([(cmpZ (rankI xa) (rankI xb)), (cmpZ xa.2.2.2.2.1 xb.2.2.2.2.1), (cmpZ xa.2.2.2.2.2 xb.2.2.2.2.2)] : List (Int)) ∧ K (orZ ([(cmpZ (rankI xa) (rankI xb)), (cmpZ xa.2.2.2.2.1 xb.2.2.2.2.1), (cmpZ xa.2.2.2.2.2 xb.2.2.2.2.2)] : List (Int)))
set_option maxHeartbeats 4000000 in
set_option maxRecDepth 100000 in
set_option linter.unusedVariables false in
theorem comp_ok {g : Ghost} (xa : List UInt8 × List UInt8 × Int × Bool × Int × Int) (xb : List UInt8 × List UInt8 × Int × Bool × Int × Int) (K : Int → Prop)
    (hF : compF xa xb K) : CallsH Try.prog 11 #[.agg #[.string ⟨⟨xa.1⟩⟩, .string ⟨⟨xa.2.1⟩⟩, .int .i64 xa.2.2.1, .bool xa.2.2.2.1, .int .i64 xa.2.2.2.2.1, .int .i64 xa.2.2.2.2.2], .agg #[.string ⟨⟨xb.1⟩⟩, .string ⟨⟨xb.2.1⟩⟩, .int .i64 xb.2.2.1, .bool xb.2.2.2.1, .int .i64 xb.2.2.2.2.1, .int .i64 xb.2.2.2.2.2]] g [] (fun g' H' v => ∃ (r0 : Int), v = .int .i64 r0 ∧ H' = [] ∧ K r0) := by
  refine CallsH.enter 22 [(0, .agg #[.string ⟨⟨xa.1⟩⟩, .string ⟨⟨xa.2.1⟩⟩, .int .i64 xa.2.2.1, .bool xa.2.2.2.1, .int .i64 xa.2.2.2.2.1, .int .i64 xa.2.2.2.2.2]), (1, .agg #[.string ⟨⟨xb.1⟩⟩, .string ⟨⟨xb.2.1⟩⟩, .int .i64 xb.2.2.1, .bool xb.2.2.2.1, .int .i64 xb.2.2.2.2.1, .int .i64 xb.2.2.2.2.2])] Try.func11 rfl (by kernel_rfl) (by kernel_rfl) (by kernel_rfl) fun w0 => ?_
  refine Ok.seq ?_
  refine Ok.region ?_
  refine Ok.op rfl (OpOk.box (v := .agg #[.string ⟨⟨xa.1⟩⟩, .string ⟨⟨xa.2.1⟩⟩, .int .i64 xa.2.2.1, .bool xa.2.2.2.1, .int .i64 xa.2.2.2.2.1, .int .i64 xa.2.2.2.2.2]) (cs := #[.string ⟨⟨xa.1⟩⟩, .string ⟨⟨xa.2.1⟩⟩, .int .i64 xa.2.2.1, .bool xa.2.2.2.1, .int .i64 xa.2.2.2.2.1, .int .i64 xa.2.2.2.2.2]) rfl (by kernel_rfl) rfl fun bs2 => ?_)
  refine Ok.op rfl (OpOk.box (v := .agg #[.string ⟨⟨xb.1⟩⟩, .string ⟨⟨xb.2.1⟩⟩, .int .i64 xb.2.2.1, .bool xb.2.2.2.1, .int .i64 xb.2.2.2.2.1, .int .i64 xb.2.2.2.2.2]) (cs := #[.string ⟨⟨xb.1⟩⟩, .string ⟨⟨xb.2.1⟩⟩, .int .i64 xb.2.2.1, .bool xb.2.2.2.1, .int .i64 xb.2.2.2.2.1, .int .i64 xb.2.2.2.2.2]) rfl (by kernel_rfl) rfl fun bs3 => ?_)
  refine Ok.batch 1 [(2, .pointer (some ⟨bs2, 0, none⟩)), (3, .pointer (some ⟨bs3, 0, none⟩))] (by kernel_rfl) ?_
  refine Ok.nil ?_
  refine Ok.thenN ?_
  refine Ok.seq ?_
  refine Ok.mix [] [] [.blk bs3 (.cells #[.string ⟨⟨xb.1⟩⟩, .string ⟨⟨xb.2.1⟩⟩, .int .i64 xb.2.2.1, .bool xb.2.2.2.1, .int .i64 xb.2.2.2.2.1, .int .i64 xb.2.2.2.2.2] 28), .blk bs2 (.cells #[.string ⟨⟨xa.1⟩⟩, .string ⟨⟨xa.2.1⟩⟩, .int .i64 xa.2.2.1, .bool xa.2.2.2.1, .int .i64 xa.2.2.2.2.1, .int .i64 xa.2.2.2.2.2] 28)] [(0, true), (1, true), (2, true), (3, true), (4, true), (5, true), (6, true), (7, true), (8, true), (9, true), (10, true), (11, true), (12, true), (13, true), (14, true), (15, false), (16, false), (17, true)] (by kernel_rfl) (by kernel_rfl) (.cons_cons _ (.cons_cons _ .slnil)) ?_
  refine OkM.head rfl rfl (show _ = [.blk bs3 (.cells #[.string ⟨⟨xb.1⟩⟩, .string ⟨⟨xb.2.1⟩⟩, .int .i64 xb.2.2.1, .bool xb.2.2.2.1, .int .i64 xb.2.2.2.2.1, .int .i64 xb.2.2.2.2.2] 28), .blk bs2 (.cells #[.string ⟨⟨xa.1⟩⟩, .string ⟨⟨xa.2.1⟩⟩, .int .i64 xa.2.2.1, .bool xa.2.2.2.1, .int .i64 xa.2.2.2.2.1, .int .i64 xa.2.2.2.2.2] 28)] from rfl) (OpQ.step (v := .agg #[.string ⟨⟨xa.1⟩⟩, .string ⟨⟨xa.2.1⟩⟩, .int .i64 xa.2.2.1, .bool xa.2.2.2.1, .int .i64 xa.2.2.2.2.1, .int .i64 xa.2.2.2.2.2]) (Yields.loadAgg 1 6 #[.string ⟨⟨xa.1⟩⟩, .string ⟨⟨xa.2.1⟩⟩, .int .i64 xa.2.2.1, .bool xa.2.2.2.1, .int .i64 xa.2.2.2.2.1, .int .i64 xa.2.2.2.2.2] rfl rfl Try.underlying28 rfl (by kernel_rfl) (by kernel_rfl) (by kernel_rfl)) rfl rfl ?_)
  refine OkM.head rfl rfl (show _ = [.blk bs3 (.cells #[.string ⟨⟨xb.1⟩⟩, .string ⟨⟨xb.2.1⟩⟩, .int .i64 xb.2.2.1, .bool xb.2.2.2.1, .int .i64 xb.2.2.2.2.1, .int .i64 xb.2.2.2.2.2] 28), .blk bs2 (.cells #[.string ⟨⟨xa.1⟩⟩, .string ⟨⟨xa.2.1⟩⟩, .int .i64 xa.2.2.1, .bool xa.2.2.2.1, .int .i64 xa.2.2.2.2.1, .int .i64 xa.2.2.2.2.2] 28)] from rfl) (OpQ.callG (v := .int .i64 (rankI xa)) (enters (by kernel_rfl) (fun _ => by kernel_rfl)) (fun W hW => rank_c xa) rfl ?_)
  refine OkM.head rfl rfl (show _ = [.blk bs3 (.cells #[.string ⟨⟨xb.1⟩⟩, .string ⟨⟨xb.2.1⟩⟩, .int .i64 xb.2.2.1, .bool xb.2.2.2.1, .int .i64 xb.2.2.2.2.1, .int .i64 xb.2.2.2.2.2] 28), .blk bs2 (.cells #[.string ⟨⟨xa.1⟩⟩, .string ⟨⟨xa.2.1⟩⟩, .int .i64 xa.2.2.1, .bool xa.2.2.2.1, .int .i64 xa.2.2.2.2.1, .int .i64 xa.2.2.2.2.2] 28)] from rfl) (OpQ.step (v := .agg #[.string ⟨⟨xb.1⟩⟩, .string ⟨⟨xb.2.1⟩⟩, .int .i64 xb.2.2.1, .bool xb.2.2.2.1, .int .i64 xb.2.2.2.2.1, .int .i64 xb.2.2.2.2.2]) (Yields.loadAgg 0 6 #[.string ⟨⟨xb.1⟩⟩, .string ⟨⟨xb.2.1⟩⟩, .int .i64 xb.2.2.1, .bool xb.2.2.2.1, .int .i64 xb.2.2.2.2.1, .int .i64 xb.2.2.2.2.2] rfl rfl Try.underlying28 rfl (by kernel_rfl) (by kernel_rfl) (by kernel_rfl)) rfl rfl ?_)
  refine OkM.head rfl rfl (show _ = [.blk bs3 (.cells #[.string ⟨⟨xb.1⟩⟩, .string ⟨⟨xb.2.1⟩⟩, .int .i64 xb.2.2.1, .bool xb.2.2.2.1, .int .i64 xb.2.2.2.2.1, .int .i64 xb.2.2.2.2.2] 28), .blk bs2 (.cells #[.string ⟨⟨xa.1⟩⟩, .string ⟨⟨xa.2.1⟩⟩, .int .i64 xa.2.2.1, .bool xa.2.2.2.1, .int .i64 xa.2.2.2.2.1, .int .i64 xa.2.2.2.2.2] 28)] from rfl) (OpQ.callG (v := .int .i64 (rankI xb)) (enters (by kernel_rfl) (fun _ => by kernel_rfl)) (fun W hW => rank_c xb) rfl ?_)
  refine OkM.head rfl rfl (show _ = [.blk bs3 (.cells #[.string ⟨⟨xb.1⟩⟩, .string ⟨⟨xb.2.1⟩⟩, .int .i64 xb.2.2.1, .bool xb.2.2.2.1, .int .i64 xb.2.2.2.2.1, .int .i64 xb.2.2.2.2.2] 28), .blk bs2 (.cells #[.string ⟨⟨xa.1⟩⟩, .string ⟨⟨xa.2.1⟩⟩, .int .i64 xa.2.2.1, .bool xa.2.2.2.1, .int .i64 xa.2.2.2.2.1, .int .i64 xa.2.2.2.2.2] 28)] from rfl) (OpQ.callG (v := .int .i64 (cmpZ (rankI xa) (rankI xb))) (enters (by kernel_rfl) (fun _ => by kernel_rfl)) (fun W hW => ccmp_c (rankI xa) (rankI xb)) rfl ?_)
  refine OkM.batch 1 [(2, .pointer (some ⟨bs2, 0, none⟩)), (3, .pointer (some ⟨bs3, 0, none⟩)), (9, .int .i64 (cmpZ (rankI xa) (rankI xb))), (10, .pointer (some ⟨bs2, 4, none⟩))] (by kernel_rfl) ?_
  refine OkM.head rfl rfl (show _ = [.blk bs3 (.cells #[.string ⟨⟨xb.1⟩⟩, .string ⟨⟨xb.2.1⟩⟩, .int .i64 xb.2.2.1, .bool xb.2.2.2.1, .int .i64 xb.2.2.2.2.1, .int .i64 xb.2.2.2.2.2] 28), .blk bs2 (.cells #[.string ⟨⟨xa.1⟩⟩, .string ⟨⟨xa.2.1⟩⟩, .int .i64 xa.2.2.1, .bool xa.2.2.2.1, .int .i64 xa.2.2.2.2.1, .int .i64 xa.2.2.2.2.2] 28)] from rfl) (OpQ.step (v := .int .i64 xa.2.2.2.2.1) (Yields.load 1 rfl rfl Try.underlying3 rfl (by kernel_rfl)) rfl rfl ?_)
  refine OkM.batch 1 [(2, .pointer (some ⟨bs2, 0, none⟩)), (3, .pointer (some ⟨bs3, 0, none⟩)), (9, .int .i64 (cmpZ (rankI xa) (rankI xb))), (11, .int .i64 xa.2.2.2.2.1), (12, .pointer (some ⟨bs3, 4, none⟩))] (by kernel_rfl) ?_
  refine OkM.head rfl rfl (show _ = [.blk bs3 (.cells #[.string ⟨⟨xb.1⟩⟩, .string ⟨⟨xb.2.1⟩⟩, .int .i64 xb.2.2.1, .bool xb.2.2.2.1, .int .i64 xb.2.2.2.2.1, .int .i64 xb.2.2.2.2.2] 28), .blk bs2 (.cells #[.string ⟨⟨xa.1⟩⟩, .string ⟨⟨xa.2.1⟩⟩, .int .i64 xa.2.2.1, .bool xa.2.2.2.1, .int .i64 xa.2.2.2.2.1, .int .i64 xa.2.2.2.2.2] 28)] from rfl) (OpQ.step (v := .int .i64 xb.2.2.2.2.1) (Yields.load 0 rfl rfl Try.underlying3 rfl (by kernel_rfl)) rfl rfl ?_)
  refine OkM.head rfl rfl (show _ = [.blk bs3 (.cells #[.string ⟨⟨xb.1⟩⟩, .string ⟨⟨xb.2.1⟩⟩, .int .i64 xb.2.2.1, .bool xb.2.2.2.1, .int .i64 xb.2.2.2.2.1, .int .i64 xb.2.2.2.2.2] 28), .blk bs2 (.cells #[.string ⟨⟨xa.1⟩⟩, .string ⟨⟨xa.2.1⟩⟩, .int .i64 xa.2.2.1, .bool xa.2.2.2.1, .int .i64 xa.2.2.2.2.1, .int .i64 xa.2.2.2.2.2] 28)] from rfl) (OpQ.callG (v := .int .i64 (cmpZ xa.2.2.2.2.1 xb.2.2.2.2.1)) (enters (by kernel_rfl) (fun _ => by kernel_rfl)) (fun W hW => ccmp_c xa.2.2.2.2.1 xb.2.2.2.2.1) rfl ?_)
  refine OkM.batch 1 [(3, .pointer (some ⟨bs3, 0, none⟩)), (9, .int .i64 (cmpZ (rankI xa) (rankI xb))), (14, .int .i64 (cmpZ xa.2.2.2.2.1 xb.2.2.2.2.1)), (15, .pointer (some ⟨bs2, 5, none⟩))] (by kernel_rfl) ?_
  refine OkM.head rfl rfl (show _ = [.blk bs3 (.cells #[.string ⟨⟨xb.1⟩⟩, .string ⟨⟨xb.2.1⟩⟩, .int .i64 xb.2.2.1, .bool xb.2.2.2.1, .int .i64 xb.2.2.2.2.1, .int .i64 xb.2.2.2.2.2] 28), .blk bs2 (.cells #[.string ⟨⟨xa.1⟩⟩, .string ⟨⟨xa.2.1⟩⟩, .int .i64 xa.2.2.1, .bool xa.2.2.2.1, .int .i64 xa.2.2.2.2.1, .int .i64 xa.2.2.2.2.2] 28)] from rfl) (OpQ.step (v := .int .i64 xa.2.2.2.2.2) (Yields.load 1 rfl rfl Try.underlying3 rfl (by kernel_rfl)) rfl rfl ?_)
  refine OkM.batch 1 [(9, .int .i64 (cmpZ (rankI xa) (rankI xb))), (14, .int .i64 (cmpZ xa.2.2.2.2.1 xb.2.2.2.2.1)), (16, .int .i64 xa.2.2.2.2.2), (17, .pointer (some ⟨bs3, 5, none⟩))] (by kernel_rfl) ?_
  refine OkM.head rfl rfl (show _ = [.blk bs3 (.cells #[.string ⟨⟨xb.1⟩⟩, .string ⟨⟨xb.2.1⟩⟩, .int .i64 xb.2.2.1, .bool xb.2.2.2.1, .int .i64 xb.2.2.2.2.1, .int .i64 xb.2.2.2.2.2] 28), .blk bs2 (.cells #[.string ⟨⟨xa.1⟩⟩, .string ⟨⟨xa.2.1⟩⟩, .int .i64 xa.2.2.1, .bool xa.2.2.2.1, .int .i64 xa.2.2.2.2.1, .int .i64 xa.2.2.2.2.2] 28)] from rfl) (OpQ.step (v := .int .i64 xb.2.2.2.2.2) (Yields.load 0 rfl rfl Try.underlying3 rfl (by kernel_rfl)) rfl rfl ?_)
  refine OkM.head rfl rfl (show _ = [.blk bs3 (.cells #[.string ⟨⟨xb.1⟩⟩, .string ⟨⟨xb.2.1⟩⟩, .int .i64 xb.2.2.1, .bool xb.2.2.2.1, .int .i64 xb.2.2.2.2.1, .int .i64 xb.2.2.2.2.2] 28), .blk bs2 (.cells #[.string ⟨⟨xa.1⟩⟩, .string ⟨⟨xa.2.1⟩⟩, .int .i64 xa.2.2.1, .bool xa.2.2.2.1, .int .i64 xa.2.2.2.2.1, .int .i64 xa.2.2.2.2.2] 28)] from rfl) (OpQ.callG (v := .int .i64 (cmpZ xa.2.2.2.2.2 xb.2.2.2.2.2)) (enters (by kernel_rfl) (fun _ => by kernel_rfl)) (fun W hW => ccmp_c xa.2.2.2.2.2 xb.2.2.2.2.2) rfl ?_)
  have hL3 : RepL g (.int .i64) ([.int .i64 (cmpZ (rankI xa) (rankI xb)), .int .i64 (cmpZ xa.2.2.2.2.1 xb.2.2.2.2.1), .int .i64 (cmpZ xa.2.2.2.2.2 xb.2.2.2.2.2)] : List Value) ([(cmpZ (rankI xa) (rankI xb)), (cmpZ xa.2.2.2.2.1 xb.2.2.2.2.1), (cmpZ xa.2.2.2.2.2 xb.2.2.2.2.2)] : List (Int)) := (RepL.consN (c := [.int .i64 (cmpZ (rankI xa) (rankI xb))]) rfl (RepL.consN (c := [.int .i64 (cmpZ xa.2.2.2.2.1 xb.2.2.2.2.1)]) rfl (RepL.consN (c := [.int .i64 (cmpZ xa.2.2.2.2.2 xb.2.2.2.2.2)]) rfl rfl)))
  refine OkM.tail rfl rfl (OpOk.lit (E := 3) (.int .i64) ([(cmpZ (rankI xa) (rankI xb)), (cmpZ xa.2.2.2.2.1 xb.2.2.2.2.1), (cmpZ xa.2.2.2.2.2 xb.2.2.2.2.2)] : List (Int)) ([.int .i64 (cmpZ (rankI xa) (rankI xb)), .int .i64 (cmpZ xa.2.2.2.2.1 xb.2.2.2.2.1), .int .i64 (cmpZ xa.2.2.2.2.2 xb.2.2.2.2.2)] : List Value) (by kernel_rfl) (by kernel_rfl) rfl (by kernel_rfl) hL3 rfl fun b3 => ?_)
  refine OkM.leaf (i := 15) (show _ = [.blk bs3 (.cells #[.string ⟨⟨xb.1⟩⟩, .string ⟨⟨xb.2.1⟩⟩, .int .i64 xb.2.2.1, .bool xb.2.2.2.1, .int .i64 xb.2.2.2.2.1, .int .i64 xb.2.2.2.2.2] 28), .blk bs2 (.cells #[.string ⟨⟨xa.1⟩⟩, .string ⟨⟨xa.2.1⟩⟩, .int .i64 xa.2.2.1, .bool xa.2.2.2.1, .int .i64 xa.2.2.2.2.1, .int .i64 xa.2.2.2.2.2] 28)] from rfl) (Gle.refl _) (.cons _ (.cons_cons _ (.cons_cons _ .slnil))) ?_
  obtain ⟨hp4, hF⟩ := hF
  refine OkM.tail rfl rfl (OpOk.callG (v := .int .i64 (orZ ([(cmpZ (rankI xa) (rankI xb)), (cmpZ xa.2.2.2.2.1 xb.2.2.2.2.1), (cmpZ xa.2.2.2.2.2 xb.2.2.2.2.2)] : List (Int)))) (enters (by kernel_rfl) (fun _ => by kernel_rfl)) (fun W hW => cor_c ([(cmpZ (rankI xa) (rankI xb)), (cmpZ xa.2.2.2.2.1 xb.2.2.2.2.1), (cmpZ xa.2.2.2.2.2 xb.2.2.2.2.2)] : List (Int)) (hW.seeOwn 0 rfl hL3) hp4) rfl ?_)
  refine OkM.leaf (i := 16) (show _ = [.blk bs3 (.cells #[.string ⟨⟨xb.1⟩⟩, .string ⟨⟨xb.2.1⟩⟩, .int .i64 xb.2.2.1, .bool xb.2.2.2.1, .int .i64 xb.2.2.2.2.1, .int .i64 xb.2.2.2.2.2] 28), .blk bs2 (.cells #[.string ⟨⟨xa.1⟩⟩, .string ⟨⟨xa.2.1⟩⟩, .int .i64 xa.2.2.1, .bool xa.2.2.2.1, .int .i64 xa.2.2.2.2.1, .int .i64 xa.2.2.2.2.2] 28)] from rfl) (Gle.refl _) (.cons _ (.cons_cons _ (.cons_cons _ .slnil))) ?_
  refine OkM.batch 1 [(4, .int .i64 (orZ ([(cmpZ (rankI xa) (rankI xb)), (cmpZ xa.2.2.2.2.1 xb.2.2.2.2.1), (cmpZ xa.2.2.2.2.2 xb.2.2.2.2.2)] : List (Int))))] (by kernel_rfl) ?_
  refine OkM.nil ?_
  refine Ok.thenN ?_
  refine Ok.ret ?_
  exact Ok.resP (vs := [.int .i64 (orZ ([(cmpZ (rankI xa) (rankI xb)), (cmpZ xa.2.2.2.2.1 xb.2.2.2.2.1), (cmpZ xa.2.2.2.2.2 xb.2.2.2.2.2)] : List (Int)))]) [] [] (by decide) rfl (.inl rfl) rfl (.cons (.tmp rfl) .nil) (Gext.refl w0 g) ⟨(orZ ([(cmpZ (rankI xa) (rankI xb)), (cmpZ xa.2.2.2.2.1 xb.2.2.2.2.1), (cmpZ xa.2.2.2.2.2 xb.2.2.2.2.2)] : List (Int))), rfl, rfl, hF⟩
def compZ (a b : G) : Int := orZ [cmpZ (rankI a) (rankI b), cmpZ a.2.2.2.2.1 b.2.2.2.2.1, cmpZ a.2.2.2.2.2 b.2.2.2.2.2]
theorem comp_F (a b : G) : compF a b (fun r => r = compZ a b) := by
  exact ⟨by unfold orP; simp, rfl⟩
set_option linter.unusedVariables false in
theorem comp_c {g : Ghost} (xa : List UInt8 × List UInt8 × Int × Bool × Int × Int) (xb : List UInt8 × List UInt8 × Int × Bool × Int × Int)  : CallsG Try.prog 11 #[.agg #[.string ⟨⟨xa.1⟩⟩, .string ⟨⟨xa.2.1⟩⟩, .int .i64 xa.2.2.1, .bool xa.2.2.2.1, .int .i64 xa.2.2.2.2.1, .int .i64 xa.2.2.2.2.2], .agg #[.string ⟨⟨xb.1⟩⟩, .string ⟨⟨xb.2.1⟩⟩, .int .i64 xb.2.2.1, .bool xb.2.2.2.1, .int .i64 xb.2.2.2.2.1, .int .i64 xb.2.2.2.2.2]] g (.int .i64 (compZ xa xb)) :=
  (comp_ok xa xb _ (comp_F xa xb)).gives (by rintro g' H' v _ ⟨r0, rfl, rfl, hK⟩; subst hK; rfl)
theorem comp_later (a b : G) : compZ a b < 0 ↔ laterB a b = true := by
  unfold compZ orZ orZ orZ orZ cmpZ laterB
  repeat' split
  all_goals simp
  all_goals omega
def lessF (xa : List UInt8 × List UInt8 × Int × Bool × Int × Int) (xb : List UInt8 × List UInt8 × Int × Bool × Int × Int) (K : Bool → Prop) : Prop :=
  K (decide ((compZ xa xb) < 0))
set_option maxHeartbeats 4000000 in
set_option maxRecDepth 100000 in
set_option linter.unusedVariables false in
theorem less_ok {g : Ghost} (xa : List UInt8 × List UInt8 × Int × Bool × Int × Int) (xb : List UInt8 × List UInt8 × Int × Bool × Int × Int) (K : Bool → Prop)
    (hF : lessF xa xb K) : CallsH Try.prog 7 #[.agg #[.string ⟨⟨xa.1⟩⟩, .string ⟨⟨xa.2.1⟩⟩, .int .i64 xa.2.2.1, .bool xa.2.2.2.1, .int .i64 xa.2.2.2.2.1, .int .i64 xa.2.2.2.2.2], .agg #[.string ⟨⟨xb.1⟩⟩, .string ⟨⟨xb.2.1⟩⟩, .int .i64 xb.2.2.1, .bool xb.2.2.2.1, .int .i64 xb.2.2.2.2.1, .int .i64 xb.2.2.2.2.2]] g [] (fun g' H' v => ∃ (r0 : Bool), v = .bool r0 ∧ H' = [] ∧ K r0) := by
  refine CallsH.enter 9 [(0, .agg #[.string ⟨⟨xa.1⟩⟩, .string ⟨⟨xa.2.1⟩⟩, .int .i64 xa.2.2.1, .bool xa.2.2.2.1, .int .i64 xa.2.2.2.2.1, .int .i64 xa.2.2.2.2.2]), (1, .agg #[.string ⟨⟨xb.1⟩⟩, .string ⟨⟨xb.2.1⟩⟩, .int .i64 xb.2.2.1, .bool xb.2.2.2.1, .int .i64 xb.2.2.2.2.1, .int .i64 xb.2.2.2.2.2])] Try.func7 rfl (by kernel_rfl) (by kernel_rfl) (by kernel_rfl) fun w0 => ?_
  refine Ok.seq ?_
  refine Ok.region ?_
  refine Ok.op rfl (OpOk.box (v := .agg #[.string ⟨⟨xa.1⟩⟩, .string ⟨⟨xa.2.1⟩⟩, .int .i64 xa.2.2.1, .bool xa.2.2.2.1, .int .i64 xa.2.2.2.2.1, .int .i64 xa.2.2.2.2.2]) (cs := #[.string ⟨⟨xa.1⟩⟩, .string ⟨⟨xa.2.1⟩⟩, .int .i64 xa.2.2.1, .bool xa.2.2.2.1, .int .i64 xa.2.2.2.2.1, .int .i64 xa.2.2.2.2.2]) rfl (by kernel_rfl) rfl fun bs2 => ?_)
  refine Ok.op rfl (OpOk.box (v := .agg #[.string ⟨⟨xb.1⟩⟩, .string ⟨⟨xb.2.1⟩⟩, .int .i64 xb.2.2.1, .bool xb.2.2.2.1, .int .i64 xb.2.2.2.2.1, .int .i64 xb.2.2.2.2.2]) (cs := #[.string ⟨⟨xb.1⟩⟩, .string ⟨⟨xb.2.1⟩⟩, .int .i64 xb.2.2.1, .bool xb.2.2.2.1, .int .i64 xb.2.2.2.2.1, .int .i64 xb.2.2.2.2.2]) rfl (by kernel_rfl) rfl fun bs3 => ?_)
  refine Ok.batch 1 [(2, .pointer (some ⟨bs2, 0, none⟩)), (3, .pointer (some ⟨bs3, 0, none⟩))] (by kernel_rfl) ?_
  refine Ok.nil ?_
  refine Ok.thenN ?_
  refine Ok.seq ?_
  refine Ok.region ?_
  refine Ok.op rfl (OpOk.step (v := .agg #[.string ⟨⟨xa.1⟩⟩, .string ⟨⟨xa.2.1⟩⟩, .int .i64 xa.2.2.1, .bool xa.2.2.2.1, .int .i64 xa.2.2.2.2.1, .int .i64 xa.2.2.2.2.2]) (Yields.loadAgg 1 6 #[.string ⟨⟨xa.1⟩⟩, .string ⟨⟨xa.2.1⟩⟩, .int .i64 xa.2.2.1, .bool xa.2.2.2.1, .int .i64 xa.2.2.2.2.1, .int .i64 xa.2.2.2.2.2] rfl rfl Try.underlying28 rfl (by kernel_rfl) (by kernel_rfl) (by kernel_rfl)) rfl rfl ?_)
  refine Ok.op rfl (OpOk.step (v := .agg #[.string ⟨⟨xb.1⟩⟩, .string ⟨⟨xb.2.1⟩⟩, .int .i64 xb.2.2.1, .bool xb.2.2.2.1, .int .i64 xb.2.2.2.2.1, .int .i64 xb.2.2.2.2.2]) (Yields.loadAgg 0 6 #[.string ⟨⟨xb.1⟩⟩, .string ⟨⟨xb.2.1⟩⟩, .int .i64 xb.2.2.1, .bool xb.2.2.2.1, .int .i64 xb.2.2.2.2.1, .int .i64 xb.2.2.2.2.2] rfl rfl Try.underlying28 rfl (by kernel_rfl) (by kernel_rfl) (by kernel_rfl)) rfl rfl ?_)
  refine Ok.op rfl (OpOk.callG (v := .int .i64 (compZ xa xb)) (enters (by kernel_rfl) (fun _ => by kernel_rfl)) (fun W hW => comp_c xa xb) rfl ?_)
  refine Ok.batch 2 [(4, .bool (decide ((compZ xa xb) < 0)))] (by kernel_rfl) ?_
  refine Ok.nil ?_
  refine Ok.thenN ?_
  refine Ok.ret ?_
  exact Ok.resP (vs := [.bool (decide ((compZ xa xb) < 0))]) [] [] (by decide) rfl (.inl rfl) rfl (.cons (.tmp rfl) .nil) (Gext.refl w0 g) ⟨(decide ((compZ xa xb) < 0)), rfl, rfl, hF⟩
theorem less_F (a b : G) : lessF a b (fun r => r = laterB a b) := by
  unfold lessF
  show decide (compZ a b < 0) = laterB a b
  have := comp_later a b
  cases h : laterB a b
  · rw [h] at this; simpa using this
  · rw [h] at this; simpa using this
set_option linter.unusedVariables false in
theorem less_c {g : Ghost} (xa : List UInt8 × List UInt8 × Int × Bool × Int × Int) (xb : List UInt8 × List UInt8 × Int × Bool × Int × Int)  : CallsG Try.prog 7 #[.agg #[.string ⟨⟨xa.1⟩⟩, .string ⟨⟨xa.2.1⟩⟩, .int .i64 xa.2.2.1, .bool xa.2.2.2.1, .int .i64 xa.2.2.2.2.1, .int .i64 xa.2.2.2.2.2], .agg #[.string ⟨⟨xb.1⟩⟩, .string ⟨⟨xb.2.1⟩⟩, .int .i64 xb.2.2.1, .bool xb.2.2.2.1, .int .i64 xb.2.2.2.2.1, .int .i64 xb.2.2.2.2.2]] g (.bool (laterB xa xb)) :=
  (less_ok xa xb _ (less_F xa xb)).gives (by rintro g' H' v _ ⟨r0, rfl, rfl, hK⟩; subst hK; rfl)
def co1F (xi : Int) (xk : Int) (x2 : List (List UInt8 × List UInt8 × Int × Bool × Int × Int)) (K : Int → Prop) : Prop :=
  (0 : Int) ≤ xi ∧ Int.toNat xi < x2.length ∧ (0 : Int) ≤ xk ∧ Int.toNat xk < x2.length ∧ K (compZ (x2.getD (Int.toNat xi) default) (x2.getD (Int.toNat xk) default))
set_option maxHeartbeats 4000000 in
set_option maxRecDepth 100000 in
set_option linter.unusedVariables false in
theorem co1_ok {g : Ghost} (xi : Int) (xk : Int) {bx2 ox2 : Nat} (x2 : List (List UInt8 × List UInt8 × Int × Bool × Int × Int)) (hPx2 : PtrTo g (.slice (.pair (.str) (.pair (.str) (.pair (.int .i64) (.pair (.bool) (.pair (.int .i64) (.int .i64))))))) bx2 ox2 x2) (K : Int → Prop)
    (hF : co1F xi xk x2 K) : CallsH Try.prog 10 #[.int .i64 xi, .int .i64 xk, .pointer (some ⟨bx2, ox2, none⟩)] g [] (fun g' H' v => ∃ (r0 : Int), v = .int .i64 r0 ∧ H' = [] ∧ K r0) := by
  refine CallsH.enter 15 [(0, .int .i64 xi), (1, .int .i64 xk), (2, .pointer (some ⟨bx2, ox2, none⟩))] Try.func10 rfl (by kernel_rfl) (by kernel_rfl) (by kernel_rfl) fun w0 => ?_
  obtain ⟨csx2, _, hatx2, hrx2⟩ := hPx2
  obtain ⟨ax2_0, cx2_0, rfl, hmx2_0, hrx2_0⟩ := hrx2
  have hRx2_0 : Rep g (.slice (.pair (.str) (.pair (.str) (.pair (.int .i64) (.pair (.bool) (.pair (.int .i64) (.int .i64))))))) [.slice ax2_0 x2.length cx2_0] x2 := ⟨ax2_0, cx2_0, rfl, hmx2_0, hrx2_0⟩
  replace hatx2 : At g bx2 ox2 [.slice ax2_0 x2.length cx2_0] := hatx2
  refine Ok.seq ?_
  refine Ok.region ?_
  refine Ok.batch 1 [(0, .int .i64 xi), (1, .int .i64 xk), (2, .pointer (some ⟨bx2, ox2, none⟩))] (by kernel_rfl) ?_
  refine Ok.nil ?_
  refine Ok.thenN ?_
  refine Ok.seq ?_
  refine Ok.quiet' (by kernel_rfl) (by kernel_rfl) ?_
  refine OkQ.op rfl (OpQ.step (v := .slice ax2_0 x2.length cx2_0) (Yields.loadRo 0 hatx2 (by kernel_rfl) Try.underlying22 rfl (by kernel_rfl)) rfl rfl ?_)
  refine OkQ.batch 1 [(1, .int .i64 xk), (2, .pointer (some ⟨bx2, ox2, none⟩)), (6, .slice ax2_0 x2.length cx2_0), (7, .int .i64 xi)] (by kernel_rfl) ?_
  obtain ⟨h02, h12, hF⟩ := hF
  have he2 := get_of (l := x2) (default : List UInt8 × List UInt8 × Int × Bool × Int × Int) h12
  generalize hg2 : (x2.getD (Int.toNat xi) default) = e2 at he2 hF ⊢
  refine OkQ.op rfl (OpQ.indexRo (e := .pair (.str) (.pair (.str) (.pair (.int .i64) (.pair (.bool) (.pair (.int .i64) (.int .i64)))))) (i := xi) (el := e2) rfl rfl Try.underlying22 (by kernel_rfl) hRx2_0 h02 he2 rfl fun q1 o1 cs1 _ hat1 hr1 => ?_)
  obtain ⟨_, _, rfl, rfl, ⟨_, _, rfl, rfl, ⟨_, _, rfl, rfl, ⟨_, _, rfl, rfl, ⟨_, _, rfl, rfl, rfl⟩⟩⟩⟩⟩ := hr1
  replace hat1 : At g q1 o1 [.string ⟨⟨e2.1⟩⟩, .string ⟨⟨e2.2.1⟩⟩, .int .i64 e2.2.2.1, .bool e2.2.2.2.1, .int .i64 e2.2.2.2.2.1, .int .i64 e2.2.2.2.2.2] := hat1
  refine OkQ.op rfl (OpQ.step (v := .agg #[.string ⟨⟨e2.1⟩⟩, .string ⟨⟨e2.2.1⟩⟩, .int .i64 e2.2.2.1, .bool e2.2.2.2.1, .int .i64 e2.2.2.2.2.1, .int .i64 e2.2.2.2.2.2]) (Yields.loadAggRo 0 6 #[.string ⟨⟨e2.1⟩⟩, .string ⟨⟨e2.2.1⟩⟩, .int .i64 e2.2.2.1, .bool e2.2.2.2.1, .int .i64 e2.2.2.2.2.1, .int .i64 e2.2.2.2.2.2] hat1 (by kernel_rfl) Try.underlying28 rfl (by kernel_rfl) (by kernel_rfl) (by kernel_rfl)) rfl rfl ?_)
  refine OkQ.op rfl (OpQ.step (v := .slice ax2_0 x2.length cx2_0) (Yields.loadRo 0 hatx2 (by kernel_rfl) Try.underlying22 rfl (by kernel_rfl)) rfl rfl ?_)
  refine OkQ.batch 1 [(9, .agg #[.string ⟨⟨e2.1⟩⟩, .string ⟨⟨e2.2.1⟩⟩, .int .i64 e2.2.2.1, .bool e2.2.2.2.1, .int .i64 e2.2.2.2.2.1, .int .i64 e2.2.2.2.2.2]), (10, .slice ax2_0 x2.length cx2_0), (11, .int .i64 xk)] (by kernel_rfl) ?_
  obtain ⟨h04, h14, hF⟩ := hF
  have he4 := get_of (l := x2) (default : List UInt8 × List UInt8 × Int × Bool × Int × Int) h14
  generalize hg4 : (x2.getD (Int.toNat xk) default) = e4 at he4 hF ⊢
  refine OkQ.op rfl (OpQ.indexRo (e := .pair (.str) (.pair (.str) (.pair (.int .i64) (.pair (.bool) (.pair (.int .i64) (.int .i64)))))) (i := xk) (el := e4) rfl rfl Try.underlying22 (by kernel_rfl) hRx2_0 h04 he4 rfl fun q3 o3 cs3 _ hat3 hr3 => ?_)
  obtain ⟨_, _, rfl, rfl, ⟨_, _, rfl, rfl, ⟨_, _, rfl, rfl, ⟨_, _, rfl, rfl, ⟨_, _, rfl, rfl, rfl⟩⟩⟩⟩⟩ := hr3
  replace hat3 : At g q3 o3 [.string ⟨⟨e4.1⟩⟩, .string ⟨⟨e4.2.1⟩⟩, .int .i64 e4.2.2.1, .bool e4.2.2.2.1, .int .i64 e4.2.2.2.2.1, .int .i64 e4.2.2.2.2.2] := hat3
  refine OkQ.op rfl (OpQ.step (v := .agg #[.string ⟨⟨e4.1⟩⟩, .string ⟨⟨e4.2.1⟩⟩, .int .i64 e4.2.2.1, .bool e4.2.2.2.1, .int .i64 e4.2.2.2.2.1, .int .i64 e4.2.2.2.2.2]) (Yields.loadAggRo 0 6 #[.string ⟨⟨e4.1⟩⟩, .string ⟨⟨e4.2.1⟩⟩, .int .i64 e4.2.2.1, .bool e4.2.2.2.1, .int .i64 e4.2.2.2.2.1, .int .i64 e4.2.2.2.2.2] hat3 (by kernel_rfl) Try.underlying28 rfl (by kernel_rfl) (by kernel_rfl) (by kernel_rfl)) rfl rfl ?_)
  refine OkQ.op rfl (OpQ.callG (v := .int .i64 (compZ e2 e4)) (enters (by kernel_rfl) (fun _ => by kernel_rfl)) (fun W hW => comp_c e2 e4) rfl ?_)
  refine OkQ.batch 1 [(5, .int .i64 (compZ e2 e4))] (by kernel_rfl) ?_
  refine OkQ.nil ?_
  refine Ok.thenN ?_
  refine Ok.ret ?_
  exact Ok.resH (vs := [.int .i64 (compZ e2 e4)]) (.inl rfl) rfl (.cons (.tmp rfl) .nil) (Gext.refl w0 g) ⟨(compZ e2 e4), rfl, rfl, hF⟩
def co1S (i k : Int) (l : List G) : Int := compZ (l.getD i.toNat default) (l.getD k.toNat default)
def co1P (i k : Int) (l : List G) : Prop := (0 ≤ i ∧ i < l.length) ∧ 0 ≤ k ∧ k < l.length
theorem co1_F (i k : Int) (l : List G) (hp : co1P i k l) : co1F i k l (fun r => r = co1S i k l) := by
  obtain ⟨⟨h1, h2⟩, h3, h4⟩ := hp
  exact ⟨h1, by omega, h3, by omega, rfl⟩
set_option linter.unusedVariables false in
theorem co1_c {g : Ghost} (xi : Int) (xk : Int) {bx2 ox2 : Nat} (x2 : List (List UInt8 × List UInt8 × Int × Bool × Int × Int)) (hPx2 : PtrTo g (.slice (.pair (.str) (.pair (.str) (.pair (.int .i64) (.pair (.bool) (.pair (.int .i64) (.int .i64))))))) bx2 ox2 x2)  (hp : co1P xi xk x2) : CallsG Try.prog 10 #[.int .i64 xi, .int .i64 xk, .pointer (some ⟨bx2, ox2, none⟩)] g (.int .i64 (co1S xi xk x2)) :=
  (co1_ok xi xk x2 hPx2 _ (co1_F xi xk x2 hp)).gives (by rintro g' H' v _ ⟨r0, rfl, rfl, hK⟩; subst hK; rfl)
theorem le_trans' {a b c : G} (h : laterB b a = false) (h2 : laterB c b = false) : laterB c a = false := by
  unfold laterB at *
  repeat' split at h
  all_goals repeat' split at h2
  all_goals repeat' split
  all_goals simp_all
  all_goals omega
theorem later_asymm {a b : G} (h : laterB a b = true) : laterB b a = false := by
  unfold laterB at *
  repeat' split at h
  all_goals repeat' split
  all_goals simp_all
  all_goals omega
def oc (l : List G) : Int → Int → Int := fun y0 y1 => co1S y0 y1 l
theorem oc_at (l : List G) (x y : Int) : ltc (oc l) x y = laterB (l.getD x.toNat default) (l.getD y.toNat default) := by
  show decide (compZ (l.getD x.toNat default) (l.getD y.toNat default) < 0) = _
  have := comp_later (l.getD x.toNat default) (l.getD y.toNat default)
  cases h : laterB (l.getD x.toNat default) (l.getD y.toNat default)
  · rw [h] at this; simpa using this
  · rw [h] at this; simpa using this
theorem oc_wk (l : List G) : Wk (ltc (oc l)) where
  asym := fun h => by rw [oc_at] at h ⊢; exact later_asymm h
  neg := fun h h2 => by rw [oc_at] at h h2 ⊢; exact le_trans' h2 h
theorem gdE {l : List Int} {k : Nat} (h : k < l.length) : l.getD k default = l[k] := by rw [List.getD_eq_getElem?_getD, List.getElem?_eq_getElem h]; rfl
def ixs : Nat → List Int
  | 0 => []
  | n + 1 => ixs n ++ [(n : Int)]
theorem ixs_len : ∀ n, (ixs n).length = n
  | 0 => rfl
  | n + 1 => by unfold ixs; rw [List.length_append, ixs_len n]; rfl
theorem ixs_in : ∀ n, ∀ x ∈ ixs n, 0 ≤ x ∧ x < (n : Int)
  | 0, x, h => by cases h
  | n + 1, x, h => by
    unfold ixs at h
    rcases List.mem_append.1 h with h | h
    · have := ixs_in n x h; omega
    · rw [List.mem_singleton] at h; omega
def ordN (l : List G) (n : Nat) : List Int := ins (ltc (oc l)) (ixs n)
def orderP (l : List G) : Prop := l.length ≤ 1000
def orderI (l : List G) : List Int := ordN l l.length
theorem ordN_len (l : List G) (n : Nat) : (ordN l n).length = n := by
  unfold ordN; rw [(ins_perm _).length_eq, ixs_len]
theorem ordN_in (l : List G) (n : Nat) : ∀ x ∈ ordN l n, 0 ≤ x ∧ x < (n : Int) := fun x h => ixs_in n x ((ins_perm _).mem_iff.1 h)
theorem ordN_succ (l : List G) (n : Nat) : ordN l (n + 1) = mrg (ltc (oc l)) (ordN l n) [(n : Int)] := by
  unfold ordN ins
  show List.foldl _ _ (ixs n ++ [(n : Int)]) = _
  rw [List.foldl_append]; rfl
theorem ordN_srt (l : List G) (n : Nat) : Srt (ltc (oc l)) (ordN l n) := ins_srt (oc_wk l) _
/-- where the scan from behind ends -/
theorem ordN_put {l : List G} {n k : Nat} (h0 : k = 0 ∨ ltc (oc l) (n : Int) ((ordN l n).getD (k - 1) default) = false) (hk : k ≤ n)
    (h2 : ∀ a ∈ (ordN l n).drop k, ltc (oc l) (n : Int) a = true) : (ordN l n).take k ++ [(n : Int)] ++ (ordN l n).drop k = ordN l (n + 1) := by
  have hs := ordN_srt l n
  have hlen := ordN_len l n
  have h1 : ∀ a ∈ (ordN l n).take k, ltc (oc l) (n : Int) a = false := by
    intro a ha
    rcases h0 with rfl | h0
    · rw [List.take_zero] at ha; cases ha
    · obtain ⟨j, hj, rfl⟩ := List.mem_iff_getElem.1 ha
      rw [List.length_take] at hj
      rw [List.getElem_take]
      rw [gdE (by omega)] at h0
      by_cases hjk : j = k - 1
      · subst hjk; exact h0
      · exact (oc_wk l).neg h0 (List.pairwise_iff_getElem.1 hs j (k - 1) (by omega) (by omega) (by omega))
  rw [ordN_succ]
  have := mrg_one (lt := ltc (oc l)) ((ordN l n).take k) ((ordN l n).drop k) (n : Int) h1 h2
  rw [List.take_append_drop] at this
  rw [this, List.append_assoc]; rfl
def orderV3 (xl : List (List UInt8 × List UInt8 × Int × Bool × Int × Int)) (x5l22 : Int) (x4l9 : Int) (yown1_0l9 : List (Int)) : Bool :=
  ((decide (x5l22 > 0)) && (laterB (xl.getD (Int.toNat x4l9) default) (xl.getD (Int.toNat (yown1_0l9.getD (Int.toNat (IntKind.wrap .i64 (x5l22 - 1))) default)) default)))
def orderj24 (xl : List (List UInt8 × List UInt8 × Int × Bool × Int × Int)) (x5l22 : Int) (x4l9 : Int) (yown1_0l9 : List (Int)) (C9 : Int → (List (Int)) → Prop) (C22 : Int → Prop) : Prop :=
  (((orderV3 xl x5l22 x4l9 yown1_0l9)) = true → C22 (IntKind.wrap .i64 (x5l22 - 1))) ∧ (((orderV3 xl x5l22 x4l9 yown1_0l9)) = false → (0 : Int) ≤ 0 ∧ (0 : Int) ≤ x5l22 ∧ x5l22 ≤ (yown1_0l9.length : Int) ∧ (([] : List (Int)) ++ (yown1_0l9.take (Int.toNat x5l22))).length ≤ 17592186044416 ∧ ((([] : List (Int)) ++ (yown1_0l9.take (Int.toNat x5l22))) ++ ([x4l9] : List (Int))).length ≤ 17592186044416 ∧ (0 : Int) ≤ x5l22 ∧ (x5l22 : Int) ≤ (yown1_0l9.length : Int) ∧ (yown1_0l9.length : Int) ≤ (yown1_0l9.length : Int) ∧ (((([] : List (Int)) ++ (yown1_0l9.take (Int.toNat x5l22))) ++ ([x4l9] : List (Int))) ++ (yown1_0l9.drop (Int.toNat x5l22))).length ≤ 17592186044416 ∧ C9 (IntKind.wrap .i64 (x4l9 + 1)) (((([] : List (Int)) ++ (yown1_0l9.take (Int.toNat x5l22))) ++ ([x4l9] : List (Int))) ++ (yown1_0l9.drop (Int.toNat x5l22))))
def orderl22b (xl : List (List UInt8 × List UInt8 × Int × Bool × Int × Int)) (x4l9 : Int) (yown1_0l9 : List (Int)) (C9 : Int → (List (Int)) → Prop) (x5l22 : Int) (C22 : Int → Prop) : Prop :=
  ((decide (x5l22 > 0)) = true → (0 : Int) ≤ x4l9 ∧ Int.toNat x4l9 < xl.length ∧ (0 : Int) ≤ (IntKind.wrap .i64 (x5l22 - 1)) ∧ Int.toNat (IntKind.wrap .i64 (x5l22 - 1)) < yown1_0l9.length ∧ (0 : Int) ≤ (yown1_0l9.getD (Int.toNat (IntKind.wrap .i64 (x5l22 - 1))) default) ∧ Int.toNat (yown1_0l9.getD (Int.toNat (IntKind.wrap .i64 (x5l22 - 1))) default) < xl.length ∧ orderj24 xl x5l22 x4l9 yown1_0l9 C9 C22) ∧ ((decide (x5l22 > 0)) = false → orderj24 xl x5l22 x4l9 yown1_0l9 C9 C22)
def orderl22 (xl : List (List UInt8 × List UInt8 × Int × Bool × Int × Int)) (x4l9 : Int) (yown1_0l9 : List (Int)) (C9 : Int → (List (Int)) → Prop) : Nat → Int → Prop
  | 0, _ => False
  | k + 1, x5l22 => orderl22b xl x4l9 yown1_0l9 C9 x5l22 (orderl22 xl x4l9 yown1_0l9 C9 k)
def orderl9b (xl : List (List UInt8 × List UInt8 × Int × Bool × Int × Int)) (K : (List (Int)) → Prop) (x4l9 : Int) (yown1_0l9 : List (Int)) (C9 : Int → (List (Int)) → Prop) : Prop :=
  ((decide (x4l9 < (xl.length : Int))) = true → ∃ k, orderl22 xl x4l9 yown1_0l9 C9 k (yown1_0l9.length : Int)) ∧ ((decide (x4l9 < (xl.length : Int))) = false → K yown1_0l9)
def orderl9 (xl : List (List UInt8 × List UInt8 × Int × Bool × Int × Int)) (K : (List (Int)) → Prop) : Nat → Int → (List (Int)) → Prop
  | 0, _, _ => False
  | k + 1, x4l9, yown1_0l9 => orderl9b xl K x4l9 yown1_0l9 (orderl9 xl K k)
def orderF (xl : List (List UInt8 × List UInt8 × Int × Bool × Int × Int)) (K : (List (Int)) → Prop) : Prop :=
  ∃ k, orderl9 xl K k 0 ([] : List (Int))
set_option maxHeartbeats 4000000 in
set_option maxRecDepth 100000 in
set_option linter.unusedVariables false in
theorem order_ok {g : Ghost} {axl_0 : Option Addr} {cxl_0 : Nat} (xl : List (List UInt8 × List UInt8 × Int × Bool × Int × Int)) (hRxl_0 : Rep g (.slice (.pair (.str) (.pair (.str) (.pair (.int .i64) (.pair (.bool) (.pair (.int .i64) (.int .i64))))))) [.slice axl_0 xl.length cxl_0] xl) (K : (List (Int)) → Prop)
    (hF : orderF xl K) : CallsH Try.prog 6 #[.slice axl_0 xl.length cxl_0] g [] (fun g' H' v => ∃ (r0 : List (Int)), ∃ (ar0_0 : Option Addr) (cr0_0 : Nat), v = .slice ar0_0 r0.length cr0_0 ∧ Rep g' (.slice (.int .i64)) [.slice ar0_0 r0.length cr0_0] r0 ∧ H' = [] ∧ K r0) := by
  refine CallsH.enter 49 [(0, .slice axl_0 xl.length cxl_0)] Try.func6 rfl (by kernel_rfl) (by kernel_rfl) (by kernel_rfl) fun w0 => ?_
  refine Ok.seq ?_
  refine Ok.region ?_
  refine Ok.batch 1 [(0, .slice axl_0 xl.length cxl_0)] (by kernel_rfl) ?_
  refine Ok.nil ?_
  refine Ok.thenN ?_
  refine Ok.seq ?_
  refine Ok.region ?_
  refine Ok.batch 1 [(0, .slice axl_0 xl.length cxl_0), (3, .slice none 0 0)] (by kernel_rfl) ?_
  have hL1 : RepL g (.int .i64) [] [] := rfl
  refine Ok.ownNil 3 1 ?_
  refine Ok.nil ?_
  refine Ok.thenN ?_
  refine Ok.seq ?_
  refine Ok.seq ?_
  refine Ok.region ?_
  refine Ok.batch 1 [(0, .slice axl_0 xl.length cxl_0), (3, .slice none ([] : List (Int)).length 0), (4, .int .i64 0)] (by kernel_rfl) ?_
  refine Ok.nil ?_
  refine Ok.thenN ?_
  refine Ok.block ?_
  obtain ⟨k, hF⟩ := hF
  refine Ok.loop (fun k a W => ∃ gl9 : Ghost, Gext w0 g gl9 ∧ ∃ (x4l9 : Int) (ayown1_0l9 : Option Addr) (cyown1_0l9 : Nat) (yown1_0l9 : List (Int)) (xsyown1_0l9 : List Value), RepL gl9 (.int .i64) xsyown1_0l9 yown1_0l9 ∧ StA 49 [(0, .slice axl_0 xl.length cxl_0), (3, .slice ayown1_0l9 yown1_0l9.length cyown1_0l9), (4, .int .i64 x4l9)] a ∧ StW w0 [.own (.slice ayown1_0l9 yown1_0l9.length cyown1_0l9) 3 1 yown1_0l9.length xsyown1_0l9] gl9 W ∧ orderl9 xl K k x4l9 yown1_0l9) k ?_ ?_
  ·
    exact fun a W hA hW => ⟨g, (Gext.refl w0 g), 0, none, 0, ([] : List (Int)), [], hL1, hA.sub (by kernel_rfl), hW, hF⟩
  ·
    clear hF
    rintro k9 a W ⟨gl9, hxl9, x4l9, ayown1_0l9, cyown1_0l9, yown1_0l9, xsyown1_0l9, hLyown1_0l9, hA, hW, hF⟩
    cases k9 with
    | zero => exact (hF : False).elim
    | succ k9 =>
      refine (?_ : Ok _ _ _ _ _ _) a W hA hW
      clear hA hW
      replace hRxl_0 := hRxl_0.mono hxl9.1
      refine Ok.seq ?_
      refine Ok.seq ?_
      refine Ok.region ?_
      refine Ok.batch 4 [(0, .slice axl_0 xl.length cxl_0), (3, .slice ayown1_0l9 yown1_0l9.length cyown1_0l9), (4, .int .i64 x4l9), (10, .bool (decide (x4l9 < (xl.length : Int))))] (by kernel_rfl) ?_
      refine Ok.nil ?_
      refine Ok.thenN ?_
      refine Ok.cond (b := decide (x4l9 < (xl.length : Int))) rfl (fun hc2 => ?_) (fun hc2 => ?_)
      · replace hF := hF.1 hc2
        refine Ok.skip ?_
        refine Ok.thenN ?_
        refine Ok.seq ?_
        refine Ok.block ?_
        refine Ok.seq ?_
        refine Ok.region ?_
        refine Ok.batch 3 [(0, .slice axl_0 xl.length cxl_0), (3, .slice ayown1_0l9 yown1_0l9.length cyown1_0l9), (4, .int .i64 x4l9), (5, .int .i64 (yown1_0l9.length : Int))] (by kernel_rfl) ?_
        refine Ok.nil ?_
        refine Ok.thenN ?_
        refine Ok.seq ?_
        refine Ok.block ?_
        obtain ⟨k, hF⟩ := hF
        refine Ok.loop (fun k a W => ∃ gl22 : Ghost, Gext w0 gl9 gl22 ∧ ∃ (x5l22 : Int), StA 49 [(0, .slice axl_0 xl.length cxl_0), (3, .slice ayown1_0l9 yown1_0l9.length cyown1_0l9), (4, .int .i64 x4l9), (5, .int .i64 x5l22)] a ∧ StW w0 [.own (.slice ayown1_0l9 yown1_0l9.length cyown1_0l9) 3 1 yown1_0l9.length xsyown1_0l9] gl22 W ∧ orderl22 xl x4l9 yown1_0l9 (orderl9 xl K k9) k x5l22) k ?_ ?_
        ·
          exact fun a W hA hW => ⟨gl9, (Gext.refl w0 gl9), (yown1_0l9.length : Int), hA.sub (by kernel_rfl), hW, hF⟩
        ·
          clear hF
          rintro k22 a W ⟨gl22, hxl22, x5l22, hA, hW, hF⟩
          cases k22 with
          | zero => exact (hF : False).elim
          | succ k22 =>
            refine (?_ : Ok _ _ _ _ _ _) a W hA hW
            clear hA hW
            replace hRxl_0 := hRxl_0.mono hxl22.1
            replace hLyown1_0l9 := hLyown1_0l9.mono hxl22.1
            refine Ok.seq ?_
            refine Ok.cut (fun a W => ∃ gj24 : Ghost, Gext w0 gl22 gj24 ∧ StA 49 [(0, .slice axl_0 xl.length cxl_0), (3, .slice ayown1_0l9 yown1_0l9.length cyown1_0l9), (4, .int .i64 x4l9), (5, .int .i64 x5l22), (31, .bool (orderV3 xl x5l22 x4l9 yown1_0l9))] a ∧ StW w0 [.own (.slice ayown1_0l9 yown1_0l9.length cyown1_0l9) 3 1 yown1_0l9.length xsyown1_0l9] gj24 W ∧ orderj24 xl x5l22 x4l9 yown1_0l9 (orderl9 xl K k9) (orderl22 xl x4l9 yown1_0l9 (orderl9 xl K k9) k22)) ?_ ?_
            ·
              refine Ok.quiet' (by kernel_rfl) (by kernel_rfl) ?_
              refine OkQ.batch 3 [(0, .slice axl_0 xl.length cxl_0), (3, .slice ayown1_0l9 yown1_0l9.length cyown1_0l9), (4, .int .i64 x4l9), (5, .int .i64 x5l22), (17, .bool (decide (x5l22 > 0)))] (by kernel_rfl) ?_
              refine OkQ.boolAt 17 (decide (x5l22 > 0)) rfl (fun hc12 => ?_) (fun hc12 => ?_)
              · replace hF := hF.1 hc12
                refine OkQ.batch 2 [(0, .slice axl_0 xl.length cxl_0), (3, .slice ayown1_0l9 yown1_0l9.length cyown1_0l9), (4, .int .i64 x4l9), (5, .int .i64 x5l22), (17, .bool true), (18, .slice axl_0 xl.length cxl_0), (19, .int .i64 x4l9)] (by kernel_rfl) ?_
                obtain ⟨h014, h114, hF⟩ := hF
                have he14 := get_of (l := xl) (default : List UInt8 × List UInt8 × Int × Bool × Int × Int) h114
                generalize hg14 : (xl.getD (Int.toNat x4l9) default) = e14 at he14 hF ⊢
                refine OkQ.opYes (j := 2) (d := 17) (want := true) (b := true) rfl (by kernel_rfl) (by kernel_rfl) rfl (OpQ.indexRo (e := .pair (.str) (.pair (.str) (.pair (.int .i64) (.pair (.bool) (.pair (.int .i64) (.int .i64)))))) (i := x4l9) (el := e14) rfl rfl Try.underlying22 (by kernel_rfl) hRxl_0 h014 he14 rfl fun q13 o13 cs13 _ hat13 hr13 => ?_)
                obtain ⟨_, _, rfl, rfl, ⟨_, _, rfl, rfl, ⟨_, _, rfl, rfl, ⟨_, _, rfl, rfl, ⟨_, _, rfl, rfl, rfl⟩⟩⟩⟩⟩ := hr13
                replace hat13 : At gl22 q13 o13 [.string ⟨⟨e14.1⟩⟩, .string ⟨⟨e14.2.1⟩⟩, .int .i64 e14.2.2.1, .bool e14.2.2.2.1, .int .i64 e14.2.2.2.2.1, .int .i64 e14.2.2.2.2.2] := hat13
                refine OkQ.opYes (j := 2) (d := 17) (want := true) (b := true) rfl (by kernel_rfl) (by kernel_rfl) rfl (OpQ.step (v := .agg #[.string ⟨⟨e14.1⟩⟩, .string ⟨⟨e14.2.1⟩⟩, .int .i64 e14.2.2.1, .bool e14.2.2.2.1, .int .i64 e14.2.2.2.2.1, .int .i64 e14.2.2.2.2.2]) (Yields.loadAggRo 0 6 #[.string ⟨⟨e14.1⟩⟩, .string ⟨⟨e14.2.1⟩⟩, .int .i64 e14.2.2.1, .bool e14.2.2.2.1, .int .i64 e14.2.2.2.2.1, .int .i64 e14.2.2.2.2.2] hat13 (by kernel_rfl) Try.underlying28 rfl (by kernel_rfl) (by kernel_rfl) (by kernel_rfl)) rfl rfl ?_)
                refine OkQ.batch 4 [(0, .slice axl_0 xl.length cxl_0), (3, .slice ayown1_0l9 yown1_0l9.length cyown1_0l9), (4, .int .i64 x4l9), (5, .int .i64 x5l22), (17, .bool true), (21, .agg #[.string ⟨⟨e14.1⟩⟩, .string ⟨⟨e14.2.1⟩⟩, .int .i64 e14.2.2.1, .bool e14.2.2.2.1, .int .i64 e14.2.2.2.2.1, .int .i64 e14.2.2.2.2.2]), (22, .slice axl_0 xl.length cxl_0), (23, .slice ayown1_0l9 yown1_0l9.length cyown1_0l9), (25, .int .i64 (IntKind.wrap .i64 (x5l22 - 1)))] (by kernel_rfl) ?_
                obtain ⟨h016, h116, hF⟩ := hF
                have he16 := get_of (l := yown1_0l9) (default : Int) h116
                generalize hg16 : (yown1_0l9.getD (Int.toNat (IntKind.wrap .i64 (x5l22 - 1))) default) = e16 at he16 hF ⊢
                refine OkQ.opYes (j := 2) (d := 17) (want := true) (b := true) rfl (by kernel_rfl) (by kernel_rfl) rfl (OpQ.indexOwn (e := .int .i64) (q := IntKind.wrap .i64 (x5l22 - 1)) (el := e16) 0 rfl hLyown1_0l9 rfl rfl Try.underlying24 (by kernel_rfl) (by kernel_rfl) h016 he16 rfl fun cs15 _ hr15 hc15 => ?_)
                obtain rfl := hr15
                replace hc15 : ∀ j v, ([.int .i64 e16] : List Value)[j]? = some v → xsyown1_0l9[Int.toNat (IntKind.wrap .i64 (x5l22 - 1)) * 1 + j]? = some v := hc15
                refine OkQ.opYes (j := 2) (d := 17) (want := true) (b := true) rfl (by kernel_rfl) (by kernel_rfl) rfl (OpQ.step (v := .int .i64 e16) (Yields.loadOwn 0 0 rfl hc15 rfl Try.underlying3 rfl (by kernel_rfl)) rfl rfl ?_)
                obtain ⟨h018, h118, hF⟩ := hF
                have he18 := get_of (l := xl) (default : List UInt8 × List UInt8 × Int × Bool × Int × Int) h118
                generalize hg18 : (xl.getD (Int.toNat e16) default) = e18 at he18 hF ⊢
                refine OkQ.opYes (j := 2) (d := 17) (want := true) (b := true) rfl (by kernel_rfl) (by kernel_rfl) rfl (OpQ.indexRo (e := .pair (.str) (.pair (.str) (.pair (.int .i64) (.pair (.bool) (.pair (.int .i64) (.int .i64)))))) (i := e16) (el := e18) rfl rfl Try.underlying22 (by kernel_rfl) hRxl_0 h018 he18 rfl fun q17 o17 cs17 _ hat17 hr17 => ?_)
                obtain ⟨_, _, rfl, rfl, ⟨_, _, rfl, rfl, ⟨_, _, rfl, rfl, ⟨_, _, rfl, rfl, ⟨_, _, rfl, rfl, rfl⟩⟩⟩⟩⟩ := hr17
                replace hat17 : At gl22 q17 o17 [.string ⟨⟨e18.1⟩⟩, .string ⟨⟨e18.2.1⟩⟩, .int .i64 e18.2.2.1, .bool e18.2.2.2.1, .int .i64 e18.2.2.2.2.1, .int .i64 e18.2.2.2.2.2] := hat17
                refine OkQ.opYes (j := 2) (d := 17) (want := true) (b := true) rfl (by kernel_rfl) (by kernel_rfl) rfl (OpQ.step (v := .agg #[.string ⟨⟨e18.1⟩⟩, .string ⟨⟨e18.2.1⟩⟩, .int .i64 e18.2.2.1, .bool e18.2.2.2.1, .int .i64 e18.2.2.2.2.1, .int .i64 e18.2.2.2.2.2]) (Yields.loadAggRo 0 6 #[.string ⟨⟨e18.1⟩⟩, .string ⟨⟨e18.2.1⟩⟩, .int .i64 e18.2.2.1, .bool e18.2.2.2.1, .int .i64 e18.2.2.2.2.1, .int .i64 e18.2.2.2.2.2] hat17 (by kernel_rfl) Try.underlying28 rfl (by kernel_rfl) (by kernel_rfl) (by kernel_rfl)) rfl rfl ?_)
                refine OkQ.opYes (j := 2) (d := 17) (want := true) (b := true) rfl (by kernel_rfl) (by kernel_rfl) rfl (OpQ.callG (v := .bool (laterB e14 e18)) (enters (by kernel_rfl) (fun _ => by kernel_rfl)) (fun W hW => later_c e14 e18) rfl ?_)
                refine OkQ.batch 1 [(0, .slice axl_0 xl.length cxl_0), (3, .slice ayown1_0l9 yown1_0l9.length cyown1_0l9), (4, .int .i64 x4l9), (5, .int .i64 x5l22), (31, .bool (laterB e14 e18))] (by kernel_rfl) ?_
                refine OkQ.nil ?_
                refine Ok.thenN ?_
                subst hg18
                subst hg16
                subst hg14
                refine Ok.reval 31 rfl (show (.bool (laterB (xl.getD (Int.toNat x4l9) default) (xl.getD (Int.toNat (yown1_0l9.getD (Int.toNat (IntKind.wrap .i64 (x5l22 - 1))) default)) default)) : Value) = .bool (orderV3 xl x5l22 x4l9 yown1_0l9) from congrArg (Value.bool) (mand_t hc12)) ?_
                exact fun a W hA hW => ⟨gl22, (Gext.refl w0 gl22), hA.sub (by kernel_rfl), hW, hF⟩
              · replace hF := hF.2 hc12
                refine OkQ.batch 14 [(0, .slice axl_0 xl.length cxl_0), (3, .slice ayown1_0l9 yown1_0l9.length cyown1_0l9), (4, .int .i64 x4l9), (5, .int .i64 x5l22), (31, .bool false)] (by kernel_rfl) ?_
                refine OkQ.nil ?_
                refine Ok.thenN ?_
                refine Ok.reval 31 rfl (show (.bool false : Value) = .bool (orderV3 xl x5l22 x4l9 yown1_0l9) from congrArg (Value.bool) (mand_f hc12)) ?_
                exact fun a W hA hW => ⟨gl22, (Gext.refl w0 gl22), hA.sub (by kernel_rfl), hW, hF⟩
            ·
              clear hF
              rintro a W ⟨gj24, hxj24, hA, hW, hF⟩
              refine (?_ : Ok _ _ _ _ _ _) a W hA hW
              clear hA hW
              replace hRxl_0 := hRxl_0.mono hxj24.1
              replace hLyown1_0l9 := hLyown1_0l9.mono hxj24.1
              refine Ok.cond (b := (orderV3 xl x5l22 x4l9 yown1_0l9)) rfl (fun hc3 => ?_) (fun hc3 => ?_)
              · replace hF := hF.1 hc3
                refine Ok.skip ?_
                refine Ok.thenN ?_
                refine Ok.block ?_
                refine Ok.region ?_
                refine Ok.batch 3 [(0, .slice axl_0 xl.length cxl_0), (3, .slice ayown1_0l9 yown1_0l9.length cyown1_0l9), (4, .int .i64 x4l9), (5, .int .i64 (IntKind.wrap .i64 (x5l22 - 1)))] (by kernel_rfl) ?_
                refine Ok.nil ?_
                refine Ok.blockN ?_
                refine Ok.thenN ?_
                exact fun a W hA hW => ⟨k22, Nat.lt_succ_self _, gj24, (hxl22.trans hxj24), IntKind.wrap .i64 (x5l22 - 1), hA.sub (by kernel_rfl), hW, hF⟩
              · replace hF := hF.2 hc3
                refine Ok.exit ?_
                refine Ok.thenE ?_
                refine Ok.thenE ?_
                refine Ok.blockHit ?_
                refine Ok.thenN ?_
                refine Ok.seq ?_
                refine Ok.region ?_
                have hL4 : RepL gj24 (.int .i64) ([] : List Value) ([] : List (Int)) := rfl
                refine Ok.op rfl (OpOk.lit (E := 3) (.int .i64) ([] : List (Int)) ([] : List Value) (by kernel_rfl) (by kernel_rfl) rfl (by kernel_rfl) hL4 rfl fun b4 => ?_)
                refine Ok.batch 2 [(0, .slice axl_0 xl.length cxl_0), (3, .slice ayown1_0l9 yown1_0l9.length cyown1_0l9), (4, .int .i64 x4l9), (5, .int .i64 x5l22), (34, .slice (some ⟨b4, 0, none⟩) ([] : List (Int)).length 0), (35, .slice ayown1_0l9 yown1_0l9.length cyown1_0l9), (36, .int .i64 x5l22)] (by kernel_rfl) ?_
                refine Ok.freeze (H' := [.own (.slice (some ⟨b4, 0, none⟩) ([] : List (Int)).length 0) 3 1 ([] : List (Int)).length ([] : List Value)]) 1 rfl hLyown1_0l9 rfl fun g5 hx5 hRf5 => ?_
                replace hRxl_0 := hRxl_0.mono hx5.1
                replace hL4 := hL4.mono hx5.1
                obtain ⟨h06, h16, h26, hF⟩ := hF
                refine Ok.op rfl (OpOk.sliceRo (e := .int .i64) (l := 0) (h := x5l22) rfl Try.underlying24 (by kernel_rfl) (.inr ⟨rfl, rfl⟩) (.inl ⟨_, _, rfl, rfl⟩) hRf5 h06 h16 h26 rfl (yown1_0l9.take (Int.toNat x5l22)) (by simp) fun a6 c6 hR6 => ?_)
                obtain ⟨hb7, hF⟩ := hF
                refine Ok.op rfl (OpOk.appendRo (e := .int .i64) 8 17592186044416 0 rfl rfl rfl hL4 hR6 Try.underlying24 (by kernel_rfl) (by kernel_rfl) (by kernel_rfl) hb7 rfl fun a7 c7 xs7 hL7 => ?_)
                refine Ok.batch 1 [(0, .slice axl_0 xl.length cxl_0), (3, .slice ayown1_0l9 yown1_0l9.length cyown1_0l9), (4, .int .i64 x4l9), (5, .int .i64 x5l22), (6, .slice a7 (([] : List (Int)) ++ (yown1_0l9.take (Int.toNat x5l22))).length c7)] (by kernel_rfl) ?_
                refine Ok.nil ?_
                refine Ok.thenN ?_
                refine Ok.seq ?_
                refine Ok.region ?_
                refine Ok.batch 2 [(0, .slice axl_0 xl.length cxl_0), (3, .slice ayown1_0l9 yown1_0l9.length cyown1_0l9), (4, .int .i64 x4l9), (5, .int .i64 x5l22), (39, .slice a7 (([] : List (Int)) ++ (yown1_0l9.take (Int.toNat x5l22))).length c7), (40, .int .i64 x4l9)] (by kernel_rfl) ?_
                have hL8 : RepL g5 (.int .i64) ([.int .i64 x4l9] : List Value) ([x4l9] : List (Int)) := (RepL.consN (c := [.int .i64 x4l9]) rfl rfl)
                refine Ok.op rfl (OpOk.lit (E := 3) (.int .i64) ([x4l9] : List (Int)) ([.int .i64 x4l9] : List Value) (by kernel_rfl) (by kernel_rfl) rfl (by kernel_rfl) hL8 rfl fun b8 => ?_)
                obtain ⟨hb9, hF⟩ := hF
                refine Ok.op rfl (OpOk.append' (e := .int .i64) 8 17592186044416 1 0 rfl rfl rfl rfl hL7 hL8 Try.underlying24 (by kernel_rfl) (by kernel_rfl) (by kernel_rfl) hb9 rfl fun a9 c9 xs9 hL9 => ?_)
                refine Ok.batch 1 [(0, .slice axl_0 xl.length cxl_0), (3, .slice ayown1_0l9 yown1_0l9.length cyown1_0l9), (4, .int .i64 x4l9), (5, .int .i64 x5l22), (6, .slice a9 ((([] : List (Int)) ++ (yown1_0l9.take (Int.toNat x5l22))) ++ ([x4l9] : List (Int))).length c9)] (by kernel_rfl) ?_
                refine Ok.nil ?_
                refine Ok.thenN ?_
                refine Ok.region ?_
                refine Ok.batch 3 [(0, .slice axl_0 xl.length cxl_0), (4, .int .i64 x4l9), (43, .slice a9 ((([] : List (Int)) ++ (yown1_0l9.take (Int.toNat x5l22))) ++ ([x4l9] : List (Int))).length c9), (44, .slice ayown1_0l9 yown1_0l9.length cyown1_0l9), (45, .int .i64 x5l22)] (by kernel_rfl) ?_
                obtain ⟨h010, h110, h210, hF⟩ := hF
                refine Ok.op rfl (OpOk.sliceRo (e := .int .i64) (l := x5l22) (h := (yown1_0l9.length : Int)) rfl Try.underlying24 (by kernel_rfl) (.inl ⟨_, _, rfl, rfl⟩) (.inr ⟨rfl, rfl⟩) hRf5 h010 h110 h210 rfl (yown1_0l9.drop (Int.toNat x5l22)) (by rw [show ((yown1_0l9.length : Int)).toNat = yown1_0l9.length from Int.toNat_natCast _, List.take_length]) fun a10 c10 hR10 => ?_)
                obtain ⟨hb11, hF⟩ := hF
                refine Ok.op rfl (OpOk.appendRo (e := .int .i64) 8 17592186044416 1 rfl rfl rfl hL9 hR10 Try.underlying24 (by kernel_rfl) (by kernel_rfl) (by kernel_rfl) hb11 rfl fun a11 c11 xs11 hL11 => ?_)
                refine Ok.batch 1 [(0, .slice axl_0 xl.length cxl_0), (3, .slice a11 (((([] : List (Int)) ++ (yown1_0l9.take (Int.toNat x5l22))) ++ ([x4l9] : List (Int))) ++ (yown1_0l9.drop (Int.toNat x5l22))).length c11), (4, .int .i64 x4l9)] (by kernel_rfl) ?_
                refine Ok.nil ?_
                refine Ok.blockN ?_
                refine Ok.thenN ?_
                refine Ok.region ?_
                refine Ok.batch 3 [(0, .slice axl_0 xl.length cxl_0), (3, .slice a11 (((([] : List (Int)) ++ (yown1_0l9.take (Int.toNat x5l22))) ++ ([x4l9] : List (Int))) ++ (yown1_0l9.drop (Int.toNat x5l22))).length c11), (4, .int .i64 (IntKind.wrap .i64 (x4l9 + 1)))] (by kernel_rfl) ?_
                refine Ok.nil ?_
                refine Ok.thenN ?_
                exact fun a W hA hW => ⟨k9, Nat.lt_succ_self _, g5, (((hxl9.trans hxl22).trans hxj24).trans hx5), IntKind.wrap .i64 (x4l9 + 1), a11, c11, (((([] : List (Int)) ++ (yown1_0l9.take (Int.toNat x5l22))) ++ ([x4l9] : List (Int))) ++ (yown1_0l9.drop (Int.toNat x5l22))), xs11, hL11, hA.sub (by kernel_rfl), hW.sub (.cons _ (.cons_cons _ .slnil)), hF⟩
      · replace hF := hF.2 hc2
        refine Ok.exit ?_
        refine Ok.thenE ?_
        refine Ok.thenE ?_
        refine Ok.blockHit ?_
        refine Ok.thenN ?_
        refine Ok.seq ?_
        refine Ok.region ?_
        refine Ok.batch 2 [(2, .slice ayown1_0l9 yown1_0l9.length cyown1_0l9)] (by kernel_rfl) ?_
        refine Ok.nil ?_
        refine Ok.thenN ?_
        refine Ok.ret ?_
        refine Ok.freeze (H' := []) 0 rfl hLyown1_0l9 rfl fun g19 hx19 hRf19 => ?_
        exact Ok.resH (vs := [.slice ayown1_0l9 yown1_0l9.length cyown1_0l9]) (.inl rfl) rfl (.cons (.tmp rfl) .nil) (hxl9.trans hx19) ⟨yown1_0l9, ayown1_0l9, cyown1_0l9, rfl, hRf19, rfl, hF⟩
theorem order_in {l : List G} {i : Nat} {C9 : Int → List Int → Prop} (hi : i < l.length) (hi1 : i ≤ 1000) (hC : C9 ((i + 1 : Nat) : Int) (ordN l (i + 1))) :
    ∀ k : Nat, k ≤ i → (∀ a ∈ (ordN l i).drop k, ltc (oc l) (i : Int) a = true) → orderl22 l i (ordN l i) C9 (k + 1) k := by
  have hlen := ordN_len l i
  have put : ∀ k : Nat, ∀ C22, k ≤ i → (∀ a ∈ (ordN l i).drop k, ltc (oc l) (i : Int) a = true) → (k = 0 ∨ ltc (oc l) (i : Int) ((ordN l i).getD (k - 1) default) = false) → orderV3 l k i (ordN l i) = false → orderj24 l k i (ordN l i) C9 C22 := by
    intro k C22 hk h2 h0 hv
    unfold orderj24
    rw [hv]
    refine ⟨fun h => (by cases h), fun _ => ?_⟩
    rw [show (k : Int).toNat = k by omega, w64 (by omega), show (i : Int) + 1 = ((i + 1 : Nat) : Int) by omega, List.nil_append, ordN_put h0 hk h2]
    have h3 := ordN_len l (i + 1)
    refine ⟨by omega, by omega, by omega, ?_, ?_, by omega, by omega, by omega, ?_, hC⟩
    · rw [List.length_take]; omega
    · rw [List.length_append, List.length_take, List.length_singleton]; omega
    · omega
  intro k
  induction k with
  | zero =>
    intro hk h2
    show orderl22b l i (ordN l i) C9 ((0 : Nat) : Int) _
    unfold orderl22b
    exact ⟨fun h => absurd (of_decide_eq_true h) (by omega), fun _ => put 0 _ (by omega) h2 (.inl rfl) (by unfold orderV3; rw [decide_eq_false (by omega)]; rfl)⟩
  | succ k ih =>
    intro hk h2
    show orderl22b l i (ordN l i) C9 ((k + 1 : Nat) : Int) _
    have e1 : IntKind.wrap .i64 (((k + 1 : Nat) : Int) - 1) = (k : Int) := by rw [w64 (by omega)]; omega
    have hx := ordN_in l i ((ordN l i).getD k default) (by rw [gdE (by omega)]; exact List.getElem_mem _)
    have hv : orderV3 l ((k + 1 : Nat) : Int) i (ordN l i) = ltc (oc l) (i : Int) ((ordN l i).getD k default) := by
      unfold orderV3
      rw [decide_eq_true (by omega), Bool.true_and, e1, oc_at, show (k : Int).toNat = k by omega]
    unfold orderl22b
    rw [e1, show (k : Int).toNat = k by omega, show (i : Int).toNat = i by omega]
    refine ⟨fun _ => ⟨by omega, by omega, by omega, by omega, hx.1, by omega, ?_⟩, fun h => absurd (of_decide_eq_false h) (by omega)⟩
    cases hb : ltc (oc l) (i : Int) ((ordN l i).getD k default) with
    | false => exact put (k + 1) _ hk h2 (.inr hb) (hv.trans hb)
    | true =>
      unfold orderj24
      rw [hv, hb, e1]
      refine ⟨fun _ => ih (by omega) ?_, fun h => (by cases h)⟩
      intro a ha
      rw [List.drop_eq_getElem_cons (by omega), List.mem_cons] at ha
      rcases ha with rfl | ha
      · rw [gdE (by omega)] at hb; exact hb
      · exact h2 a ha
theorem order_loop {l : List G} (hl : l.length ≤ 1000) : ∀ (n i : Nat), l.length < n + i → i ≤ l.length → orderl9 l (fun r => r = orderI l) n i (ordN l i) := by
  intro n
  induction n with
  | zero => intro i h1 h2; omega
  | succ n ih =>
    intro i h1 h2
    show orderl9b l _ i (ordN l i) _
    unfold orderl9b
    refine ⟨fun h => ?_, fun h => ?_⟩
    · have h := of_decide_eq_true h
      rw [ordN_len]
      refine ⟨i + 1, order_in (by omega) (by omega) (ih (i + 1) (by omega) (by omega)) i (Nat.le_refl _) ?_⟩
      intro a ha
      rw [List.drop_eq_nil_of_le (by rw [ordN_len]; exact Nat.le_refl _)] at ha; cases ha
    · have h := of_decide_eq_false h
      have : i = l.length := by omega
      rw [this]; rfl
theorem order_F (l : List G) (h : orderP l) : orderF l (fun r => r = orderI l) :=
  ⟨l.length + 1, (show ordN l 0 = [] from rfl) ▸ order_loop h (l.length + 1) 0 (by omega) (by omega)⟩
set_option linter.unusedVariables false in
theorem order_c {g : Ghost} {axl_0 : Option Addr} {cxl_0 : Nat} (xl : List (List UInt8 × List UInt8 × Int × Bool × Int × Int)) (hRxl_0 : Rep g (.slice (.pair (.str) (.pair (.str) (.pair (.int .i64) (.pair (.bool) (.pair (.int .i64) (.int .i64))))))) [.slice axl_0 xl.length cxl_0] xl)  (hp : orderP xl) : CallsH Try.prog 6 #[.slice axl_0 xl.length cxl_0] g [] (fun g' H' v => ∃ (ar0_0 : Option Addr) (cr0_0 : Nat), v = .slice ar0_0 (orderI xl).length cr0_0 ∧ Rep g' (.slice (.int .i64)) [.slice ar0_0 (orderI xl).length cr0_0] (orderI xl) ∧ H' = []) :=
  (order_ok xl hRxl_0 _ (order_F xl hp)).mono (by rintro g' H' v _ ⟨r0, ar0_0, cr0_0, rfl, hRr0_0, rfl, hK⟩; subst hK; exact ⟨ar0_0, cr0_0, rfl, hRr0_0, rfl⟩)
def cor2l9b (xl : List (List UInt8 × List UInt8 × Int × Bool × Int × Int)) (K : (List (Int)) → Prop) (x7l9 : Int) (yown2_0l9 : List (Int)) (C9 : Int → (List (Int)) → Prop) : Prop :=
  ((decide (x7l9 < (xl.length : Int))) = true → (yown2_0l9 ++ ([x7l9] : List (Int))).length ≤ 17592186044416 ∧ C9 (IntKind.wrap .i64 (x7l9 + 1)) (yown2_0l9 ++ ([x7l9] : List (Int)))) ∧ ((decide (x7l9 < (xl.length : Int))) = false → ssfP yown2_0l9 (fun y0 y1 => co1S y0 y1 xl) (fun y0 y1 => co1P y0 y1 xl) ∧ K (ssfS yown2_0l9 (fun y0 y1 => co1S y0 y1 xl)))
def cor2l9 (xl : List (List UInt8 × List UInt8 × Int × Bool × Int × Int)) (K : (List (Int)) → Prop) : Nat → Int → (List (Int)) → Prop
  | 0, _, _ => False
  | k + 1, x7l9, yown2_0l9 => cor2l9b xl K x7l9 yown2_0l9 (cor2l9 xl K k)
def cor2F (xl : List (List UInt8 × List UInt8 × Int × Bool × Int × Int)) (K : (List (Int)) → Prop) : Prop :=
  ∃ k, cor2l9 xl K k 0 ([] : List (Int))
set_option maxHeartbeats 4000000 in
set_option maxRecDepth 100000 in
set_option linter.unusedVariables false in
theorem cor2_ok {g : Ghost} {axl_0 : Option Addr} {cxl_0 : Nat} (xl : List (List UInt8 × List UInt8 × Int × Bool × Int × Int)) (hRxl_0 : Rep g (.slice (.pair (.str) (.pair (.str) (.pair (.int .i64) (.pair (.bool) (.pair (.int .i64) (.int .i64))))))) [.slice axl_0 xl.length cxl_0] xl) (K : (List (Int)) → Prop)
    (hF : cor2F xl K) : CallsH Try.prog 5 #[.slice axl_0 xl.length cxl_0] g [] (fun g' H' v => ∃ (r0 : List (Int)), ∃ (ar0_0 : Option Addr) (cr0_0 : Nat), v = .slice ar0_0 r0.length cr0_0 ∧ Rep g' (.slice (.int .i64)) [.slice ar0_0 r0.length cr0_0] r0 ∧ H' = [] ∧ K r0) := by
  refine CallsH.enter 19 [(0, .slice axl_0 xl.length cxl_0)] Try.func5 rfl (by kernel_rfl) (by kernel_rfl) (by kernel_rfl) fun w0 => ?_
  refine Ok.seq ?_
  refine Ok.region ?_
  refine Ok.op rfl (OpOk.box (v := .slice axl_0 xl.length cxl_0) (cs := #[.slice axl_0 xl.length cxl_0]) rfl (by kernel_rfl) rfl fun bs1 => ?_)
  refine Ok.batch 1 [(1, .pointer (some ⟨bs1, 0, none⟩))] (by kernel_rfl) ?_
  refine Ok.nil ?_
  refine Ok.thenN ?_
  refine Ok.seq ?_
  refine Ok.region ?_
  refine Ok.batch 1 [(1, .pointer (some ⟨bs1, 0, none⟩)), (3, .slice none 0 0)] (by kernel_rfl) ?_
  have hL2 : RepL g (.int .i64) [] [] := rfl
  refine Ok.ownNil 3 1 ?_
  refine Ok.nil ?_
  refine Ok.thenN ?_
  refine Ok.seq ?_
  refine Ok.seq ?_
  refine Ok.region ?_
  refine Ok.op rfl (OpOk.step (v := .slice axl_0 xl.length cxl_0) (Yields.load 1 rfl rfl Try.underlying22 rfl (by kernel_rfl)) rfl rfl ?_)
  refine Ok.batch 2 [(1, .pointer (some ⟨bs1, 0, none⟩)), (3, .slice none ([] : List (Int)).length 0), (6, .int .i64 (xl.length : Int)), (7, .int .i64 0)] (by kernel_rfl) ?_
  refine Ok.nil ?_
  refine Ok.thenN ?_
  refine Ok.block ?_
  obtain ⟨k, hF⟩ := hF
  refine Ok.loop (fun k a W => ∃ gl9 : Ghost, Gext w0 g gl9 ∧ ∃ (x7l9 : Int) (ayown2_0l9 : Option Addr) (cyown2_0l9 : Nat) (yown2_0l9 : List (Int)) (xsyown2_0l9 : List Value), RepL gl9 (.int .i64) xsyown2_0l9 yown2_0l9 ∧ StA 19 [(1, .pointer (some ⟨bs1, 0, none⟩)), (3, .slice ayown2_0l9 yown2_0l9.length cyown2_0l9), (6, .int .i64 (xl.length : Int)), (7, .int .i64 x7l9)] a ∧ StW w0 [.own (.slice ayown2_0l9 yown2_0l9.length cyown2_0l9) 3 1 yown2_0l9.length xsyown2_0l9, .blk bs1 (.cells #[.slice axl_0 xl.length cxl_0] 22)] gl9 W ∧ cor2l9 xl K k x7l9 yown2_0l9) k ?_ ?_
  ·
    exact fun a W hA hW => ⟨g, (Gext.refl w0 g), 0, none, 0, ([] : List (Int)), [], hL2, hA.sub (by kernel_rfl), hW, hF⟩
  ·
    clear hF
    rintro k9 a W ⟨gl9, hxl9, x7l9, ayown2_0l9, cyown2_0l9, yown2_0l9, xsyown2_0l9, hLyown2_0l9, hA, hW, hF⟩
    cases k9 with
    | zero => exact (hF : False).elim
    | succ k9 =>
      refine (?_ : Ok _ _ _ _ _ _) a W hA hW
      clear hA hW
      replace hRxl_0 := hRxl_0.mono hxl9.1
      refine Ok.seq ?_
      refine Ok.region ?_
      refine Ok.batch 1 [(1, .pointer (some ⟨bs1, 0, none⟩)), (3, .slice ayown2_0l9 yown2_0l9.length cyown2_0l9), (6, .int .i64 (xl.length : Int)), (7, .int .i64 x7l9), (8, .bool (decide (x7l9 < (xl.length : Int))))] (by kernel_rfl) ?_
      refine Ok.nil ?_
      refine Ok.thenN ?_
      refine Ok.seq ?_
      refine Ok.cond (b := decide (x7l9 < (xl.length : Int))) rfl (fun hc3 => ?_) (fun hc3 => ?_)
      · replace hF := hF.1 hc3
        refine Ok.skip ?_
        refine Ok.thenN ?_
        refine Ok.seq ?_
        refine Ok.block ?_
        refine Ok.seq ?_
        refine Ok.region ?_
        refine Ok.batch 2 [(1, .pointer (some ⟨bs1, 0, none⟩)), (3, .slice ayown2_0l9 yown2_0l9.length cyown2_0l9), (4, .int .i64 x7l9), (6, .int .i64 (xl.length : Int)), (7, .int .i64 x7l9)] (by kernel_rfl) ?_
        refine Ok.nil ?_
        refine Ok.thenN ?_
        refine Ok.region ?_
        refine Ok.batch 2 [(1, .pointer (some ⟨bs1, 0, none⟩)), (6, .int .i64 (xl.length : Int)), (7, .int .i64 x7l9), (10, .slice ayown2_0l9 yown2_0l9.length cyown2_0l9), (11, .int .i64 x7l9)] (by kernel_rfl) ?_
        have hL4 : RepL gl9 (.int .i64) ([.int .i64 x7l9] : List Value) ([x7l9] : List (Int)) := (RepL.consN (c := [.int .i64 x7l9]) rfl rfl)
        refine Ok.op rfl (OpOk.lit (E := 3) (.int .i64) ([x7l9] : List (Int)) ([.int .i64 x7l9] : List Value) (by kernel_rfl) (by kernel_rfl) rfl (by kernel_rfl) hL4 rfl fun b4 => ?_)
        obtain ⟨hb5, hF⟩ := hF
        refine Ok.op rfl (OpOk.append' (e := .int .i64) 8 17592186044416 1 0 rfl rfl rfl rfl hLyown2_0l9 hL4 Try.underlying24 (by kernel_rfl) (by kernel_rfl) (by kernel_rfl) hb5 rfl fun a5 c5 xs5 hL5 => ?_)
        refine Ok.batch 1 [(1, .pointer (some ⟨bs1, 0, none⟩)), (3, .slice a5 (yown2_0l9 ++ ([x7l9] : List (Int))).length c5), (6, .int .i64 (xl.length : Int)), (7, .int .i64 x7l9)] (by kernel_rfl) ?_
        refine Ok.nil ?_
        refine Ok.blockN ?_
        refine Ok.thenN ?_
        refine Ok.region ?_
        refine Ok.batch 2 [(1, .pointer (some ⟨bs1, 0, none⟩)), (3, .slice a5 (yown2_0l9 ++ ([x7l9] : List (Int))).length c5), (6, .int .i64 (xl.length : Int)), (7, .int .i64 (IntKind.wrap .i64 (x7l9 + 1)))] (by kernel_rfl) ?_
        refine Ok.nil ?_
        refine Ok.thenN ?_
        exact fun a W hA hW => ⟨k9, Nat.lt_succ_self _, gl9, hxl9, IntKind.wrap .i64 (x7l9 + 1), a5, c5, (yown2_0l9 ++ ([x7l9] : List (Int))), xs5, hL5, hA.sub (by kernel_rfl), hW.sub (.cons _ (.cons_cons _ (.cons_cons _ .slnil))), hF⟩
      · replace hF := hF.2 hc3
        refine Ok.exit ?_
        refine Ok.thenE ?_
        refine Ok.thenE ?_
        refine Ok.blockHit ?_
        refine Ok.thenN ?_
        refine Ok.seq ?_
        refine Ok.region ?_
        refine Ok.batch 2 [(3, .slice ayown2_0l9 yown2_0l9.length cyown2_0l9), (15, .slice ayown2_0l9 yown2_0l9.length cyown2_0l9), (16, .func (.func 10) #[] #[.pointer (some ⟨bs1, 0, none⟩)])] (by kernel_rfl) ?_
        refine Ok.seal (H' := [.own (.slice ayown2_0l9 yown2_0l9.length cyown2_0l9) 3 1 yown2_0l9.length xsyown2_0l9]) 1 rfl rfl fun g6 hx6 hat6 => ?_
        replace hLyown2_0l9 := hLyown2_0l9.mono hx6.1
        replace hRxl_0 := hRxl_0.mono hx6.1
        obtain ⟨hp7, hF⟩ := hF
        refine Ok.op rfl (OpOk.callH [.own (.slice ayown2_0l9 yown2_0l9.length cyown2_0l9) 3 1 yown2_0l9.length xsyown2_0l9] [] (enters (by kernel_rfl) (fun _ => by kernel_rfl)) rfl (ssf_c (vxcmp := .func (.func 10) #[] #[.pointer (some ⟨bs1, 0, none⟩)]) yown2_0l9 (fun y0 y1 => co1S y0 y1 xl) (fun y0 y1 => co1P y0 y1 xl) hLyown2_0l9 (fun y0 y1 hq => ⟨10, _, fun _ => by kernel_rfl, co1_c y0 y1 xl ⟨[.slice axl_0 xl.length cxl_0], rfl, hat6, hRxl_0⟩ hq⟩) hp7) rfl fun g8 _ _ hx8 hV8 => ?_)
        obtain ⟨xs8_0, rfl, hL8_0, rfl, hlen8_0⟩ := hV8
        replace hLyown2_0l9 := hLyown2_0l9.mono hx8.1
        replace hat6 := hat6.mono hx8.1
        replace hRxl_0 := hRxl_0.mono hx8.1
        refine Ok.reval 3 rfl (show (.slice ayown2_0l9 yown2_0l9.length cyown2_0l9 : Value) = .slice ayown2_0l9 (ssfS yown2_0l9 (fun y0 y1 => co1S y0 y1 xl)).length cyown2_0l9 from by rw [hlen8_0]) ?_
        refine Ok.reval 15 rfl (show (.slice ayown2_0l9 yown2_0l9.length cyown2_0l9 : Value) = .slice ayown2_0l9 (ssfS yown2_0l9 (fun y0 y1 => co1S y0 y1 xl)).length cyown2_0l9 from by rw [hlen8_0]) ?_
        refine Ok.nil ?_
        refine Ok.thenN ?_
        refine Ok.seq ?_
        refine Ok.region ?_
        refine Ok.batch 2 [(2, .slice ayown2_0l9 (ssfS yown2_0l9 (fun y0 y1 => co1S y0 y1 xl)).length cyown2_0l9)] (by kernel_rfl) ?_
        refine Ok.nil ?_
        refine Ok.thenN ?_
        refine Ok.ret ?_
        refine Ok.freeze (H' := []) 0 rfl hL8_0 rfl fun g9 hx9 hRf9 => ?_
        exact Ok.resH (vs := [.slice ayown2_0l9 (ssfS yown2_0l9 (fun y0 y1 => co1S y0 y1 xl)).length cyown2_0l9]) (.inl rfl) rfl (.cons (.tmp rfl) .nil) (((hxl9.trans hx6).trans hx8).trans hx9) ⟨(ssfS yown2_0l9 (fun y0 y1 => co1S y0 y1 xl)), ayown2_0l9, cyown2_0l9, rfl, hRf9, rfl, hF⟩
theorem cor2_loop {l : List G} (hl : l.length ≤ 1000) : ∀ (n i : Nat), l.length < n + i → i ≤ l.length → cor2l9 l (fun r => r = orderI l) n i (ixs i) := by
  intro n
  induction n with
  | zero => intro i h1 h2; omega
  | succ n ih =>
    intro i h1 h2
    show cor2l9b l _ i (ixs i) _
    unfold cor2l9b
    have hlen := ixs_len i
    refine ⟨fun h => ?_, fun h => ?_⟩
    · have h := of_decide_eq_true h
      rw [w64 (by omega), show (i : Int) + 1 = ((i + 1 : Nat) : Int) by omega]
      exact ⟨by rw [List.length_append, List.length_singleton]; omega, ih (i + 1) (by omega) (by omega)⟩
    · have h := of_decide_eq_false h
      have : i = l.length := by omega
      subst this
      refine ⟨⟨by omega, oc_wk l, fun x hx y hy => ?_⟩, rfl⟩
      have hx := ixs_in _ x hx
      have hy := ixs_in _ y hy
      exact ⟨hx, hy⟩
theorem cor2_F (l : List G) (h : orderP l) : cor2F l (fun r => r = orderI l) :=
  ⟨l.length + 1, cor2_loop h (l.length + 1) 0 (by omega) (by omega)⟩
set_option linter.unusedVariables false in
theorem cor2_c {g : Ghost} {axl_0 : Option Addr} {cxl_0 : Nat} (xl : List (List UInt8 × List UInt8 × Int × Bool × Int × Int)) (hRxl_0 : Rep g (.slice (.pair (.str) (.pair (.str) (.pair (.int .i64) (.pair (.bool) (.pair (.int .i64) (.int .i64))))))) [.slice axl_0 xl.length cxl_0] xl)  (hp : orderP xl) : CallsH Try.prog 5 #[.slice axl_0 xl.length cxl_0] g [] (fun g' H' v => ∃ (ar0_0 : Option Addr) (cr0_0 : Nat), v = .slice ar0_0 (orderI xl).length cr0_0 ∧ Rep g' (.slice (.int .i64)) [.slice ar0_0 (orderI xl).length cr0_0] (orderI xl) ∧ H' = []) :=
  (cor2_ok xl hRxl_0 _ (cor2_F xl hp)).mono (by rintro g' H' v _ ⟨r0, ar0_0, cr0_0, rfl, hRr0_0, rfl, hK⟩; subst hK; exact ⟨ar0_0, cr0_0, rfl, hRr0_0, rfl⟩)
def ownedV0 : Bool :=
  ((laterB (([] : List UInt8), ([] : List UInt8), 1, false, 0, 0) (([] : List UInt8), ([] : List UInt8), 2, false, 0, 0)) && (!(laterB (([] : List UInt8), ([] : List UInt8), 1, true, 0, 0) (([] : List UInt8), ([] : List UInt8), 2, false, 0, 0))))
def ownedj3 (K : Bool → Prop) : Prop :=
  K ownedV0
def ownedF (K : Bool → Prop) : Prop :=
  (((laterB (([] : List UInt8), ([] : List UInt8), 1, false, 0, 0) (([] : List UInt8), ([] : List UInt8), 2, false, 0, 0))) = true → ownedj3 K) ∧ (((laterB (([] : List UInt8), ([] : List UInt8), 1, false, 0, 0) (([] : List UInt8), ([] : List UInt8), 2, false, 0, 0))) = false → ownedj3 K)
set_option maxHeartbeats 4000000 in
set_option maxRecDepth 100000 in
set_option linter.unusedVariables false in
theorem owned_ok {g : Ghost}  (K : Bool → Prop)
    (hF : ownedF K) : CallsH Try.prog 4 #[] g [] (fun g' H' v => ∃ (r0 : Bool), v = .bool r0 ∧ H' = [] ∧ K r0) := by
  refine CallsH.enter 10 [] Try.func4 rfl (by kernel_rfl) (by kernel_rfl) (by kernel_rfl) fun w0 => ?_
  refine Ok.seq ?_
  refine Ok.region ?_
  refine Ok.batch 1 [] (by kernel_rfl) ?_
  refine Ok.nil ?_
  refine Ok.thenN ?_
  refine Ok.cut (fun a W => StA 10 [(0, .bool ownedV0)] a ∧ StW w0 [] g W ∧ ownedj3 K) ?_ ?_
  ·
    refine Ok.region ?_
    refine Ok.batch 2 [(1, .agg #[.string ⟨⟨([] : List UInt8)⟩⟩, .string ⟨⟨([] : List UInt8)⟩⟩, .int .i64 1, .bool false, .int .i64 0, .int .i64 0]), (2, .agg #[.string ⟨⟨([] : List UInt8)⟩⟩, .string ⟨⟨([] : List UInt8)⟩⟩, .int .i64 2, .bool false, .int .i64 0, .int .i64 0])] (by kernel_rfl) ?_
    refine Ok.op rfl (OpOk.callG (v := .bool (laterB (([] : List UInt8), ([] : List UInt8), 1, false, 0, 0) (([] : List UInt8), ([] : List UInt8), 2, false, 0, 0))) (enters (by kernel_rfl) (fun _ => by kernel_rfl)) (fun W hW => less_c (([] : List UInt8), ([] : List UInt8), 1, false, 0, 0) (([] : List UInt8), ([] : List UInt8), 2, false, 0, 0)) rfl ?_)
    refine Ok.batch 1 [(4, .bool (laterB (([] : List UInt8), ([] : List UInt8), 1, false, 0, 0) (([] : List UInt8), ([] : List UInt8), 2, false, 0, 0)))] (by kernel_rfl) ?_
    refine Ok.boolAt 4 ((laterB (([] : List UInt8), ([] : List UInt8), 1, false, 0, 0) (([] : List UInt8), ([] : List UInt8), 2, false, 0, 0))) rfl (fun hc1 => ?_) (fun hc1 => ?_)
    · replace hF := hF.1 hc1
      refine Ok.batch 2 [(4, .bool true), (5, .agg #[.string ⟨⟨([] : List UInt8)⟩⟩, .string ⟨⟨([] : List UInt8)⟩⟩, .int .i64 1, .bool true, .int .i64 0, .int .i64 0]), (6, .agg #[.string ⟨⟨([] : List UInt8)⟩⟩, .string ⟨⟨([] : List UInt8)⟩⟩, .int .i64 2, .bool false, .int .i64 0, .int .i64 0])] (by kernel_rfl) ?_
      refine Ok.opYes (j := 3) (d := 4) (want := true) (b := true) rfl (by kernel_rfl) (by kernel_rfl) rfl (OpOk.callG (v := .bool (laterB (([] : List UInt8), ([] : List UInt8), 1, true, 0, 0) (([] : List UInt8), ([] : List UInt8), 2, false, 0, 0))) (enters (by kernel_rfl) (fun _ => by kernel_rfl)) (fun W hW => less_c (([] : List UInt8), ([] : List UInt8), 1, true, 0, 0) (([] : List UInt8), ([] : List UInt8), 2, false, 0, 0)) rfl ?_)
      refine Ok.batch 3 [(0, .bool (!(laterB (([] : List UInt8), ([] : List UInt8), 1, true, 0, 0) (([] : List UInt8), ([] : List UInt8), 2, false, 0, 0))))] (by kernel_rfl) ?_
      refine Ok.nil ?_
      refine Ok.thenN ?_
      refine Ok.reval 0 rfl (show (.bool (!(laterB (([] : List UInt8), ([] : List UInt8), 1, true, 0, 0) (([] : List UInt8), ([] : List UInt8), 2, false, 0, 0))) : Value) = .bool ownedV0 from congrArg (Value.bool) (mand_t hc1)) ?_
      exact fun a W hA hW => ⟨hA.sub (by kernel_rfl), hW, hF⟩
    · replace hF := hF.2 hc1
      refine Ok.batch 6 [(0, .bool false)] (by kernel_rfl) ?_
      refine Ok.nil ?_
      refine Ok.thenN ?_
      refine Ok.reval 0 rfl (show (.bool false : Value) = .bool ownedV0 from congrArg (Value.bool) (mand_f hc1)) ?_
      exact fun a W hA hW => ⟨hA.sub (by kernel_rfl), hW, hF⟩
  ·
    clear hF
    rintro a W ⟨hA, hW, hF⟩
    refine (?_ : Ok _ _ _ _ _ _) a W hA hW
    clear hA hW
    refine Ok.ret ?_
    exact Ok.resH (vs := [.bool ownedV0]) (.inl rfl) rfl (.cons (.tmp rfl) .nil) (Gext.refl w0 g) ⟨ownedV0, rfl, rfl, hF⟩
theorem owned_F : ownedF (fun r => r = true) := by
  unfold ownedF ownedj3
  exact ⟨fun _ => by decide, fun h => absurd h (by decide)⟩
set_option linter.unusedVariables false in
theorem owned_c {g : Ghost}   : CallsG Try.prog 4 #[] g (.bool true) :=
  (owned_ok  _ (owned_F )).gives (by rintro g' H' v _ ⟨r0, rfl, rfl, hK⟩; subst hK; rfl)
def ordsV1 (xl : List (List UInt8 × List UInt8 × Int × Bool × Int × Int)) (x6l23 : Int) : Bool :=
  ((((orderI (xl.take (Int.toNat (if 60 < (xl.length : Int) then 60 else (xl.length : Int))))).getD (Int.toNat x6l23) default) != ((orderI (xl.take (Int.toNat (if 60 < (xl.length : Int) then 60 else (xl.length : Int))))).getD (Int.toNat x6l23) default)) || ((decide (x6l23 > 0)) && (!((laterB ((xl.take (Int.toNat (if 60 < (xl.length : Int) then 60 else (xl.length : Int)))).getD (Int.toNat ((orderI (xl.take (Int.toNat (if 60 < (xl.length : Int) then 60 else (xl.length : Int))))).getD (Int.toNat x6l23) default)) default) ((xl.take (Int.toNat (if 60 < (xl.length : Int) then 60 else (xl.length : Int)))).getD (Int.toNat ((orderI (xl.take (Int.toNat (if 60 < (xl.length : Int) then 60 else (xl.length : Int))))).getD (Int.toNat (IntKind.wrap .i64 (x6l23 - 1))) default)) default)) == (laterB ((xl.take (Int.toNat (if 60 < (xl.length : Int) then 60 else (xl.length : Int)))).getD (Int.toNat ((orderI (xl.take (Int.toNat (if 60 < (xl.length : Int) then 60 else (xl.length : Int))))).getD (Int.toNat x6l23) default)) default) ((xl.take (Int.toNat (if 60 < (xl.length : Int) then 60 else (xl.length : Int)))).getD (Int.toNat ((orderI (xl.take (Int.toNat (if 60 < (xl.length : Int) then 60 else (xl.length : Int))))).getD (Int.toNat (IntKind.wrap .i64 (x6l23 - 1))) default)) default))))))
def ordsj32 (xl : List (List UInt8 × List UInt8 × Int × Bool × Int × Int)) (K : Bool → Prop) (x6l23 : Int) (C23 : Int → Prop) : Prop :=
  (((ordsV1 xl x6l23)) = true → K false) ∧ (((ordsV1 xl x6l23)) = false → C23 (IntKind.wrap .i64 (x6l23 + 1)))
def ordsl23b (xl : List (List UInt8 × List UInt8 × Int × Bool × Int × Int)) (K : Bool → Prop) (x6l23 : Int) (C23 : Int → Prop) : Prop :=
  ((decide (x6l23 < ((orderI (xl.take (Int.toNat (if 60 < (xl.length : Int) then 60 else (xl.length : Int))))).length : Int))) = true → (0 : Int) ≤ x6l23 ∧ Int.toNat x6l23 < (orderI (xl.take (Int.toNat (if 60 < (xl.length : Int) then 60 else (xl.length : Int))))).length ∧ (((((orderI (xl.take (Int.toNat (if 60 < (xl.length : Int) then 60 else (xl.length : Int))))).getD (Int.toNat x6l23) default) != ((orderI (xl.take (Int.toNat (if 60 < (xl.length : Int) then 60 else (xl.length : Int))))).getD (Int.toNat x6l23) default))) = true → ordsj32 xl K x6l23 C23) ∧ (((((orderI (xl.take (Int.toNat (if 60 < (xl.length : Int) then 60 else (xl.length : Int))))).getD (Int.toNat x6l23) default) != ((orderI (xl.take (Int.toNat (if 60 < (xl.length : Int) then 60 else (xl.length : Int))))).getD (Int.toNat x6l23) default))) = false → ((decide (x6l23 > 0)) = true → (0 : Int) ≤ ((orderI (xl.take (Int.toNat (if 60 < (xl.length : Int) then 60 else (xl.length : Int))))).getD (Int.toNat x6l23) default) ∧ Int.toNat ((orderI (xl.take (Int.toNat (if 60 < (xl.length : Int) then 60 else (xl.length : Int))))).getD (Int.toNat x6l23) default) < (xl.take (Int.toNat (if 60 < (xl.length : Int) then 60 else (xl.length : Int)))).length ∧ (0 : Int) ≤ (IntKind.wrap .i64 (x6l23 - 1)) ∧ Int.toNat (IntKind.wrap .i64 (x6l23 - 1)) < (orderI (xl.take (Int.toNat (if 60 < (xl.length : Int) then 60 else (xl.length : Int))))).length ∧ (0 : Int) ≤ ((orderI (xl.take (Int.toNat (if 60 < (xl.length : Int) then 60 else (xl.length : Int))))).getD (Int.toNat (IntKind.wrap .i64 (x6l23 - 1))) default) ∧ Int.toNat ((orderI (xl.take (Int.toNat (if 60 < (xl.length : Int) then 60 else (xl.length : Int))))).getD (Int.toNat (IntKind.wrap .i64 (x6l23 - 1))) default) < (xl.take (Int.toNat (if 60 < (xl.length : Int) then 60 else (xl.length : Int)))).length ∧ ordsj32 xl K x6l23 C23) ∧ ((decide (x6l23 > 0)) = false → ordsj32 xl K x6l23 C23))) ∧ ((decide (x6l23 < ((orderI (xl.take (Int.toNat (if 60 < (xl.length : Int) then 60 else (xl.length : Int))))).length : Int))) = false → K true)
def ordsl23 (xl : List (List UInt8 × List UInt8 × Int × Bool × Int × Int)) (K : Bool → Prop) : Nat → Int → Prop
  | 0, _ => False
  | k + 1, x6l23 => ordsl23b xl K x6l23 (ordsl23 xl K k)
def ordsF (xl : List (List UInt8 × List UInt8 × Int × Bool × Int × Int)) (K : Bool → Prop) : Prop :=
  (0 : Int) ≤ 0 ∧ (0 : Int) ≤ (if 60 < (xl.length : Int) then 60 else (xl.length : Int)) ∧ (if 60 < (xl.length : Int) then 60 else (xl.length : Int)) ≤ (xl.length : Int) ∧ orderP (xl.take (Int.toNat (if 60 < (xl.length : Int) then 60 else (xl.length : Int)))) ∧ orderP (xl.take (Int.toNat (if 60 < (xl.length : Int) then 60 else (xl.length : Int)))) ∧ (((((orderI (xl.take (Int.toNat (if 60 < (xl.length : Int) then 60 else (xl.length : Int))))).length : Int) != ((orderI (xl.take (Int.toNat (if 60 < (xl.length : Int) then 60 else (xl.length : Int))))).length : Int))) = true → K false) ∧ (((((orderI (xl.take (Int.toNat (if 60 < (xl.length : Int) then 60 else (xl.length : Int))))).length : Int) != ((orderI (xl.take (Int.toNat (if 60 < (xl.length : Int) then 60 else (xl.length : Int))))).length : Int))) = false → ∃ k, ordsl23 xl K k 0)
set_option maxHeartbeats 4000000 in
set_option maxRecDepth 100000 in
set_option linter.unusedVariables false in
theorem ords_ok {g : Ghost} {axl_0 : Option Addr} {cxl_0 : Nat} (xl : List (List UInt8 × List UInt8 × Int × Bool × Int × Int)) (hRxl_0 : Rep g (.slice (.pair (.str) (.pair (.str) (.pair (.int .i64) (.pair (.bool) (.pair (.int .i64) (.int .i64))))))) [.slice axl_0 xl.length cxl_0] xl) (K : Bool → Prop)
    (hF : ordsF xl K) : CallsH Try.prog 3 #[.slice axl_0 xl.length cxl_0] g [] (fun g' H' v => ∃ (r0 : Bool), v = .bool r0 ∧ H' = [] ∧ K r0) := by
  refine CallsH.enter 77 [(0, .slice axl_0 xl.length cxl_0)] Try.func3 rfl (by kernel_rfl) (by kernel_rfl) (by kernel_rfl) fun w0 => ?_
  refine Ok.seq ?_
  refine Ok.region ?_
  refine Ok.batch 1 [(0, .slice axl_0 xl.length cxl_0)] (by kernel_rfl) ?_
  refine Ok.nil ?_
  refine Ok.thenN ?_
  refine Ok.seq ?_
  refine Ok.region ?_
  refine Ok.op rfl (OpOk.callG (v := .bool true) (enters (by kernel_rfl) (fun _ => by kernel_rfl)) (fun W hW => owned_c ) rfl ?_)
  refine Ok.batch 1 [(0, .slice axl_0 xl.length cxl_0), (3, .bool true)] (by kernel_rfl) ?_
  refine Ok.nil ?_
  refine Ok.thenN ?_
  refine Ok.seq ?_
  refine Ok.region ?_
  refine Ok.batch 4 [(3, .bool true), (8, .slice axl_0 xl.length cxl_0), (11, .int .i64 (if 60 < (xl.length : Int) then 60 else (xl.length : Int)))] (by kernel_rfl) ?_
  obtain ⟨h01, h11, h21, hF⟩ := hF
  refine Ok.op rfl (OpOk.sliceRo (e := .pair (.str) (.pair (.str) (.pair (.int .i64) (.pair (.bool) (.pair (.int .i64) (.int .i64)))))) (l := 0) (h := (if 60 < (xl.length : Int) then 60 else (xl.length : Int))) rfl Try.underlying22 (by kernel_rfl) (.inr ⟨rfl, rfl⟩) (.inl ⟨_, _, rfl, rfl⟩) hRxl_0 h01 h11 h21 rfl (xl.take (Int.toNat (if 60 < (xl.length : Int) then 60 else (xl.length : Int)))) (by simp) fun a1 c1 hR1 => ?_)
  refine Ok.batch 1 [(0, .slice a1 (xl.take (Int.toNat (if 60 < (xl.length : Int) then 60 else (xl.length : Int)))).length c1), (3, .bool true)] (by kernel_rfl) ?_
  refine Ok.nil ?_
  refine Ok.thenN ?_
  refine Ok.seq ?_
  refine Ok.region ?_
  refine Ok.batch 1 [(0, .slice a1 (xl.take (Int.toNat (if 60 < (xl.length : Int) then 60 else (xl.length : Int)))).length c1), (3, .bool true), (13, .slice a1 (xl.take (Int.toNat (if 60 < (xl.length : Int) then 60 else (xl.length : Int)))).length c1)] (by kernel_rfl) ?_
  obtain ⟨hp2, hF⟩ := hF
  refine Ok.op rfl (OpOk.callH [] [] (enters (by kernel_rfl) (fun _ => by kernel_rfl)) rfl (cor2_c (xl.take (Int.toNat (if 60 < (xl.length : Int) then 60 else (xl.length : Int)))) hR1 hp2) rfl fun g3 _ _ hx3 hV3 => ?_)
  obtain ⟨a3_0, c3_0, rfl, hR3_0, rfl⟩ := hV3
  replace hR1 := hR1.mono hx3.1
  refine Ok.batch 1 [(0, .slice a1 (xl.take (Int.toNat (if 60 < (xl.length : Int) then 60 else (xl.length : Int)))).length c1), (3, .bool true), (4, .slice a3_0 (orderI (xl.take (Int.toNat (if 60 < (xl.length : Int) then 60 else (xl.length : Int))))).length c3_0)] (by kernel_rfl) ?_
  refine Ok.nil ?_
  refine Ok.thenN ?_
  refine Ok.seq ?_
  refine Ok.region ?_
  refine Ok.batch 1 [(0, .slice a1 (xl.take (Int.toNat (if 60 < (xl.length : Int) then 60 else (xl.length : Int)))).length c1), (3, .bool true), (4, .slice a3_0 (orderI (xl.take (Int.toNat (if 60 < (xl.length : Int) then 60 else (xl.length : Int))))).length c3_0), (15, .slice a1 (xl.take (Int.toNat (if 60 < (xl.length : Int) then 60 else (xl.length : Int)))).length c1)] (by kernel_rfl) ?_
  obtain ⟨hp4, hF⟩ := hF
  refine Ok.op rfl (OpOk.callH [] [] (enters (by kernel_rfl) (fun _ => by kernel_rfl)) rfl (order_c (xl.take (Int.toNat (if 60 < (xl.length : Int) then 60 else (xl.length : Int)))) hR1 hp4) rfl fun g5 _ _ hx5 hV5 => ?_)
  obtain ⟨a5_0, c5_0, rfl, hR5_0, rfl⟩ := hV5
  replace hR1 := hR1.mono hx5.1
  replace hR3_0 := hR3_0.mono hx5.1
  refine Ok.batch 1 [(0, .slice a1 (xl.take (Int.toNat (if 60 < (xl.length : Int) then 60 else (xl.length : Int)))).length c1), (3, .bool true), (4, .slice a3_0 (orderI (xl.take (Int.toNat (if 60 < (xl.length : Int) then 60 else (xl.length : Int))))).length c3_0), (5, .slice a5_0 (orderI (xl.take (Int.toNat (if 60 < (xl.length : Int) then 60 else (xl.length : Int))))).length c5_0)] (by kernel_rfl) ?_
  refine Ok.nil ?_
  refine Ok.thenN ?_
  refine Ok.seq ?_
  refine Ok.seq ?_
  refine Ok.region ?_
  refine Ok.batch 5 [(0, .slice a1 (xl.take (Int.toNat (if 60 < (xl.length : Int) then 60 else (xl.length : Int)))).length c1), (3, .bool true), (4, .slice a3_0 (orderI (xl.take (Int.toNat (if 60 < (xl.length : Int) then 60 else (xl.length : Int))))).length c3_0), (5, .slice a5_0 (orderI (xl.take (Int.toNat (if 60 < (xl.length : Int) then 60 else (xl.length : Int))))).length c5_0), (21, .bool (((orderI (xl.take (Int.toNat (if 60 < (xl.length : Int) then 60 else (xl.length : Int))))).length : Int) != ((orderI (xl.take (Int.toNat (if 60 < (xl.length : Int) then 60 else (xl.length : Int))))).length : Int)))] (by kernel_rfl) ?_
  refine Ok.nil ?_
  refine Ok.thenN ?_
  refine Ok.cond (b := (((orderI (xl.take (Int.toNat (if 60 < (xl.length : Int) then 60 else (xl.length : Int))))).length : Int) != ((orderI (xl.take (Int.toNat (if 60 < (xl.length : Int) then 60 else (xl.length : Int))))).length : Int))) rfl (fun hc6 => ?_) (fun hc6 => ?_)
  · replace hF := hF.1 hc6
    refine Ok.seq ?_
    refine Ok.region ?_
    refine Ok.batch 1 [(2, .bool false)] (by kernel_rfl) ?_
    refine Ok.nil ?_
    refine Ok.thenN ?_
    refine Ok.ret ?_
    refine Ok.thenR ?_
    exact Ok.resH (vs := [.bool false]) (.inl rfl) rfl (.cons (.tmp rfl) .nil) (hx3.trans hx5) ⟨false, rfl, rfl, hF⟩
  · replace hF := hF.2 hc6
    refine Ok.skip ?_
    refine Ok.thenN ?_
    refine Ok.seq ?_
    refine Ok.seq ?_
    refine Ok.region ?_
    refine Ok.batch 1 [(0, .slice a1 (xl.take (Int.toNat (if 60 < (xl.length : Int) then 60 else (xl.length : Int)))).length c1), (3, .bool true), (4, .slice a3_0 (orderI (xl.take (Int.toNat (if 60 < (xl.length : Int) then 60 else (xl.length : Int))))).length c3_0), (5, .slice a5_0 (orderI (xl.take (Int.toNat (if 60 < (xl.length : Int) then 60 else (xl.length : Int))))).length c5_0), (6, .int .i64 0)] (by kernel_rfl) ?_
    refine Ok.nil ?_
    refine Ok.thenN ?_
    refine Ok.block ?_
    obtain ⟨k, hF⟩ := hF
    refine Ok.loop (fun k a W => ∃ gl23 : Ghost, Gext w0 g5 gl23 ∧ ∃ (x6l23 : Int), StA 77 [(0, .slice a1 (xl.take (Int.toNat (if 60 < (xl.length : Int) then 60 else (xl.length : Int)))).length c1), (3, .bool true), (4, .slice a3_0 (orderI (xl.take (Int.toNat (if 60 < (xl.length : Int) then 60 else (xl.length : Int))))).length c3_0), (5, .slice a5_0 (orderI (xl.take (Int.toNat (if 60 < (xl.length : Int) then 60 else (xl.length : Int))))).length c5_0), (6, .int .i64 x6l23)] a ∧ StW w0 [] gl23 W ∧ ordsl23 xl K k x6l23) k ?_ ?_
    ·
      exact fun a W hA hW => ⟨g5, (Gext.refl w0 g5), 0, hA.sub (by kernel_rfl), hW, hF⟩
    ·
      clear hF
      rintro k23 a W ⟨gl23, hxl23, x6l23, hA, hW, hF⟩
      cases k23 with
      | zero => exact (hF : False).elim
      | succ k23 =>
        refine (?_ : Ok _ _ _ _ _ _) a W hA hW
        clear hA hW
        replace hR1 := hR1.mono hxl23.1
        replace hR3_0 := hR3_0.mono hxl23.1
        replace hR5_0 := hR5_0.mono hxl23.1
        refine Ok.seq ?_
        refine Ok.seq ?_
        refine Ok.region ?_
        refine Ok.batch 4 [(0, .slice a1 (xl.take (Int.toNat (if 60 < (xl.length : Int) then 60 else (xl.length : Int)))).length c1), (3, .bool true), (4, .slice a3_0 (orderI (xl.take (Int.toNat (if 60 < (xl.length : Int) then 60 else (xl.length : Int))))).length c3_0), (5, .slice a5_0 (orderI (xl.take (Int.toNat (if 60 < (xl.length : Int) then 60 else (xl.length : Int))))).length c5_0), (6, .int .i64 x6l23), (25, .bool (decide (x6l23 < ((orderI (xl.take (Int.toNat (if 60 < (xl.length : Int) then 60 else (xl.length : Int))))).length : Int))))] (by kernel_rfl) ?_
        refine Ok.nil ?_
        refine Ok.thenN ?_
        refine Ok.cond (b := decide (x6l23 < ((orderI (xl.take (Int.toNat (if 60 < (xl.length : Int) then 60 else (xl.length : Int))))).length : Int))) rfl (fun hc7 => ?_) (fun hc7 => ?_)
        · replace hF := hF.1 hc7
          refine Ok.skip ?_
          refine Ok.thenN ?_
          refine Ok.seq ?_
          refine Ok.block ?_
          refine Ok.cut (fun a W => ∃ gj32 : Ghost, Gext w0 gl23 gj32 ∧ StA 77 [(0, .slice a1 (xl.take (Int.toNat (if 60 < (xl.length : Int) then 60 else (xl.length : Int)))).length c1), (3, .bool true), (4, .slice a3_0 (orderI (xl.take (Int.toNat (if 60 < (xl.length : Int) then 60 else (xl.length : Int))))).length c3_0), (5, .slice a5_0 (orderI (xl.take (Int.toNat (if 60 < (xl.length : Int) then 60 else (xl.length : Int))))).length c5_0), (6, .int .i64 x6l23), (75, .bool (ordsV1 xl x6l23))] a ∧ StW w0 [] gj32 W ∧ ordsj32 xl K x6l23 (ordsl23 xl K k23)) ?_ ?_
          ·
            refine Ok.quiet' (by kernel_rfl) (by kernel_rfl) ?_
            refine OkQ.batch 2 [(0, .slice a1 (xl.take (Int.toNat (if 60 < (xl.length : Int) then 60 else (xl.length : Int)))).length c1), (3, .bool true), (4, .slice a3_0 (orderI (xl.take (Int.toNat (if 60 < (xl.length : Int) then 60 else (xl.length : Int))))).length c3_0), (5, .slice a5_0 (orderI (xl.take (Int.toNat (if 60 < (xl.length : Int) then 60 else (xl.length : Int))))).length c5_0), (6, .int .i64 x6l23), (28, .slice a3_0 (orderI (xl.take (Int.toNat (if 60 < (xl.length : Int) then 60 else (xl.length : Int))))).length c3_0), (29, .int .i64 x6l23)] (by kernel_rfl) ?_
            obtain ⟨h010, h110, hF⟩ := hF
            have he10 := get_of (l := (orderI (xl.take (Int.toNat (if 60 < (xl.length : Int) then 60 else (xl.length : Int)))))) (default : Int) h110
            generalize hg10 : ((orderI (xl.take (Int.toNat (if 60 < (xl.length : Int) then 60 else (xl.length : Int))))).getD (Int.toNat x6l23) default) = e10 at he10 hF ⊢
            refine OkQ.op rfl (OpQ.indexRo (e := .int .i64) (i := x6l23) (el := e10) rfl rfl Try.underlying24 (by kernel_rfl) hR3_0 h010 he10 rfl fun q9 o9 cs9 _ hat9 hr9 => ?_)
            obtain rfl := hr9
            replace hat9 : At gl23 q9 o9 [.int .i64 e10] := hat9
            refine OkQ.op rfl (OpQ.step (v := .int .i64 e10) (Yields.loadRo 0 hat9 (by kernel_rfl) Try.underlying3 rfl (by kernel_rfl)) rfl rfl ?_)
            refine OkQ.batch 2 [(0, .slice a1 (xl.take (Int.toNat (if 60 < (xl.length : Int) then 60 else (xl.length : Int)))).length c1), (3, .bool true), (4, .slice a3_0 (orderI (xl.take (Int.toNat (if 60 < (xl.length : Int) then 60 else (xl.length : Int))))).length c3_0), (5, .slice a5_0 (orderI (xl.take (Int.toNat (if 60 < (xl.length : Int) then 60 else (xl.length : Int))))).length c5_0), (6, .int .i64 x6l23), (31, .int .i64 e10), (32, .slice a5_0 (orderI (xl.take (Int.toNat (if 60 < (xl.length : Int) then 60 else (xl.length : Int))))).length c5_0), (33, .int .i64 x6l23)] (by kernel_rfl) ?_
            refine OkQ.op rfl (OpQ.indexRo (e := .int .i64) (i := x6l23) (el := e10) rfl rfl Try.underlying24 (by kernel_rfl) hR5_0 h010 he10 rfl fun q11 o11 cs11 _ hat11 hr11 => ?_)
            obtain rfl := hr11
            replace hat11 : At gl23 q11 o11 [.int .i64 e10] := hat11
            refine OkQ.op rfl (OpQ.step (v := .int .i64 e10) (Yields.loadRo 0 hat11 (by kernel_rfl) Try.underlying3 rfl (by kernel_rfl)) rfl rfl ?_)
            refine OkQ.batch 2 [(0, .slice a1 (xl.take (Int.toNat (if 60 < (xl.length : Int) then 60 else (xl.length : Int)))).length c1), (3, .bool true), (4, .slice a3_0 (orderI (xl.take (Int.toNat (if 60 < (xl.length : Int) then 60 else (xl.length : Int))))).length c3_0), (5, .slice a5_0 (orderI (xl.take (Int.toNat (if 60 < (xl.length : Int) then 60 else (xl.length : Int))))).length c5_0), (6, .int .i64 x6l23), (37, .bool (e10 != e10))] (by kernel_rfl) ?_
            refine OkQ.boolAt 37 ((e10 != e10)) rfl (fun hc12 => ?_) (fun hc12 => ?_)
            · replace hF := hF.1 hc12
              refine OkQ.batch 38 [(0, .slice a1 (xl.take (Int.toNat (if 60 < (xl.length : Int) then 60 else (xl.length : Int)))).length c1), (3, .bool true), (4, .slice a3_0 (orderI (xl.take (Int.toNat (if 60 < (xl.length : Int) then 60 else (xl.length : Int))))).length c3_0), (5, .slice a5_0 (orderI (xl.take (Int.toNat (if 60 < (xl.length : Int) then 60 else (xl.length : Int))))).length c5_0), (6, .int .i64 x6l23), (75, .bool true)] (by kernel_rfl) ?_
              refine OkQ.nil ?_
              refine Ok.thenN ?_
              subst hg10
              refine Ok.reval 75 rfl (show (.bool true : Value) = .bool (ordsV1 xl x6l23) from congrArg (Value.bool) (mor_t hc12)) ?_
              exact fun a W hA hW => ⟨gl23, (Gext.refl w0 gl23), hA.sub (by kernel_rfl), hW, hF⟩
            · replace hF := hF.2 hc12
              refine OkQ.batch 3 [(0, .slice a1 (xl.take (Int.toNat (if 60 < (xl.length : Int) then 60 else (xl.length : Int)))).length c1), (3, .bool true), (4, .slice a3_0 (orderI (xl.take (Int.toNat (if 60 < (xl.length : Int) then 60 else (xl.length : Int))))).length c3_0), (5, .slice a5_0 (orderI (xl.take (Int.toNat (if 60 < (xl.length : Int) then 60 else (xl.length : Int))))).length c5_0), (6, .int .i64 x6l23), (37, .bool false), (40, .bool (decide (x6l23 > 0)))] (by kernel_rfl) ?_
              refine OkQ.boolAt 40 (decide (x6l23 > 0)) rfl (fun hc13 => ?_) (fun hc13 => ?_)
              · replace hF := hF.1 hc13
                refine OkQ.batch 3 [(0, .slice a1 (xl.take (Int.toNat (if 60 < (xl.length : Int) then 60 else (xl.length : Int)))).length c1), (3, .bool true), (4, .slice a3_0 (orderI (xl.take (Int.toNat (if 60 < (xl.length : Int) then 60 else (xl.length : Int))))).length c3_0), (5, .slice a5_0 (orderI (xl.take (Int.toNat (if 60 < (xl.length : Int) then 60 else (xl.length : Int))))).length c5_0), (6, .int .i64 x6l23), (37, .bool false), (40, .bool true), (41, .slice a1 (xl.take (Int.toNat (if 60 < (xl.length : Int) then 60 else (xl.length : Int)))).length c1), (42, .slice a3_0 (orderI (xl.take (Int.toNat (if 60 < (xl.length : Int) then 60 else (xl.length : Int))))).length c3_0), (43, .int .i64 x6l23)] (by kernel_rfl) ?_
                refine OkQ.opYes (j := 12) (d := 40) (want := true) (b := true) rfl (by kernel_rfl) (by kernel_rfl) rfl (OpQ.indexRo (e := .int .i64) (i := x6l23) (el := e10) rfl rfl Try.underlying24 (by kernel_rfl) hR3_0 h010 he10 rfl fun q14 o14 cs14 _ hat14 hr14 => ?_)
                obtain rfl := hr14
                replace hat14 : At gl23 q14 o14 [.int .i64 e10] := hat14
                refine OkQ.opYes (j := 12) (d := 40) (want := true) (b := true) rfl (by kernel_rfl) (by kernel_rfl) rfl (OpQ.step (v := .int .i64 e10) (Yields.loadRo 0 hat14 (by kernel_rfl) Try.underlying3 rfl (by kernel_rfl)) rfl rfl ?_)
                obtain ⟨h016, h116, hF⟩ := hF
                have he16 := get_of (l := (xl.take (Int.toNat (if 60 < (xl.length : Int) then 60 else (xl.length : Int))))) (default : List UInt8 × List UInt8 × Int × Bool × Int × Int) h116
                generalize hg16 : ((xl.take (Int.toNat (if 60 < (xl.length : Int) then 60 else (xl.length : Int)))).getD (Int.toNat e10) default) = e16 at he16 hF ⊢
                refine OkQ.opYes (j := 12) (d := 40) (want := true) (b := true) rfl (by kernel_rfl) (by kernel_rfl) rfl (OpQ.indexRo (e := .pair (.str) (.pair (.str) (.pair (.int .i64) (.pair (.bool) (.pair (.int .i64) (.int .i64)))))) (i := e10) (el := e16) rfl rfl Try.underlying22 (by kernel_rfl) hR1 h016 he16 rfl fun q15 o15 cs15 _ hat15 hr15 => ?_)
                obtain ⟨_, _, rfl, rfl, ⟨_, _, rfl, rfl, ⟨_, _, rfl, rfl, ⟨_, _, rfl, rfl, ⟨_, _, rfl, rfl, rfl⟩⟩⟩⟩⟩ := hr15
                replace hat15 : At gl23 q15 o15 [.string ⟨⟨e16.1⟩⟩, .string ⟨⟨e16.2.1⟩⟩, .int .i64 e16.2.2.1, .bool e16.2.2.2.1, .int .i64 e16.2.2.2.2.1, .int .i64 e16.2.2.2.2.2] := hat15
                refine OkQ.opYes (j := 12) (d := 40) (want := true) (b := true) rfl (by kernel_rfl) (by kernel_rfl) rfl (OpQ.step (v := .agg #[.string ⟨⟨e16.1⟩⟩, .string ⟨⟨e16.2.1⟩⟩, .int .i64 e16.2.2.1, .bool e16.2.2.2.1, .int .i64 e16.2.2.2.2.1, .int .i64 e16.2.2.2.2.2]) (Yields.loadAggRo 0 6 #[.string ⟨⟨e16.1⟩⟩, .string ⟨⟨e16.2.1⟩⟩, .int .i64 e16.2.2.1, .bool e16.2.2.2.1, .int .i64 e16.2.2.2.2.1, .int .i64 e16.2.2.2.2.2] hat15 (by kernel_rfl) Try.underlying28 rfl (by kernel_rfl) (by kernel_rfl) (by kernel_rfl)) rfl rfl ?_)
                refine OkQ.batch 4 [(0, .slice a1 (xl.take (Int.toNat (if 60 < (xl.length : Int) then 60 else (xl.length : Int)))).length c1), (3, .bool true), (4, .slice a3_0 (orderI (xl.take (Int.toNat (if 60 < (xl.length : Int) then 60 else (xl.length : Int))))).length c3_0), (5, .slice a5_0 (orderI (xl.take (Int.toNat (if 60 < (xl.length : Int) then 60 else (xl.length : Int))))).length c5_0), (6, .int .i64 x6l23), (37, .bool false), (40, .bool true), (47, .agg #[.string ⟨⟨e16.1⟩⟩, .string ⟨⟨e16.2.1⟩⟩, .int .i64 e16.2.2.1, .bool e16.2.2.2.1, .int .i64 e16.2.2.2.2.1, .int .i64 e16.2.2.2.2.2]), (48, .slice a1 (xl.take (Int.toNat (if 60 < (xl.length : Int) then 60 else (xl.length : Int)))).length c1), (49, .slice a3_0 (orderI (xl.take (Int.toNat (if 60 < (xl.length : Int) then 60 else (xl.length : Int))))).length c3_0), (51, .int .i64 (IntKind.wrap .i64 (x6l23 - 1)))] (by kernel_rfl) ?_
                obtain ⟨h018, h118, hF⟩ := hF
                have he18 := get_of (l := (orderI (xl.take (Int.toNat (if 60 < (xl.length : Int) then 60 else (xl.length : Int)))))) (default : Int) h118
                generalize hg18 : ((orderI (xl.take (Int.toNat (if 60 < (xl.length : Int) then 60 else (xl.length : Int))))).getD (Int.toNat (IntKind.wrap .i64 (x6l23 - 1))) default) = e18 at he18 hF ⊢
                refine OkQ.opYes (j := 12) (d := 40) (want := true) (b := true) rfl (by kernel_rfl) (by kernel_rfl) rfl (OpQ.indexRo (e := .int .i64) (i := IntKind.wrap .i64 (x6l23 - 1)) (el := e18) rfl rfl Try.underlying24 (by kernel_rfl) hR3_0 h018 he18 rfl fun q17 o17 cs17 _ hat17 hr17 => ?_)
                obtain rfl := hr17
                replace hat17 : At gl23 q17 o17 [.int .i64 e18] := hat17
                refine OkQ.opYes (j := 12) (d := 40) (want := true) (b := true) rfl (by kernel_rfl) (by kernel_rfl) rfl (OpQ.step (v := .int .i64 e18) (Yields.loadRo 0 hat17 (by kernel_rfl) Try.underlying3 rfl (by kernel_rfl)) rfl rfl ?_)
                obtain ⟨h020, h120, hF⟩ := hF
                have he20 := get_of (l := (xl.take (Int.toNat (if 60 < (xl.length : Int) then 60 else (xl.length : Int))))) (default : List UInt8 × List UInt8 × Int × Bool × Int × Int) h120
                generalize hg20 : ((xl.take (Int.toNat (if 60 < (xl.length : Int) then 60 else (xl.length : Int)))).getD (Int.toNat e18) default) = e20 at he20 hF ⊢
                refine OkQ.opYes (j := 12) (d := 40) (want := true) (b := true) rfl (by kernel_rfl) (by kernel_rfl) rfl (OpQ.indexRo (e := .pair (.str) (.pair (.str) (.pair (.int .i64) (.pair (.bool) (.pair (.int .i64) (.int .i64)))))) (i := e18) (el := e20) rfl rfl Try.underlying22 (by kernel_rfl) hR1 h020 he20 rfl fun q19 o19 cs19 _ hat19 hr19 => ?_)
                obtain ⟨_, _, rfl, rfl, ⟨_, _, rfl, rfl, ⟨_, _, rfl, rfl, ⟨_, _, rfl, rfl, ⟨_, _, rfl, rfl, rfl⟩⟩⟩⟩⟩ := hr19
                replace hat19 : At gl23 q19 o19 [.string ⟨⟨e20.1⟩⟩, .string ⟨⟨e20.2.1⟩⟩, .int .i64 e20.2.2.1, .bool e20.2.2.2.1, .int .i64 e20.2.2.2.2.1, .int .i64 e20.2.2.2.2.2] := hat19
                refine OkQ.opYes (j := 12) (d := 40) (want := true) (b := true) rfl (by kernel_rfl) (by kernel_rfl) rfl (OpQ.step (v := .agg #[.string ⟨⟨e20.1⟩⟩, .string ⟨⟨e20.2.1⟩⟩, .int .i64 e20.2.2.1, .bool e20.2.2.2.1, .int .i64 e20.2.2.2.2.1, .int .i64 e20.2.2.2.2.2]) (Yields.loadAggRo 0 6 #[.string ⟨⟨e20.1⟩⟩, .string ⟨⟨e20.2.1⟩⟩, .int .i64 e20.2.2.1, .bool e20.2.2.2.1, .int .i64 e20.2.2.2.2.1, .int .i64 e20.2.2.2.2.2] hat19 (by kernel_rfl) Try.underlying28 rfl (by kernel_rfl) (by kernel_rfl) (by kernel_rfl)) rfl rfl ?_)
                refine OkQ.opYes (j := 12) (d := 40) (want := true) (b := true) rfl (by kernel_rfl) (by kernel_rfl) rfl (OpQ.callG (v := .bool (laterB e16 e20)) (enters (by kernel_rfl) (fun _ => by kernel_rfl)) (fun W hW => less_c e16 e20) rfl ?_)
                refine OkQ.batch 3 [(0, .slice a1 (xl.take (Int.toNat (if 60 < (xl.length : Int) then 60 else (xl.length : Int)))).length c1), (3, .bool true), (4, .slice a3_0 (orderI (xl.take (Int.toNat (if 60 < (xl.length : Int) then 60 else (xl.length : Int))))).length c3_0), (5, .slice a5_0 (orderI (xl.take (Int.toNat (if 60 < (xl.length : Int) then 60 else (xl.length : Int))))).length c5_0), (6, .int .i64 x6l23), (37, .bool false), (40, .bool true), (56, .bool (laterB e16 e20)), (57, .slice a1 (xl.take (Int.toNat (if 60 < (xl.length : Int) then 60 else (xl.length : Int)))).length c1), (58, .slice a3_0 (orderI (xl.take (Int.toNat (if 60 < (xl.length : Int) then 60 else (xl.length : Int))))).length c3_0), (59, .int .i64 x6l23)] (by kernel_rfl) ?_
                refine OkQ.opYes (j := 12) (d := 40) (want := true) (b := true) rfl (by kernel_rfl) (by kernel_rfl) rfl (OpQ.indexRo (e := .int .i64) (i := x6l23) (el := e10) rfl rfl Try.underlying24 (by kernel_rfl) hR3_0 h010 he10 rfl fun q21 o21 cs21 _ hat21 hr21 => ?_)
                obtain rfl := hr21
                replace hat21 : At gl23 q21 o21 [.int .i64 e10] := hat21
                refine OkQ.opYes (j := 12) (d := 40) (want := true) (b := true) rfl (by kernel_rfl) (by kernel_rfl) rfl (OpQ.step (v := .int .i64 e10) (Yields.loadRo 0 hat21 (by kernel_rfl) Try.underlying3 rfl (by kernel_rfl)) rfl rfl ?_)
                refine OkQ.opYes (j := 12) (d := 40) (want := true) (b := true) rfl (by kernel_rfl) (by kernel_rfl) rfl (OpQ.indexRo (e := .pair (.str) (.pair (.str) (.pair (.int .i64) (.pair (.bool) (.pair (.int .i64) (.int .i64)))))) (i := e10) (el := e16) rfl rfl Try.underlying22 (by kernel_rfl) hR1 h016 he16 rfl fun q22 o22 cs22 _ hat22 hr22 => ?_)
                obtain ⟨_, _, rfl, rfl, ⟨_, _, rfl, rfl, ⟨_, _, rfl, rfl, ⟨_, _, rfl, rfl, ⟨_, _, rfl, rfl, rfl⟩⟩⟩⟩⟩ := hr22
                replace hat22 : At gl23 q22 o22 [.string ⟨⟨e16.1⟩⟩, .string ⟨⟨e16.2.1⟩⟩, .int .i64 e16.2.2.1, .bool e16.2.2.2.1, .int .i64 e16.2.2.2.2.1, .int .i64 e16.2.2.2.2.2] := hat22
                refine OkQ.opYes (j := 12) (d := 40) (want := true) (b := true) rfl (by kernel_rfl) (by kernel_rfl) rfl (OpQ.step (v := .agg #[.string ⟨⟨e16.1⟩⟩, .string ⟨⟨e16.2.1⟩⟩, .int .i64 e16.2.2.1, .bool e16.2.2.2.1, .int .i64 e16.2.2.2.2.1, .int .i64 e16.2.2.2.2.2]) (Yields.loadAggRo 0 6 #[.string ⟨⟨e16.1⟩⟩, .string ⟨⟨e16.2.1⟩⟩, .int .i64 e16.2.2.1, .bool e16.2.2.2.1, .int .i64 e16.2.2.2.2.1, .int .i64 e16.2.2.2.2.2] hat22 (by kernel_rfl) Try.underlying28 rfl (by kernel_rfl) (by kernel_rfl) (by kernel_rfl)) rfl rfl ?_)
                refine OkQ.batch 4 [(0, .slice a1 (xl.take (Int.toNat (if 60 < (xl.length : Int) then 60 else (xl.length : Int)))).length c1), (3, .bool true), (4, .slice a3_0 (orderI (xl.take (Int.toNat (if 60 < (xl.length : Int) then 60 else (xl.length : Int))))).length c3_0), (5, .slice a5_0 (orderI (xl.take (Int.toNat (if 60 < (xl.length : Int) then 60 else (xl.length : Int))))).length c5_0), (6, .int .i64 x6l23), (37, .bool false), (40, .bool true), (56, .bool (laterB e16 e20)), (63, .agg #[.string ⟨⟨e16.1⟩⟩, .string ⟨⟨e16.2.1⟩⟩, .int .i64 e16.2.2.1, .bool e16.2.2.2.1, .int .i64 e16.2.2.2.2.1, .int .i64 e16.2.2.2.2.2]), (64, .slice a1 (xl.take (Int.toNat (if 60 < (xl.length : Int) then 60 else (xl.length : Int)))).length c1), (65, .slice a3_0 (orderI (xl.take (Int.toNat (if 60 < (xl.length : Int) then 60 else (xl.length : Int))))).length c3_0), (67, .int .i64 (IntKind.wrap .i64 (x6l23 - 1)))] (by kernel_rfl) ?_
                refine OkQ.opYes (j := 12) (d := 40) (want := true) (b := true) rfl (by kernel_rfl) (by kernel_rfl) rfl (OpQ.indexRo (e := .int .i64) (i := IntKind.wrap .i64 (x6l23 - 1)) (el := e18) rfl rfl Try.underlying24 (by kernel_rfl) hR3_0 h018 he18 rfl fun q23 o23 cs23 _ hat23 hr23 => ?_)
                obtain rfl := hr23
                replace hat23 : At gl23 q23 o23 [.int .i64 e18] := hat23
                refine OkQ.opYes (j := 12) (d := 40) (want := true) (b := true) rfl (by kernel_rfl) (by kernel_rfl) rfl (OpQ.step (v := .int .i64 e18) (Yields.loadRo 0 hat23 (by kernel_rfl) Try.underlying3 rfl (by kernel_rfl)) rfl rfl ?_)
                refine OkQ.opYes (j := 12) (d := 40) (want := true) (b := true) rfl (by kernel_rfl) (by kernel_rfl) rfl (OpQ.indexRo (e := .pair (.str) (.pair (.str) (.pair (.int .i64) (.pair (.bool) (.pair (.int .i64) (.int .i64)))))) (i := e18) (el := e20) rfl rfl Try.underlying22 (by kernel_rfl) hR1 h020 he20 rfl fun q24 o24 cs24 _ hat24 hr24 => ?_)
                obtain ⟨_, _, rfl, rfl, ⟨_, _, rfl, rfl, ⟨_, _, rfl, rfl, ⟨_, _, rfl, rfl, ⟨_, _, rfl, rfl, rfl⟩⟩⟩⟩⟩ := hr24
                replace hat24 : At gl23 q24 o24 [.string ⟨⟨e20.1⟩⟩, .string ⟨⟨e20.2.1⟩⟩, .int .i64 e20.2.2.1, .bool e20.2.2.2.1, .int .i64 e20.2.2.2.2.1, .int .i64 e20.2.2.2.2.2] := hat24
                refine OkQ.opYes (j := 12) (d := 40) (want := true) (b := true) rfl (by kernel_rfl) (by kernel_rfl) rfl (OpQ.step (v := .agg #[.string ⟨⟨e20.1⟩⟩, .string ⟨⟨e20.2.1⟩⟩, .int .i64 e20.2.2.1, .bool e20.2.2.2.1, .int .i64 e20.2.2.2.2.1, .int .i64 e20.2.2.2.2.2]) (Yields.loadAggRo 0 6 #[.string ⟨⟨e20.1⟩⟩, .string ⟨⟨e20.2.1⟩⟩, .int .i64 e20.2.2.1, .bool e20.2.2.2.1, .int .i64 e20.2.2.2.2.1, .int .i64 e20.2.2.2.2.2] hat24 (by kernel_rfl) Try.underlying28 rfl (by kernel_rfl) (by kernel_rfl) (by kernel_rfl)) rfl rfl ?_)
                refine OkQ.opYes (j := 12) (d := 40) (want := true) (b := true) rfl (by kernel_rfl) (by kernel_rfl) rfl (OpQ.callG (v := .bool (laterB e16 e20)) (enters (by kernel_rfl) (fun _ => by kernel_rfl)) (fun W hW => later_c e16 e20) rfl ?_)
                refine OkQ.batch 3 [(0, .slice a1 (xl.take (Int.toNat (if 60 < (xl.length : Int) then 60 else (xl.length : Int)))).length c1), (3, .bool true), (4, .slice a3_0 (orderI (xl.take (Int.toNat (if 60 < (xl.length : Int) then 60 else (xl.length : Int))))).length c3_0), (5, .slice a5_0 (orderI (xl.take (Int.toNat (if 60 < (xl.length : Int) then 60 else (xl.length : Int))))).length c5_0), (6, .int .i64 x6l23), (75, .bool (!((laterB e16 e20) == (laterB e16 e20))))] (by kernel_rfl) ?_
                refine OkQ.nil ?_
                refine Ok.thenN ?_
                subst hg20
                subst hg18
                subst hg16
                subst hg10
                refine Ok.reval 75 rfl (show (.bool (!((laterB ((xl.take (Int.toNat (if 60 < (xl.length : Int) then 60 else (xl.length : Int)))).getD (Int.toNat ((orderI (xl.take (Int.toNat (if 60 < (xl.length : Int) then 60 else (xl.length : Int))))).getD (Int.toNat x6l23) default)) default) ((xl.take (Int.toNat (if 60 < (xl.length : Int) then 60 else (xl.length : Int)))).getD (Int.toNat ((orderI (xl.take (Int.toNat (if 60 < (xl.length : Int) then 60 else (xl.length : Int))))).getD (Int.toNat (IntKind.wrap .i64 (x6l23 - 1))) default)) default)) == (laterB ((xl.take (Int.toNat (if 60 < (xl.length : Int) then 60 else (xl.length : Int)))).getD (Int.toNat ((orderI (xl.take (Int.toNat (if 60 < (xl.length : Int) then 60 else (xl.length : Int))))).getD (Int.toNat x6l23) default)) default) ((xl.take (Int.toNat (if 60 < (xl.length : Int) then 60 else (xl.length : Int)))).getD (Int.toNat ((orderI (xl.take (Int.toNat (if 60 < (xl.length : Int) then 60 else (xl.length : Int))))).getD (Int.toNat (IntKind.wrap .i64 (x6l23 - 1))) default)) default)))) : Value) = .bool (ordsV1 xl x6l23) from congrArg (Value.bool) ((Eq.trans (mand_t hc13) (mor_f hc12)))) ?_
                exact fun a W hA hW => ⟨gl23, (Gext.refl w0 gl23), hA.sub (by kernel_rfl), hW, hF⟩
              · replace hF := hF.2 hc13
                refine OkQ.batch 35 [(0, .slice a1 (xl.take (Int.toNat (if 60 < (xl.length : Int) then 60 else (xl.length : Int)))).length c1), (3, .bool true), (4, .slice a3_0 (orderI (xl.take (Int.toNat (if 60 < (xl.length : Int) then 60 else (xl.length : Int))))).length c3_0), (5, .slice a5_0 (orderI (xl.take (Int.toNat (if 60 < (xl.length : Int) then 60 else (xl.length : Int))))).length c5_0), (6, .int .i64 x6l23), (75, .bool false)] (by kernel_rfl) ?_
                refine OkQ.nil ?_
                refine Ok.thenN ?_
                subst hg10
                refine Ok.reval 75 rfl (show (.bool false : Value) = .bool (ordsV1 xl x6l23) from congrArg (Value.bool) ((Eq.trans (mand_f hc13) (mor_f hc12)))) ?_
                exact fun a W hA hW => ⟨gl23, (Gext.refl w0 gl23), hA.sub (by kernel_rfl), hW, hF⟩
          ·
            clear hF
            rintro a W ⟨gj32, hxj32, hA, hW, hF⟩
            refine (?_ : Ok _ _ _ _ _ _) a W hA hW
            clear hA hW
            replace hR1 := hR1.mono hxj32.1
            replace hR3_0 := hR3_0.mono hxj32.1
            replace hR5_0 := hR5_0.mono hxj32.1
            refine Ok.cond (b := (ordsV1 xl x6l23)) rfl (fun hc8 => ?_) (fun hc8 => ?_)
            · replace hF := hF.1 hc8
              refine Ok.seq ?_
              refine Ok.region ?_
              refine Ok.batch 1 [(2, .bool false)] (by kernel_rfl) ?_
              refine Ok.nil ?_
              refine Ok.thenN ?_
              refine Ok.ret ?_
              refine Ok.blockR ?_
              refine Ok.thenR ?_
              refine Ok.thenR ?_
              refine Ok.blockR ?_
              refine Ok.thenR ?_
              exact Ok.resH (vs := [.bool false]) (.inl rfl) rfl (.cons (.tmp rfl) .nil) (((hx3.trans hx5).trans hxl23).trans hxj32) ⟨false, rfl, rfl, hF⟩
            · replace hF := hF.2 hc8
              refine Ok.skip ?_
              refine Ok.blockN ?_
              refine Ok.thenN ?_
              refine Ok.region ?_
              refine Ok.batch 3 [(0, .slice a1 (xl.take (Int.toNat (if 60 < (xl.length : Int) then 60 else (xl.length : Int)))).length c1), (3, .bool true), (4, .slice a3_0 (orderI (xl.take (Int.toNat (if 60 < (xl.length : Int) then 60 else (xl.length : Int))))).length c3_0), (5, .slice a5_0 (orderI (xl.take (Int.toNat (if 60 < (xl.length : Int) then 60 else (xl.length : Int))))).length c5_0), (6, .int .i64 (IntKind.wrap .i64 (x6l23 + 1)))] (by kernel_rfl) ?_
              refine Ok.nil ?_
              refine Ok.thenN ?_
              exact fun a W hA hW => ⟨k23, Nat.lt_succ_self _, gj32, (hxl23.trans hxj32), IntKind.wrap .i64 (x6l23 + 1), hA.sub (by kernel_rfl), hW, hF⟩
        · replace hF := hF.2 hc7
          refine Ok.exit ?_
          refine Ok.thenE ?_
          refine Ok.thenE ?_
          refine Ok.blockHit ?_
          refine Ok.thenN ?_
          refine Ok.seq ?_
          refine Ok.region ?_
          refine Ok.batch 2 [(2, .bool true)] (by kernel_rfl) ?_
          refine Ok.nil ?_
          refine Ok.thenN ?_
          refine Ok.ret ?_
          exact Ok.resH (vs := [.bool true]) (.inl rfl) rfl (.cons (.tmp rfl) .nil) ((hx3.trans hx5).trans hxl23) ⟨true, rfl, rfl, hF⟩
theorem ords_loop {l : List G} {m : List G} (hm : l.take (Int.toNat (if 60 < (l.length : Int) then 60 else (l.length : Int))) = m) (hl : m.length ≤ 60) : ∀ (n k : Nat), m.length < n + k → k ≤ m.length → ordsl23 l (fun r => r = true) n k := by
  have ho : (orderI m).length = m.length := ordN_len m m.length
  have hi : ∀ k : Nat, k < m.length → 0 ≤ (orderI m).getD k default ∧ Int.toNat ((orderI m).getD k default) < m.length := by
    intro k hk
    have := ordN_in m m.length ((orderI m).getD k default) (by rw [gdE (by omega)]; exact List.getElem_mem _)
    omega
  intro n
  induction n with
  | zero => intro k h1 h2; omega
  | succ n ih =>
    intro k h1 h2
    show ordsl23b l _ k _
    have hv : ordsV1 l k = false := by unfold ordsV1; simp
    have hj : k < m.length → ordsj32 l (fun r => r = true) (k : Int) (ordsl23 l (fun r => r = true) n) := by
      intro hk
      unfold ordsj32
      rw [hv]
      refine ⟨fun h => (by cases h), fun _ => ?_⟩
      rw [w64 (by omega), show (k : Int) + 1 = ((k + 1 : Nat) : Int) by omega]
      exact ih (k + 1) (by omega) (by omega)
    unfold ordsl23b
    rw [hm, show (k : Int).toNat = k by omega]
    refine ⟨fun h => ?_, fun h => rfl⟩
    have h := of_decide_eq_true h
    have hj := hj (by omega)
    refine ⟨by omega, by omega, fun _ => hj, fun _ => ⟨fun h3 => ?_, fun _ => hj⟩⟩
    have h3 := of_decide_eq_true h3
    rw [w64 (by omega), show ((k : Int) - 1).toNat = k - 1 by omega]
    have a := hi k (by omega)
    have b := hi (k - 1) (by omega)
    exact ⟨a.1, a.2, by omega, by omega, b.1, b.2, hj⟩
theorem ords_F (l : List G) : ordsF l (fun r => r = true) := by
  have hc : 0 ≤ (if 60 < (l.length : Int) then 60 else (l.length : Int)) ∧ (if 60 < (l.length : Int) then 60 else (l.length : Int)) ≤ (l.length : Int) ∧ (if 60 < (l.length : Int) then 60 else (l.length : Int)) ≤ 60 := by
    split <;> omega
  have hlen : (l.take (Int.toNat (if 60 < (l.length : Int) then 60 else (l.length : Int)))).length ≤ 60 := by
    rw [List.length_take]; omega
  have hp : orderP (l.take (Int.toNat (if 60 < (l.length : Int) then 60 else (l.length : Int)))) := by
    unfold orderP; omega
  unfold ordsF
  refine ⟨by omega, hc.1, hc.2.1, hp, hp, fun h => ?_, fun _ => ⟨_, ords_loop rfl hlen _ 0 (Nat.lt_succ_self _) (Nat.zero_le _)⟩⟩
  simp at h
set_option linter.unusedVariables false in
theorem ords_c {g : Ghost} {axl_0 : Option Addr} {cxl_0 : Nat} (xl : List (List UInt8 × List UInt8 × Int × Bool × Int × Int)) (hRxl_0 : Rep g (.slice (.pair (.str) (.pair (.str) (.pair (.int .i64) (.pair (.bool) (.pair (.int .i64) (.int .i64))))))) [.slice axl_0 xl.length cxl_0] xl)  : CallsG Try.prog 3 #[.slice axl_0 xl.length cxl_0] g (.bool true) :=
  (ords_ok xl hRxl_0 _ (ords_F xl)).gives (by rintro g' H' v _ ⟨r0, rfl, rfl, hK⟩; subst hK; rfl)
end Go.Proofs.Ytjkimpnppldekaa.Ca
