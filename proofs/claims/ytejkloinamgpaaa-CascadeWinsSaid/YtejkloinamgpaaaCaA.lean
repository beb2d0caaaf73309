/- CascadeWins, CascadeOrders: functions of their laws. -/
import Derived.Test.YtejkloinamgpaaaPrA
import Derived.Test.YtejkloinamgpaaaSto
namespace Go.Proofs.Ytejkloinamgpaaa.Ca
open Go.Eng IntWalk Pr
set_option linter.unusedVariables false
abbrev G := List UInt8 × List UInt8 × Int × Bool × Int × Int
def rankF (pg_Origin : Int) (pg_Important : Bool) (K : Int → Prop) : Prop :=
  ((!pg_Important) = true → K pg_Origin) ∧ ((!pg_Important) = false → (((pg_Origin == 1)) = true → K 3) ∧ (((pg_Origin == 1)) = false → (((pg_Origin == 2)) = true → K 4) ∧ (((pg_Origin == 2)) = false → K 5)))
set_option maxHeartbeats 4000000 in
set_option maxRecDepth 100000 in
set_option linter.unusedVariables false in
theorem rank_ok {g : Ghost} (pg_Name : List UInt8) (pg_Value : List UInt8) (pg_Origin : Int) (pg_Important : Bool) (pg_Weight : Int) (pg_Place : Int) (K : Int → Prop)
    (hF : rankF pg_Origin pg_Important K) : CallsK Try.prog 71 #[.agg #[.string ⟨⟨pg_Name⟩⟩, .string ⟨⟨pg_Value⟩⟩, .int .i64 pg_Origin, .bool pg_Important, .int .i64 pg_Weight, .int .i64 pg_Place]] g (fun v => ∃ r0 : Int, v = .int .i64 r0 ∧ K r0) := by
  refine CallsK.enter 14 [(0, .agg #[.string ⟨⟨pg_Name⟩⟩, .string ⟨⟨pg_Value⟩⟩, .int .i64 pg_Origin, .bool pg_Important, .int .i64 pg_Weight, .int .i64 pg_Place])] Try.func71 rfl (by kernel_rfl) (by kernel_rfl) (by kernel_rfl) fun w0 => ?_
  refine Ok.seq ?_
  refine Ok.region ?_
  refine Ok.op rfl (OpOk.box (v := .agg #[.string ⟨⟨pg_Name⟩⟩, .string ⟨⟨pg_Value⟩⟩, .int .i64 pg_Origin, .bool pg_Important, .int .i64 pg_Weight, .int .i64 pg_Place]) (cs := #[.string ⟨⟨pg_Name⟩⟩, .string ⟨⟨pg_Value⟩⟩, .int .i64 pg_Origin, .bool pg_Important, .int .i64 pg_Weight, .int .i64 pg_Place]) rfl (by kernel_rfl) rfl fun b1 => ?_)
  refine Ok.batch 1 [(1, .pointer (some ⟨b1, 0, none⟩))] (by kernel_rfl) ?_
  refine Ok.nil ?_
  refine Ok.thenN ?_
  refine Ok.seq ?_
  refine Ok.seq ?_
  refine Ok.region ?_
  refine Ok.batch 1 [(1, .pointer (some ⟨b1, 0, none⟩)), (3, .pointer (some ⟨b1, 3, none⟩))] (by kernel_rfl) ?_
  refine Ok.op rfl (OpOk.step (v := .bool pg_Important) (Yields.load 0 rfl rfl Try.underlying4 rfl (by kernel_rfl)) rfl rfl ?_)
  refine Ok.batch 1 [(1, .pointer (some ⟨b1, 0, none⟩)), (5, .bool (!pg_Important))] (by kernel_rfl) ?_
  refine Ok.nil ?_
  refine Ok.thenN ?_
  refine Ok.cond (b := !pg_Important) rfl (fun hc => ?_) (fun hc => ?_)
  · replace hF := hF.1 hc
    refine Ok.seq ?_
    refine Ok.region ?_
    refine Ok.batch 1 [(6, .pointer (some ⟨b1, 2, none⟩))] (by kernel_rfl) ?_
    refine Ok.op rfl (OpOk.step (v := .int .i64 pg_Origin) (Yields.load 0 rfl rfl Try.underlying3 rfl (by kernel_rfl)) rfl rfl ?_)
    refine Ok.batch 1 [(2, .int .i64 pg_Origin)] (by kernel_rfl) ?_
    refine Ok.nil ?_
    refine Ok.thenN ?_
    refine Ok.ret ?_
    refine Ok.thenR ?_
    exact Ok.res1 (.inl rfl) rfl (.tmp rfl) ⟨pg_Origin, rfl, hF⟩
  · replace hF := hF.2 hc
    refine Ok.skip ?_
    refine Ok.thenN ?_
    refine Ok.seq ?_
    refine Ok.seq ?_
    refine Ok.region ?_
    refine Ok.batch 1 [(8, .pointer (some ⟨b1, 2, none⟩))] (by kernel_rfl) ?_
    refine Ok.op rfl (OpOk.step (v := .int .i64 pg_Origin) (Yields.load 0 rfl rfl Try.underlying3 rfl (by kernel_rfl)) rfl rfl ?_)
    refine Ok.nil ?_
    refine Ok.thenN ?_
    refine Ok.block ?_
    refine Ok.seq ?_
    refine Ok.region ?_
    refine Ok.batch 2 [(9, .int .i64 pg_Origin), (10, .bool (pg_Origin == 1))] (by kernel_rfl) ?_
    refine Ok.nil ?_
    refine Ok.thenN ?_
    refine Ok.cond (b := (pg_Origin == 1)) rfl (fun hc => ?_) (fun hc => ?_)
    · replace hF := hF.1 hc
      refine Ok.seq ?_
      refine Ok.region ?_
      refine Ok.batch 1 [(2, .int .i64 3)] (by kernel_rfl) ?_
      refine Ok.nil ?_
      refine Ok.thenN ?_
      refine Ok.ret ?_
      refine Ok.blockR ?_
      refine Ok.thenR ?_
      exact Ok.res1 (.inl rfl) rfl (.tmp rfl) ⟨3, rfl, hF⟩
    · replace hF := hF.2 hc
      refine Ok.seq ?_
      refine Ok.region ?_
      refine Ok.batch 2 [(12, .bool (pg_Origin == 2))] (by kernel_rfl) ?_
      refine Ok.nil ?_
      refine Ok.thenN ?_
      refine Ok.cond (b := (pg_Origin == 2)) rfl (fun hc => ?_) (fun hc => ?_)
      · replace hF := hF.1 hc
        refine Ok.seq ?_
        refine Ok.region ?_
        refine Ok.batch 1 [(2, .int .i64 4)] (by kernel_rfl) ?_
        refine Ok.nil ?_
        refine Ok.thenN ?_
        refine Ok.ret ?_
        refine Ok.blockR ?_
        refine Ok.thenR ?_
        exact Ok.res1 (.inl rfl) rfl (.tmp rfl) ⟨4, rfl, hF⟩
      · replace hF := hF.2 hc
        refine Ok.skip ?_
        refine Ok.blockN ?_
        refine Ok.thenN ?_
        refine Ok.seq ?_
        refine Ok.region ?_
        refine Ok.batch 1 [(2, .int .i64 5)] (by kernel_rfl) ?_
        refine Ok.nil ?_
        refine Ok.thenN ?_
        refine Ok.ret ?_
        exact Ok.res1 (.inl rfl) rfl (.tmp rfl) ⟨5, rfl, hF⟩
def rankI (g : G) : Int := if g.2.2.2.1 = false then g.2.2.1 else if g.2.2.1 = 1 then 3 else if g.2.2.1 = 2 then 4 else 5
theorem rank_F (g : G) : rankF g.2.2.1 g.2.2.2.1 (fun r => r = rankI g) := by
  unfold rankF rankI
  refine ⟨fun h => ?_, fun h => ⟨fun h2 => ?_, fun h2 => ⟨fun h3 => ?_, fun h3 => ?_⟩⟩⟩
  · have h : g.2.2.2.1 = false := by simpa using h
    rw [if_pos h]
  all_goals
    have h : ¬ g.2.2.2.1 = false := by simpa using h
    rw [if_neg h]
  · have h2 : g.2.2.1 = 1 := by simpa using h2
    rw [if_pos h2]
  all_goals
    have h2 : ¬ g.2.2.1 = 1 := by simpa using h2
    rw [if_neg h2]
  · have h3 : g.2.2.1 = 2 := by simpa using h3
    rw [if_pos h3]
  · have h3 : ¬ g.2.2.1 = 2 := by simpa using h3
    rw [if_neg h3]
set_option linter.unusedVariables false in
theorem rank_c {g : Ghost} (xg : List UInt8 × List UInt8 × Int × Bool × Int × Int)  : CallsG Try.prog 71 #[.agg #[.string ⟨⟨xg.1⟩⟩, .string ⟨⟨xg.2.1⟩⟩, .int .i64 xg.2.2.1, .bool xg.2.2.2.1, .int .i64 xg.2.2.2.2.1, .int .i64 xg.2.2.2.2.2]] g (.int .i64 (rankI xg)) :=
  (rank_ok xg.1 xg.2.1 xg.2.2.1 xg.2.2.2.1 xg.2.2.2.2.1 xg.2.2.2.2.2 _ (rank_F xg)).gives (by rintro _ ⟨_, rfl, rfl⟩; rfl)
def rrankF (pg_Origin : Int) (pg_Important : Bool) (K : Int → Prop) : Prop :=
  ((!pg_Important) = true → K pg_Origin) ∧ ((!pg_Important) = false → (((pg_Origin == 1)) = true → K 3) ∧ (((pg_Origin == 1)) = false → (((pg_Origin == 2)) = true → K 4) ∧ (((pg_Origin == 2)) = false → K 5)))
set_option maxHeartbeats 4000000 in
set_option maxRecDepth 100000 in
set_option linter.unusedVariables false in
theorem rrank_ok {g : Ghost} (pg_Name : List UInt8) (pg_Value : List UInt8) (pg_Origin : Int) (pg_Important : Bool) (pg_Weight : Int) (pg_Place : Int) (K : Int → Prop)
    (hF : rrankF pg_Origin pg_Important K) : CallsK Try.prog 56 #[.agg #[.string ⟨⟨pg_Name⟩⟩, .string ⟨⟨pg_Value⟩⟩, .int .i64 pg_Origin, .bool pg_Important, .int .i64 pg_Weight, .int .i64 pg_Place]] g (fun v => ∃ r0 : Int, v = .int .i64 r0 ∧ K r0) := by
  refine CallsK.enter 14 [(0, .agg #[.string ⟨⟨pg_Name⟩⟩, .string ⟨⟨pg_Value⟩⟩, .int .i64 pg_Origin, .bool pg_Important, .int .i64 pg_Weight, .int .i64 pg_Place])] Try.func56 rfl (by kernel_rfl) (by kernel_rfl) (by kernel_rfl) fun w0 => ?_
  refine Ok.seq ?_
  refine Ok.region ?_
  refine Ok.op rfl (OpOk.box (v := .agg #[.string ⟨⟨pg_Name⟩⟩, .string ⟨⟨pg_Value⟩⟩, .int .i64 pg_Origin, .bool pg_Important, .int .i64 pg_Weight, .int .i64 pg_Place]) (cs := #[.string ⟨⟨pg_Name⟩⟩, .string ⟨⟨pg_Value⟩⟩, .int .i64 pg_Origin, .bool pg_Important, .int .i64 pg_Weight, .int .i64 pg_Place]) rfl (by kernel_rfl) rfl fun b1 => ?_)
  refine Ok.batch 1 [(1, .pointer (some ⟨b1, 0, none⟩))] (by kernel_rfl) ?_
  refine Ok.nil ?_
  refine Ok.thenN ?_
  refine Ok.seq ?_
  refine Ok.seq ?_
  refine Ok.region ?_
  refine Ok.batch 1 [(1, .pointer (some ⟨b1, 0, none⟩)), (3, .pointer (some ⟨b1, 3, none⟩))] (by kernel_rfl) ?_
  refine Ok.op rfl (OpOk.step (v := .bool pg_Important) (Yields.load 0 rfl rfl Try.underlying4 rfl (by kernel_rfl)) rfl rfl ?_)
  refine Ok.batch 1 [(1, .pointer (some ⟨b1, 0, none⟩)), (5, .bool (!pg_Important))] (by kernel_rfl) ?_
  refine Ok.nil ?_
  refine Ok.thenN ?_
  refine Ok.cond (b := !pg_Important) rfl (fun hc => ?_) (fun hc => ?_)
  · replace hF := hF.1 hc
    refine Ok.seq ?_
    refine Ok.region ?_
    refine Ok.batch 1 [(6, .pointer (some ⟨b1, 2, none⟩))] (by kernel_rfl) ?_
    refine Ok.op rfl (OpOk.step (v := .int .i64 pg_Origin) (Yields.load 0 rfl rfl Try.underlying3 rfl (by kernel_rfl)) rfl rfl ?_)
    refine Ok.batch 1 [(2, .int .i64 pg_Origin)] (by kernel_rfl) ?_
    refine Ok.nil ?_
    refine Ok.thenN ?_
    refine Ok.ret ?_
    refine Ok.thenR ?_
    exact Ok.res1 (.inl rfl) rfl (.tmp rfl) ⟨pg_Origin, rfl, hF⟩
  · replace hF := hF.2 hc
    refine Ok.skip ?_
    refine Ok.thenN ?_
    refine Ok.seq ?_
    refine Ok.seq ?_
    refine Ok.region ?_
    refine Ok.batch 1 [(1, .pointer (some ⟨b1, 0, none⟩)), (8, .pointer (some ⟨b1, 2, none⟩))] (by kernel_rfl) ?_
    refine Ok.op rfl (OpOk.step (v := .int .i64 pg_Origin) (Yields.load 0 rfl rfl Try.underlying3 rfl (by kernel_rfl)) rfl rfl ?_)
    refine Ok.batch 1 [(1, .pointer (some ⟨b1, 0, none⟩)), (10, .bool (pg_Origin == 1))] (by kernel_rfl) ?_
    refine Ok.nil ?_
    refine Ok.thenN ?_
    refine Ok.cond (b := (pg_Origin == 1)) rfl (fun hc => ?_) (fun hc => ?_)
    · replace hF := hF.1 hc
      refine Ok.seq ?_
      refine Ok.region ?_
      refine Ok.batch 1 [(2, .int .i64 3)] (by kernel_rfl) ?_
      refine Ok.nil ?_
      refine Ok.thenN ?_
      refine Ok.ret ?_
      refine Ok.thenR ?_
      exact Ok.res1 (.inl rfl) rfl (.tmp rfl) ⟨3, rfl, hF⟩
    · replace hF := hF.2 hc
      refine Ok.skip ?_
      refine Ok.thenN ?_
      refine Ok.seq ?_
      refine Ok.seq ?_
      refine Ok.region ?_
      refine Ok.batch 1 [(11, .pointer (some ⟨b1, 2, none⟩))] (by kernel_rfl) ?_
      refine Ok.op rfl (OpOk.step (v := .int .i64 pg_Origin) (Yields.load 0 rfl rfl Try.underlying3 rfl (by kernel_rfl)) rfl rfl ?_)
      refine Ok.batch 1 [(13, .bool (pg_Origin == 2))] (by kernel_rfl) ?_
      refine Ok.nil ?_
      refine Ok.thenN ?_
      refine Ok.cond (b := (pg_Origin == 2)) rfl (fun hc => ?_) (fun hc => ?_)
      · replace hF := hF.1 hc
        refine Ok.seq ?_
        refine Ok.region ?_
        refine Ok.batch 1 [(2, .int .i64 4)] (by kernel_rfl) ?_
        refine Ok.nil ?_
        refine Ok.thenN ?_
        refine Ok.ret ?_
        refine Ok.thenR ?_
        exact Ok.res1 (.inl rfl) rfl (.tmp rfl) ⟨4, rfl, hF⟩
      · replace hF := hF.2 hc
        refine Ok.skip ?_
        refine Ok.thenN ?_
        refine Ok.seq ?_
        refine Ok.region ?_
        refine Ok.batch 1 [(2, .int .i64 5)] (by kernel_rfl) ?_
        refine Ok.nil ?_
        refine Ok.thenN ?_
        refine Ok.ret ?_
        exact Ok.res1 (.inl rfl) rfl (.tmp rfl) ⟨5, rfl, hF⟩
theorem rrank_F (g : G) : rrankF g.2.2.1 g.2.2.2.1 (fun r => r = rankI g) := rank_F g
set_option linter.unusedVariables false in
theorem rrank_c {g : Ghost} (xg : List UInt8 × List UInt8 × Int × Bool × Int × Int)  : CallsG Try.prog 56 #[.agg #[.string ⟨⟨xg.1⟩⟩, .string ⟨⟨xg.2.1⟩⟩, .int .i64 xg.2.2.1, .bool xg.2.2.2.1, .int .i64 xg.2.2.2.2.1, .int .i64 xg.2.2.2.2.2]] g (.int .i64 (rankI xg)) :=
  (rrank_ok xg.1 xg.2.1 xg.2.2.1 xg.2.2.2.1 xg.2.2.2.2.1 xg.2.2.2.2.2 _ (rrank_F xg)).gives (by rintro _ ⟨_, rfl, rfl⟩; rfl)
def laterF (pa_Name : List UInt8) (pa_Value : List UInt8) (pa_Origin : Int) (pa_Important : Bool) (pa_Weight : Int) (pa_Place : Int) (pb_Name : List UInt8) (pb_Value : List UInt8) (pb_Origin : Int) (pb_Important : Bool) (pb_Weight : Int) (pb_Place : Int) (K : Bool → Prop) : Prop :=
  ((((rankI (pa_Name, pa_Value, pa_Origin, pa_Important, pa_Weight, pa_Place)) != (rankI (pb_Name, pb_Value, pb_Origin, pb_Important, pb_Weight, pb_Place)))) = true → K (decide ((rankI (pa_Name, pa_Value, pa_Origin, pa_Important, pa_Weight, pa_Place)) < (rankI (pb_Name, pb_Value, pb_Origin, pb_Important, pb_Weight, pb_Place))))) ∧ ((((rankI (pa_Name, pa_Value, pa_Origin, pa_Important, pa_Weight, pa_Place)) != (rankI (pb_Name, pb_Value, pb_Origin, pb_Important, pb_Weight, pb_Place)))) = false → (((pa_Weight != pb_Weight)) = true → K (decide (pa_Weight < pb_Weight))) ∧ (((pa_Weight != pb_Weight)) = false → K (decide (pa_Place < pb_Place))))
set_option maxHeartbeats 4000000 in
set_option maxRecDepth 100000 in
set_option linter.unusedVariables false in
theorem later_ok {g : Ghost} (pa_Name : List UInt8) (pa_Value : List UInt8) (pa_Origin : Int) (pa_Important : Bool) (pa_Weight : Int) (pa_Place : Int) (pb_Name : List UInt8) (pb_Value : List UInt8) (pb_Origin : Int) (pb_Important : Bool) (pb_Weight : Int) (pb_Place : Int) (K : Bool → Prop)
    (hF : laterF pa_Name pa_Value pa_Origin pa_Important pa_Weight pa_Place pb_Name pb_Value pb_Origin pb_Important pb_Weight pb_Place K) : CallsK Try.prog 34 #[.agg #[.string ⟨⟨pa_Name⟩⟩, .string ⟨⟨pa_Value⟩⟩, .int .i64 pa_Origin, .bool pa_Important, .int .i64 pa_Weight, .int .i64 pa_Place], .agg #[.string ⟨⟨pb_Name⟩⟩, .string ⟨⟨pb_Value⟩⟩, .int .i64 pb_Origin, .bool pb_Important, .int .i64 pb_Weight, .int .i64 pb_Place]] g (fun v => ∃ r0 : Bool, v = .bool r0 ∧ K r0) := by
  refine CallsK.enter 30 [(0, .agg #[.string ⟨⟨pa_Name⟩⟩, .string ⟨⟨pa_Value⟩⟩, .int .i64 pa_Origin, .bool pa_Important, .int .i64 pa_Weight, .int .i64 pa_Place]), (1, .agg #[.string ⟨⟨pb_Name⟩⟩, .string ⟨⟨pb_Value⟩⟩, .int .i64 pb_Origin, .bool pb_Important, .int .i64 pb_Weight, .int .i64 pb_Place])] Try.func34 rfl (by kernel_rfl) (by kernel_rfl) (by kernel_rfl) fun w0 => ?_
  refine Ok.seq ?_
  refine Ok.region ?_
  refine Ok.op rfl (OpOk.box (v := .agg #[.string ⟨⟨pa_Name⟩⟩, .string ⟨⟨pa_Value⟩⟩, .int .i64 pa_Origin, .bool pa_Important, .int .i64 pa_Weight, .int .i64 pa_Place]) (cs := #[.string ⟨⟨pa_Name⟩⟩, .string ⟨⟨pa_Value⟩⟩, .int .i64 pa_Origin, .bool pa_Important, .int .i64 pa_Weight, .int .i64 pa_Place]) rfl (by kernel_rfl) rfl fun b1 => ?_)
  refine Ok.op rfl (OpOk.box (v := .agg #[.string ⟨⟨pb_Name⟩⟩, .string ⟨⟨pb_Value⟩⟩, .int .i64 pb_Origin, .bool pb_Important, .int .i64 pb_Weight, .int .i64 pb_Place]) (cs := #[.string ⟨⟨pb_Name⟩⟩, .string ⟨⟨pb_Value⟩⟩, .int .i64 pb_Origin, .bool pb_Important, .int .i64 pb_Weight, .int .i64 pb_Place]) rfl (by kernel_rfl) rfl fun b2 => ?_)
  refine Ok.batch 1 [(2, .pointer (some ⟨b1, 0, none⟩)), (3, .pointer (some ⟨b2, 0, none⟩))] (by kernel_rfl) ?_
  refine Ok.nil ?_
  refine Ok.thenN ?_
  refine Ok.seq ?_
  refine Ok.seq ?_
  refine Ok.quiet' (by kernel_rfl) (by kernel_rfl) ?_
  refine OkQ.op rfl (OpQ.step (v := .agg #[.string ⟨⟨pa_Name⟩⟩, .string ⟨⟨pa_Value⟩⟩, .int .i64 pa_Origin, .bool pa_Important, .int .i64 pa_Weight, .int .i64 pa_Place]) (Yields.loadAgg 1 6 #[.string ⟨⟨pa_Name⟩⟩, .string ⟨⟨pa_Value⟩⟩, .int .i64 pa_Origin, .bool pa_Important, .int .i64 pa_Weight, .int .i64 pa_Place] rfl rfl Try.underlying36 rfl (by kernel_rfl) (by kernel_rfl) (by kernel_rfl)) rfl rfl ?_)
  refine OkQ.op rfl (OpQ.call (v := .int .i64 (rankI (pa_Name, pa_Value, pa_Origin, pa_Important, pa_Weight, pa_Place))) (enters (by kernel_rfl) (fun _ => by kernel_rfl)) (rrank_c (pa_Name, pa_Value, pa_Origin, pa_Important, pa_Weight, pa_Place)) rfl rfl ?_)
  refine OkQ.op rfl (OpQ.step (v := .agg #[.string ⟨⟨pb_Name⟩⟩, .string ⟨⟨pb_Value⟩⟩, .int .i64 pb_Origin, .bool pb_Important, .int .i64 pb_Weight, .int .i64 pb_Place]) (Yields.loadAgg 0 6 #[.string ⟨⟨pb_Name⟩⟩, .string ⟨⟨pb_Value⟩⟩, .int .i64 pb_Origin, .bool pb_Important, .int .i64 pb_Weight, .int .i64 pb_Place] rfl rfl Try.underlying36 rfl (by kernel_rfl) (by kernel_rfl) (by kernel_rfl)) rfl rfl ?_)
  refine OkQ.op rfl (OpQ.call (v := .int .i64 (rankI (pb_Name, pb_Value, pb_Origin, pb_Important, pb_Weight, pb_Place))) (enters (by kernel_rfl) (fun _ => by kernel_rfl)) (rrank_c (pb_Name, pb_Value, pb_Origin, pb_Important, pb_Weight, pb_Place)) rfl rfl ?_)
  refine OkQ.batch 1 [(2, .pointer (some ⟨b1, 0, none⟩)), (3, .pointer (some ⟨b2, 0, none⟩)), (9, .bool ((rankI (pa_Name, pa_Value, pa_Origin, pa_Important, pa_Weight, pa_Place)) != (rankI (pb_Name, pb_Value, pb_Origin, pb_Important, pb_Weight, pb_Place))))] (by kernel_rfl) ?_
  refine OkQ.nil ?_
  refine Ok.thenN ?_
  refine Ok.cond (b := ((rankI (pa_Name, pa_Value, pa_Origin, pa_Important, pa_Weight, pa_Place)) != (rankI (pb_Name, pb_Value, pb_Origin, pb_Important, pb_Weight, pb_Place)))) rfl (fun hc => ?_) (fun hc => ?_)
  · replace hF := hF.1 hc
    refine Ok.seq ?_
    refine Ok.quiet' (by kernel_rfl) (by kernel_rfl) ?_
    refine OkQ.op rfl (OpQ.step (v := .agg #[.string ⟨⟨pa_Name⟩⟩, .string ⟨⟨pa_Value⟩⟩, .int .i64 pa_Origin, .bool pa_Important, .int .i64 pa_Weight, .int .i64 pa_Place]) (Yields.loadAgg 1 6 #[.string ⟨⟨pa_Name⟩⟩, .string ⟨⟨pa_Value⟩⟩, .int .i64 pa_Origin, .bool pa_Important, .int .i64 pa_Weight, .int .i64 pa_Place] rfl rfl Try.underlying36 rfl (by kernel_rfl) (by kernel_rfl) (by kernel_rfl)) rfl rfl ?_)
    refine OkQ.op rfl (OpQ.call (v := .int .i64 (rankI (pa_Name, pa_Value, pa_Origin, pa_Important, pa_Weight, pa_Place))) (enters (by kernel_rfl) (fun _ => by kernel_rfl)) (rrank_c (pa_Name, pa_Value, pa_Origin, pa_Important, pa_Weight, pa_Place)) rfl rfl ?_)
    refine OkQ.op rfl (OpQ.step (v := .agg #[.string ⟨⟨pb_Name⟩⟩, .string ⟨⟨pb_Value⟩⟩, .int .i64 pb_Origin, .bool pb_Important, .int .i64 pb_Weight, .int .i64 pb_Place]) (Yields.loadAgg 0 6 #[.string ⟨⟨pb_Name⟩⟩, .string ⟨⟨pb_Value⟩⟩, .int .i64 pb_Origin, .bool pb_Important, .int .i64 pb_Weight, .int .i64 pb_Place] rfl rfl Try.underlying36 rfl (by kernel_rfl) (by kernel_rfl) (by kernel_rfl)) rfl rfl ?_)
    refine OkQ.op rfl (OpQ.call (v := .int .i64 (rankI (pb_Name, pb_Value, pb_Origin, pb_Important, pb_Weight, pb_Place))) (enters (by kernel_rfl) (fun _ => by kernel_rfl)) (rrank_c (pb_Name, pb_Value, pb_Origin, pb_Important, pb_Weight, pb_Place)) rfl rfl ?_)
    refine OkQ.batch 2 [(4, .bool (decide ((rankI (pa_Name, pa_Value, pa_Origin, pa_Important, pa_Weight, pa_Place)) < (rankI (pb_Name, pb_Value, pb_Origin, pb_Important, pb_Weight, pb_Place)))))] (by kernel_rfl) ?_
    refine OkQ.nil ?_
    refine Ok.thenN ?_
    refine Ok.ret ?_
    refine Ok.thenR ?_
    exact Ok.res1 (.inl rfl) rfl (.tmp rfl) ⟨decide ((rankI (pa_Name, pa_Value, pa_Origin, pa_Important, pa_Weight, pa_Place)) < (rankI (pb_Name, pb_Value, pb_Origin, pb_Important, pb_Weight, pb_Place))), rfl, hF⟩
  · replace hF := hF.2 hc
    refine Ok.skip ?_
    refine Ok.thenN ?_
    refine Ok.seq ?_
    refine Ok.seq ?_
    refine Ok.region ?_
    refine Ok.batch 1 [(2, .pointer (some ⟨b1, 0, none⟩)), (3, .pointer (some ⟨b2, 0, none⟩)), (15, .pointer (some ⟨b1, 4, none⟩))] (by kernel_rfl) ?_
    refine Ok.op rfl (OpOk.step (v := .int .i64 pa_Weight) (Yields.load 1 rfl rfl Try.underlying3 rfl (by kernel_rfl)) rfl rfl ?_)
    refine Ok.batch 1 [(2, .pointer (some ⟨b1, 0, none⟩)), (3, .pointer (some ⟨b2, 0, none⟩)), (16, .int .i64 pa_Weight), (17, .pointer (some ⟨b2, 4, none⟩))] (by kernel_rfl) ?_
    refine Ok.op rfl (OpOk.step (v := .int .i64 pb_Weight) (Yields.load 0 rfl rfl Try.underlying3 rfl (by kernel_rfl)) rfl rfl ?_)
    refine Ok.batch 1 [(2, .pointer (some ⟨b1, 0, none⟩)), (3, .pointer (some ⟨b2, 0, none⟩)), (19, .bool (pa_Weight != pb_Weight))] (by kernel_rfl) ?_
    refine Ok.nil ?_
    refine Ok.thenN ?_
    refine Ok.cond (b := (pa_Weight != pb_Weight)) rfl (fun hc => ?_) (fun hc => ?_)
    · replace hF := hF.1 hc
      refine Ok.seq ?_
      refine Ok.region ?_
      refine Ok.batch 1 [(3, .pointer (some ⟨b2, 0, none⟩)), (20, .pointer (some ⟨b1, 4, none⟩))] (by kernel_rfl) ?_
      refine Ok.op rfl (OpOk.step (v := .int .i64 pa_Weight) (Yields.load 1 rfl rfl Try.underlying3 rfl (by kernel_rfl)) rfl rfl ?_)
      refine Ok.batch 1 [(21, .int .i64 pa_Weight), (22, .pointer (some ⟨b2, 4, none⟩))] (by kernel_rfl) ?_
      refine Ok.op rfl (OpOk.step (v := .int .i64 pb_Weight) (Yields.load 0 rfl rfl Try.underlying3 rfl (by kernel_rfl)) rfl rfl ?_)
      refine Ok.batch 2 [(4, .bool (decide (pa_Weight < pb_Weight)))] (by kernel_rfl) ?_
      refine Ok.nil ?_
      refine Ok.thenN ?_
      refine Ok.ret ?_
      refine Ok.thenR ?_
      exact Ok.res1 (.inl rfl) rfl (.tmp rfl) ⟨decide (pa_Weight < pb_Weight), rfl, hF⟩
    · replace hF := hF.2 hc
      refine Ok.skip ?_
      refine Ok.thenN ?_
      refine Ok.seq ?_
      refine Ok.region ?_
      refine Ok.batch 1 [(3, .pointer (some ⟨b2, 0, none⟩)), (25, .pointer (some ⟨b1, 5, none⟩))] (by kernel_rfl) ?_
      refine Ok.op rfl (OpOk.step (v := .int .i64 pa_Place) (Yields.load 1 rfl rfl Try.underlying3 rfl (by kernel_rfl)) rfl rfl ?_)
      refine Ok.batch 1 [(26, .int .i64 pa_Place), (27, .pointer (some ⟨b2, 5, none⟩))] (by kernel_rfl) ?_
      refine Ok.op rfl (OpOk.step (v := .int .i64 pb_Place) (Yields.load 0 rfl rfl Try.underlying3 rfl (by kernel_rfl)) rfl rfl ?_)
      refine Ok.batch 2 [(4, .bool (decide (pa_Place < pb_Place)))] (by kernel_rfl) ?_
      refine Ok.nil ?_
      refine Ok.thenN ?_
      refine Ok.ret ?_
      exact Ok.res1 (.inl rfl) rfl (.tmp rfl) ⟨decide (pa_Place < pb_Place), rfl, hF⟩
def laterB (a b : G) : Bool := if ¬ rankI a = rankI b then decide (rankI a < rankI b) else if ¬ a.2.2.2.2.1 = b.2.2.2.2.1 then decide (a.2.2.2.2.1 < b.2.2.2.2.1) else decide (a.2.2.2.2.2 < b.2.2.2.2.2)
theorem later_F (a b : G) : laterF a.1 a.2.1 a.2.2.1 a.2.2.2.1 a.2.2.2.2.1 a.2.2.2.2.2 b.1 b.2.1 b.2.2.1 b.2.2.2.1 b.2.2.2.2.1 b.2.2.2.2.2 (fun r => r = laterB a b) := by
  have ea : (a.1, a.2.1, a.2.2.1, a.2.2.2.1, a.2.2.2.2.1, a.2.2.2.2.2) = a := rfl
  have eb : (b.1, b.2.1, b.2.2.1, b.2.2.2.1, b.2.2.2.2.1, b.2.2.2.2.2) = b := rfl
  unfold laterF laterB
  rw [ea, eb]
  refine ⟨fun h => ?_, fun h => ⟨fun h2 => ?_, fun h2 => ?_⟩⟩
  · have h : ¬ rankI a = rankI b := by simpa using h
    rw [if_pos h]
  · have h : rankI a = rankI b := by simpa using h
    have h2 : ¬ a.2.2.2.2.1 = b.2.2.2.2.1 := by simpa using h2
    rw [if_neg (by simpa using h), if_pos h2]
  · have h : rankI a = rankI b := by simpa using h
    have h2 : a.2.2.2.2.1 = b.2.2.2.2.1 := by simpa using h2
    rw [if_neg (by simpa using h), if_neg (by simpa using h2)]
set_option linter.unusedVariables false in
theorem later_c {g : Ghost} (xa : List UInt8 × List UInt8 × Int × Bool × Int × Int) (xb : List UInt8 × List UInt8 × Int × Bool × Int × Int)  : CallsG Try.prog 34 #[.agg #[.string ⟨⟨xa.1⟩⟩, .string ⟨⟨xa.2.1⟩⟩, .int .i64 xa.2.2.1, .bool xa.2.2.2.1, .int .i64 xa.2.2.2.2.1, .int .i64 xa.2.2.2.2.2], .agg #[.string ⟨⟨xb.1⟩⟩, .string ⟨⟨xb.2.1⟩⟩, .int .i64 xb.2.2.1, .bool xb.2.2.2.1, .int .i64 xb.2.2.2.2.1, .int .i64 xb.2.2.2.2.2]] g (.bool (laterB xa xb)) :=
  (later_ok xa.1 xa.2.1 xa.2.2.1 xa.2.2.2.1 xa.2.2.2.2.1 xa.2.2.2.2.2 xb.1 xb.2.1 xb.2.2.1 xb.2.2.2.1 xb.2.2.2.2.1 xb.2.2.2.2.2 _ (later_F xa xb)).gives (by rintro _ ⟨_, rfl, rfl⟩; rfl)
def cnanF (px : Int) (K : Bool → Prop) : Prop :=
  K (px != px)
set_option maxHeartbeats 4000000 in
set_option maxRecDepth 100000 in
set_option linter.unusedVariables false in
theorem cnan_ok {g : Ghost} (px : Int) (K : Bool → Prop)
    (hF : cnanF px K) : CallsK Try.prog 89 #[.int .i64 px] g (fun v => ∃ r0 : Bool, v = .bool r0 ∧ K r0) := by
  refine CallsK.enter 6 [(0, .int .i64 px)] Try.func89 rfl (by kernel_rfl) (by kernel_rfl) (by kernel_rfl) fun w0 => ?_
  refine Ok.seq ?_
  refine Ok.region ?_
  refine Ok.batch 1 [(0, .int .i64 px)] (by kernel_rfl) ?_
  refine Ok.nil ?_
  refine Ok.thenN ?_
  refine Ok.seq ?_
  refine Ok.region ?_
  refine Ok.batch 4 [(2, .bool (px != px))] (by kernel_rfl) ?_
  refine Ok.nil ?_
  refine Ok.thenN ?_
  refine Ok.ret ?_
  exact Ok.res1 (.inl rfl) rfl (.tmp rfl) ⟨(px != px), rfl, hF⟩
def nanB (x : Int) : Bool := false
theorem cnan_F (x : Int) : cnanF x (fun r => r = nanB x) := by unfold cnanF nanB; simp
set_option linter.unusedVariables false in
theorem cnan_c {g : Ghost} (xx : Int)  : CallsG Try.prog 89 #[.int .i64 xx] g (.bool (nanB xx)) :=
  (cnan_ok xx _ (cnan_F xx)).gives (by rintro _ ⟨_, rfl, rfl⟩; rfl)
def ccmpF (px : Int) (py : Int) (K : Int → Prop) : Prop :=
  ((nanB px) = true → ((nanB py) = true → K 0) ∧ ((nanB py) = false → K (-1))) ∧ ((nanB px) = false → ((nanB py) = true → K 1) ∧ ((nanB py) = false → ((decide (px < py)) = true → K (-1)) ∧ ((decide (px < py)) = false → ((decide (px > py)) = true → K 1) ∧ ((decide (px > py)) = false → K 0))))
set_option maxHeartbeats 4000000 in
set_option maxRecDepth 100000 in
set_option linter.unusedVariables false in
theorem ccmp_ok {g : Ghost} (px : Int) (py : Int) (K : Int → Prop)
    (hF : ccmpF px py K) : CallsK Try.prog 70 #[.int .i64 px, .int .i64 py] g (fun v => ∃ r0 : Int, v = .int .i64 r0 ∧ K r0) := by
  refine CallsK.enter 20 [(0, .int .i64 px), (1, .int .i64 py)] Try.func70 rfl (by kernel_rfl) (by kernel_rfl) (by kernel_rfl) fun w0 => ?_
  refine Ok.seq ?_
  refine Ok.region ?_
  refine Ok.batch 1 [(0, .int .i64 px), (1, .int .i64 py)] (by kernel_rfl) ?_
  refine Ok.nil ?_
  refine Ok.thenN ?_
  refine Ok.seq ?_
  refine Ok.region ?_
  refine Ok.batch 1 [(0, .int .i64 px), (1, .int .i64 py), (7, .int .i64 px)] (by kernel_rfl) ?_
  refine Ok.op rfl (OpOk.call (v := .bool (nanB px)) (enters (by kernel_rfl) (fun _ => by kernel_rfl)) (cnan_c px) rfl rfl ?_)
  refine Ok.batch 1 [(0, .int .i64 px), (1, .int .i64 py), (5, .bool (nanB px))] (by kernel_rfl) ?_
  refine Ok.nil ?_
  refine Ok.thenN ?_
  refine Ok.seq ?_
  refine Ok.region ?_
  refine Ok.batch 1 [(0, .int .i64 px), (1, .int .i64 py), (5, .bool (nanB px)), (9, .int .i64 py)] (by kernel_rfl) ?_
  refine Ok.op rfl (OpOk.call (v := .bool (nanB py)) (enters (by kernel_rfl) (fun _ => by kernel_rfl)) (cnan_c py) rfl rfl ?_)
  refine Ok.batch 1 [(0, .int .i64 px), (1, .int .i64 py), (5, .bool (nanB px)), (6, .bool (nanB py))] (by kernel_rfl) ?_
  refine Ok.nil ?_
  refine Ok.thenN ?_
  refine Ok.seq ?_
  refine Ok.seq ?_
  refine Ok.region ?_
  refine Ok.batch 1 [(0, .int .i64 px), (1, .int .i64 py), (6, .bool (nanB py)), (11, .bool (nanB px))] (by kernel_rfl) ?_
  refine Ok.nil ?_
  refine Ok.thenN ?_
  refine Ok.cond (b := nanB px) rfl (fun hc => ?_) (fun hc => ?_)
  · replace hF := hF.1 hc
    refine Ok.seq ?_
    refine Ok.seq ?_
    refine Ok.region ?_
    refine Ok.batch 1 [(12, .bool (nanB py))] (by kernel_rfl) ?_
    refine Ok.nil ?_
    refine Ok.thenN ?_
    refine Ok.cond (b := nanB py) rfl (fun hc => ?_) (fun hc => ?_)
    · replace hF := hF.1 hc
      refine Ok.seq ?_
      refine Ok.region ?_
      refine Ok.batch 1 [(4, .int .i64 0)] (by kernel_rfl) ?_
      refine Ok.nil ?_
      refine Ok.thenN ?_
      refine Ok.ret ?_
      refine Ok.thenR ?_
      refine Ok.thenR ?_
      exact Ok.res1 (.inl rfl) rfl (.tmp rfl) ⟨0, rfl, hF⟩
    · replace hF := hF.2 hc
      refine Ok.skip ?_
      refine Ok.thenN ?_
      refine Ok.seq ?_
      refine Ok.region ?_
      refine Ok.batch 1 [(4, .int .i64 (-1))] (by kernel_rfl) ?_
      refine Ok.nil ?_
      refine Ok.thenN ?_
      refine Ok.ret ?_
      refine Ok.thenR ?_
      exact Ok.res1 (.inl rfl) rfl (.tmp rfl) ⟨-1, rfl, hF⟩
  · replace hF := hF.2 hc
    refine Ok.skip ?_
    refine Ok.thenN ?_
    refine Ok.seq ?_
    refine Ok.seq ?_
    refine Ok.region ?_
    refine Ok.batch 1 [(0, .int .i64 px), (1, .int .i64 py), (13, .bool (nanB py))] (by kernel_rfl) ?_
    refine Ok.nil ?_
    refine Ok.thenN ?_
    refine Ok.cond (b := nanB py) rfl (fun hc => ?_) (fun hc => ?_)
    · replace hF := hF.1 hc
      refine Ok.seq ?_
      refine Ok.region ?_
      refine Ok.batch 1 [(4, .int .i64 1)] (by kernel_rfl) ?_
      refine Ok.nil ?_
      refine Ok.thenN ?_
      refine Ok.ret ?_
      refine Ok.thenR ?_
      exact Ok.res1 (.inl rfl) rfl (.tmp rfl) ⟨1, rfl, hF⟩
    · replace hF := hF.2 hc
      refine Ok.skip ?_
      refine Ok.thenN ?_
      refine Ok.seq ?_
      refine Ok.seq ?_
      refine Ok.region ?_
      refine Ok.batch 3 [(0, .int .i64 px), (1, .int .i64 py), (16, .bool (decide (px < py)))] (by kernel_rfl) ?_
      refine Ok.nil ?_
      refine Ok.thenN ?_
      refine Ok.cond (b := decide (px < py)) rfl (fun hc => ?_) (fun hc => ?_)
      · replace hF := hF.1 hc
        refine Ok.seq ?_
        refine Ok.region ?_
        refine Ok.batch 1 [(4, .int .i64 (-1))] (by kernel_rfl) ?_
        refine Ok.nil ?_
        refine Ok.thenN ?_
        refine Ok.ret ?_
        refine Ok.thenR ?_
        exact Ok.res1 (.inl rfl) rfl (.tmp rfl) ⟨-1, rfl, hF⟩
      · replace hF := hF.2 hc
        refine Ok.skip ?_
        refine Ok.thenN ?_
        refine Ok.seq ?_
        refine Ok.seq ?_
        refine Ok.region ?_
        refine Ok.batch 3 [(19, .bool (decide (px > py)))] (by kernel_rfl) ?_
        refine Ok.nil ?_
        refine Ok.thenN ?_
        refine Ok.cond (b := decide (px > py)) rfl (fun hc => ?_) (fun hc => ?_)
        · replace hF := hF.1 hc
          refine Ok.seq ?_
          refine Ok.region ?_
          refine Ok.batch 1 [(4, .int .i64 1)] (by kernel_rfl) ?_
          refine Ok.nil ?_
          refine Ok.thenN ?_
          refine Ok.ret ?_
          refine Ok.thenR ?_
          exact Ok.res1 (.inl rfl) rfl (.tmp rfl) ⟨1, rfl, hF⟩
        · replace hF := hF.2 hc
          refine Ok.skip ?_
          refine Ok.thenN ?_
          refine Ok.seq ?_
          refine Ok.region ?_
          refine Ok.batch 1 [(4, .int .i64 0)] (by kernel_rfl) ?_
          refine Ok.nil ?_
          refine Ok.thenN ?_
          refine Ok.ret ?_
          exact Ok.res1 (.inl rfl) rfl (.tmp rfl) ⟨0, rfl, hF⟩
def cmpZ (x y : Int) : Int := if x < y then -1 else if y < x then 1 else 0
theorem ccmp_F (x y : Int) : ccmpF x y (fun r => r = cmpZ x y) := by
  unfold ccmpF nanB cmpZ
  refine ⟨fun h => (by cases h), fun _ => ⟨fun h => (by cases h), fun _ => ⟨fun h => ?_, fun h => ⟨fun h2 => ?_, fun h2 => ?_⟩⟩⟩⟩
  · rw [if_pos (of_decide_eq_true h)]
  · rw [if_neg (of_decide_eq_false h), if_pos (of_decide_eq_true h2)]
  · rw [if_neg (of_decide_eq_false h), if_neg (of_decide_eq_false h2)]
set_option linter.unusedVariables false in
theorem ccmp_c {g : Ghost} (xx : Int) (xy : Int)  : CallsG Try.prog 70 #[.int .i64 xx, .int .i64 xy] g (.int .i64 (cmpZ xx xy)) :=
  (ccmp_ok xx xy _ (ccmp_F xx xy)).gives (by rintro _ ⟨_, rfl, rfl⟩; rfl)
def corl9b (pvals : List (Int)) (K : Int → Prop) (x8l9 : Int) (C9 : Int → Prop) : Prop :=
  ((decide (x8l9 < (pvals.length : Int))) = true → ∃ e1 : Int, (0 : Int) ≤ x8l9 ∧ pvals[Int.toNat x8l9]? = some e1 ∧ (((e1 != 0)) = true → K e1) ∧ (((e1 != 0)) = false → C9 (IntKind.wrap .i64 (x8l9 + 1)))) ∧ ((decide (x8l9 < (pvals.length : Int))) = false → K 0)
def corl9 (pvals : List (Int)) (K : Int → Prop) : Nat → Int → Prop
  | 0, _ => False
  | k + 1, x8l9 => corl9b pvals K x8l9 (corl9 pvals K k)
def corF (pvals : List (Int)) (K : Int → Prop) : Prop :=
  ∃ k, corl9 pvals K k 0
set_option maxHeartbeats 4000000 in
set_option maxRecDepth 100000 in
set_option linter.unusedVariables false in
theorem cor_ok {g : Ghost} {apvals : Option Addr} {cpvals : Nat} (pvals : List (Int)) (hRpvals : Rep g (.slice (.int .i64)) [.slice apvals pvals.length cpvals] pvals) (K : Int → Prop)
    (hF : corF pvals K) : CallsK Try.prog 69 #[.slice apvals pvals.length cpvals] g (fun v => ∃ r0 : Int, v = .int .i64 r0 ∧ K r0) := by
  refine CallsK.enter 18 [(0, .slice apvals pvals.length cpvals)] Try.func69 rfl (by kernel_rfl) (by kernel_rfl) (by kernel_rfl) fun w0 => ?_
  refine Ok.seq ?_
  refine Ok.region ?_
  refine Ok.batch 1 [(0, .slice apvals pvals.length cpvals)] (by kernel_rfl) ?_
  refine Ok.nil ?_
  refine Ok.thenN ?_
  refine Ok.seq ?_
  refine Ok.region ?_
  refine Ok.batch 1 [(0, .slice apvals pvals.length cpvals), (3, .int .i64 0)] (by kernel_rfl) ?_
  refine Ok.nil ?_
  refine Ok.thenN ?_
  refine Ok.seq ?_
  refine Ok.seq ?_
  refine Ok.region ?_
  refine Ok.batch 3 [(3, .int .i64 0), (6, .slice apvals pvals.length cpvals), (7, .int .i64 (pvals.length : Int)), (8, .int .i64 0)] (by kernel_rfl) ?_
  refine Ok.nil ?_
  refine Ok.thenN ?_
  refine Ok.block ?_
  obtain ⟨k, hF⟩ := hF
  refine Ok.loop (fun k a W => ∃ (x8l9 : Int), StA 18 [(3, .int .i64 0), (6, .slice apvals pvals.length cpvals), (7, .int .i64 (pvals.length : Int)), (8, .int .i64 x8l9)] a ∧ StW w0 [] g W ∧ corl9 pvals K k x8l9) k ?_ ?_
  ·
    exact fun a W hA hW => ⟨0, hA.sub (by kernel_rfl), hW, hF⟩
  ·
    rintro k9 a W ⟨x8l9, hA, hW, hF⟩
    cases k9 with
    | zero => exact (hF : False).elim
    | succ k9 =>
      refine (?_ : Ok _ _ _ _ _ _) a W hA hW
      clear hA hW
      refine Ok.seq ?_
      refine Ok.region ?_
      refine Ok.batch 1 [(3, .int .i64 0), (6, .slice apvals pvals.length cpvals), (7, .int .i64 (pvals.length : Int)), (8, .int .i64 x8l9), (9, .bool (decide (x8l9 < (pvals.length : Int))))] (by kernel_rfl) ?_
      refine Ok.nil ?_
      refine Ok.thenN ?_
      refine Ok.seq ?_
      refine Ok.cond (b := decide (x8l9 < (pvals.length : Int))) rfl (fun hc => ?_) (fun hc => ?_)
      · replace hF := hF.1 hc
        refine Ok.skip ?_
        refine Ok.thenN ?_
        refine Ok.seq ?_
        refine Ok.block ?_
        refine Ok.seq ?_
        refine Ok.region ?_
        obtain ⟨e1, h01, he1, hF⟩ := hF
        refine Ok.op rfl (OpOk.indexRo (e := .int .i64) (i := x8l9) (el := e1) rfl rfl Try.underlying60 (by kernel_rfl) hRpvals h01 he1 rfl fun q1 o1 cs1 _ hat1 hr1 => ?_)
        obtain rfl := hr1
        replace hat1 : At g q1 o1 [.int .i64 e1] := hat1
        refine Ok.op rfl (OpOk.step (v := .int .i64 e1) (Yields.loadRo 0 hat1 (by kernel_rfl) Try.underlying3 rfl (by kernel_rfl)) rfl rfl ?_)
        refine Ok.batch 1 [(3, .int .i64 0), (5, .int .i64 e1), (6, .slice apvals pvals.length cpvals), (7, .int .i64 (pvals.length : Int)), (8, .int .i64 x8l9)] (by kernel_rfl) ?_
        refine Ok.nil ?_
        refine Ok.thenN ?_
        refine Ok.seq ?_
        refine Ok.region ?_
        refine Ok.batch 3 [(3, .int .i64 0), (5, .int .i64 e1), (6, .slice apvals pvals.length cpvals), (7, .int .i64 (pvals.length : Int)), (8, .int .i64 x8l9), (14, .bool (e1 != 0))] (by kernel_rfl) ?_
        refine Ok.nil ?_
        refine Ok.thenN ?_
        refine Ok.cond (b := (e1 != 0)) rfl (fun hc => ?_) (fun hc => ?_)
        · replace hF := hF.1 hc
          refine Ok.seq ?_
          refine Ok.region ?_
          refine Ok.batch 2 [(2, .int .i64 e1)] (by kernel_rfl) ?_
          refine Ok.nil ?_
          refine Ok.thenN ?_
          refine Ok.ret ?_
          refine Ok.blockR ?_
          refine Ok.thenR ?_
          refine Ok.thenR ?_
          refine Ok.blockR ?_
          refine Ok.thenR ?_
          exact Ok.res1 (.inl rfl) rfl (.tmp rfl) ⟨e1, rfl, hF⟩
        · replace hF := hF.2 hc
          refine Ok.skip ?_
          refine Ok.blockN ?_
          refine Ok.thenN ?_
          refine Ok.region ?_
          refine Ok.batch 2 [(3, .int .i64 0), (6, .slice apvals pvals.length cpvals), (7, .int .i64 (pvals.length : Int)), (8, .int .i64 (IntKind.wrap .i64 (x8l9 + 1)))] (by kernel_rfl) ?_
          refine Ok.nil ?_
          refine Ok.thenN ?_
          exact fun a W hA hW => ⟨k9, Nat.lt_succ_self _, (IntKind.wrap .i64 (x8l9 + 1)), hA.sub (by kernel_rfl), hW, hF⟩
      · replace hF := hF.2 hc
        refine Ok.exit ?_
        refine Ok.thenE ?_
        refine Ok.thenE ?_
        refine Ok.blockHit ?_
        refine Ok.thenN ?_
        refine Ok.seq ?_
        refine Ok.region ?_
        refine Ok.batch 2 [(2, .int .i64 0)] (by kernel_rfl) ?_
        refine Ok.nil ?_
        refine Ok.thenN ?_
        refine Ok.ret ?_
        exact Ok.res1 (.inl rfl) rfl (.tmp rfl) ⟨0, rfl, hF⟩
def orP (l : List Int) : Prop := l.length ≤ 1000
def orZ : List Int → Int
  | [] => 0
  | x :: l => if x = 0 then orZ l else x
theorem or_step {l : List Int} {k : Nat} {x : Int} (hx : l[k]? = some x) : orZ (l.drop k) = if x = 0 then orZ (l.drop (k + 1)) else x := by
  obtain ⟨hk, rfl⟩ := List.getElem?_eq_some_iff.1 hx
  rw [List.drop_eq_getElem_cons hk]; rfl
theorem cor_loop {l : List Int} (hl : l.length ≤ 1000) : ∀ (n k : Nat), l.length < n + k → k ≤ l.length → orZ l = orZ (l.drop k) → corl9 l (fun r => r = orZ l) n k := by
  intro n
  induction n with
  | zero => intro k h1 h2; omega
  | succ n ih =>
    intro k h1 h2 hK
    show corl9b l _ k _
    unfold corl9b
    rw [show (k : Int).toNat = k by omega]
    refine ⟨fun h => ?_, fun h => ?_⟩
    · have h := of_decide_eq_true h
      obtain ⟨x, hx⟩ : ∃ x, l[k]? = some x := ⟨l[k], by simp⟩
      rw [or_step hx] at hK
      refine ⟨x, by omega, hx, fun h3 => ?_, fun h3 => ?_⟩
      · rw [if_neg (by simpa using h3)] at hK; exact hK.symm
      · rw [if_pos (by simpa using h3)] at hK
        rw [i64_in _ (by omega), show (k : Int) + 1 = ((k + 1 : Nat) : Int) by omega]
        exact ih (k + 1) (by omega) (by omega) hK
    · have h := of_decide_eq_false h
      rw [List.drop_eq_nil_of_le (by omega)] at hK; exact hK.symm
theorem cor_F (l : List Int) (h : orP l) : corF l (fun r => r = orZ l) := by
  exact ⟨l.length + 1, cor_loop h (l.length + 1) 0 (by omega) (by omega) (by rw [List.drop_zero])⟩
set_option linter.unusedVariables false in
theorem cor_c {g : Ghost} (xvals : List (Int)) {a0 : Option Addr} {c0 : Nat} (hR0 : Rep g (.slice (.int .i64)) [.slice a0 xvals.length c0] xvals) (hp : orP xvals) : CallsG Try.prog 69 #[.slice a0 xvals.length c0] g (.int .i64 (orZ xvals)) :=
  (cor_ok xvals hR0 _ (cor_F xvals hp)).gives (by rintro _ ⟨_, rfl, rfl⟩; rfl)
def compF (pa_Name : List UInt8) (pa_Value : List UInt8) (pa_Origin : Int) (pa_Important : Bool) (pa_Weight : Int) (pa_Place : Int) (pb_Name : List UInt8) (pb_Value : List UInt8) (pb_Origin : Int) (pb_Important : Bool) (pb_Weight : Int) (pb_Place : Int) (K : Int → Prop) : Prop :=
  orP ([cmpZ (rankI (pa_Name, pa_Value, pa_Origin, pa_Important, pa_Weight, pa_Place)) (rankI (pb_Name, pb_Value, pb_Origin, pb_Important, pb_Weight, pb_Place)), cmpZ pa_Weight pb_Weight, cmpZ pa_Place pb_Place] : List (Int)) ∧ K (orZ ([cmpZ (rankI (pa_Name, pa_Value, pa_Origin, pa_Important, pa_Weight, pa_Place)) (rankI (pb_Name, pb_Value, pb_Origin, pb_Important, pb_Weight, pb_Place)), cmpZ pa_Weight pb_Weight, cmpZ pa_Place pb_Place] : List (Int)))
set_option maxHeartbeats 4000000 in
set_option maxRecDepth 100000 in
set_option linter.unusedVariables false in
theorem comp_ok {g : Ghost} (pa_Name : List UInt8) (pa_Value : List UInt8) (pa_Origin : Int) (pa_Important : Bool) (pa_Weight : Int) (pa_Place : Int) (pb_Name : List UInt8) (pb_Value : List UInt8) (pb_Origin : Int) (pb_Important : Bool) (pb_Weight : Int) (pb_Place : Int) (K : Int → Prop)
    (hF : compF pa_Name pa_Value pa_Origin pa_Important pa_Weight pa_Place pb_Name pb_Value pb_Origin pb_Important pb_Weight pb_Place K) : CallsK Try.prog 43 #[.agg #[.string ⟨⟨pa_Name⟩⟩, .string ⟨⟨pa_Value⟩⟩, .int .i64 pa_Origin, .bool pa_Important, .int .i64 pa_Weight, .int .i64 pa_Place], .agg #[.string ⟨⟨pb_Name⟩⟩, .string ⟨⟨pb_Value⟩⟩, .int .i64 pb_Origin, .bool pb_Important, .int .i64 pb_Weight, .int .i64 pb_Place]] g (fun v => ∃ r0 : Int, v = .int .i64 r0 ∧ K r0) := by
  refine CallsK.enter 22 [(0, .agg #[.string ⟨⟨pa_Name⟩⟩, .string ⟨⟨pa_Value⟩⟩, .int .i64 pa_Origin, .bool pa_Important, .int .i64 pa_Weight, .int .i64 pa_Place]), (1, .agg #[.string ⟨⟨pb_Name⟩⟩, .string ⟨⟨pb_Value⟩⟩, .int .i64 pb_Origin, .bool pb_Important, .int .i64 pb_Weight, .int .i64 pb_Place])] Try.func43 rfl (by kernel_rfl) (by kernel_rfl) (by kernel_rfl) fun w0 => ?_
  refine Ok.seq ?_
  refine Ok.region ?_
  refine Ok.op rfl (OpOk.box (v := .agg #[.string ⟨⟨pa_Name⟩⟩, .string ⟨⟨pa_Value⟩⟩, .int .i64 pa_Origin, .bool pa_Important, .int .i64 pa_Weight, .int .i64 pa_Place]) (cs := #[.string ⟨⟨pa_Name⟩⟩, .string ⟨⟨pa_Value⟩⟩, .int .i64 pa_Origin, .bool pa_Important, .int .i64 pa_Weight, .int .i64 pa_Place]) rfl (by kernel_rfl) rfl fun b1 => ?_)
  refine Ok.op rfl (OpOk.box (v := .agg #[.string ⟨⟨pb_Name⟩⟩, .string ⟨⟨pb_Value⟩⟩, .int .i64 pb_Origin, .bool pb_Important, .int .i64 pb_Weight, .int .i64 pb_Place]) (cs := #[.string ⟨⟨pb_Name⟩⟩, .string ⟨⟨pb_Value⟩⟩, .int .i64 pb_Origin, .bool pb_Important, .int .i64 pb_Weight, .int .i64 pb_Place]) rfl (by kernel_rfl) rfl fun b2 => ?_)
  refine Ok.batch 1 [(2, .pointer (some ⟨b1, 0, none⟩)), (3, .pointer (some ⟨b2, 0, none⟩))] (by kernel_rfl) ?_
  refine Ok.nil ?_
  refine Ok.thenN ?_
  refine Ok.seq ?_
  refine Ok.mix [.blk b2 (.cells #[.string ⟨⟨pb_Name⟩⟩, .string ⟨⟨pb_Value⟩⟩, .int .i64 pb_Origin, .bool pb_Important, .int .i64 pb_Weight, .int .i64 pb_Place] 36), .blk b1 (.cells #[.string ⟨⟨pa_Name⟩⟩, .string ⟨⟨pa_Value⟩⟩, .int .i64 pa_Origin, .bool pa_Important, .int .i64 pa_Weight, .int .i64 pa_Place] 36)] [(0, true), (1, true), (2, true), (3, true), (4, true), (5, true), (6, true), (7, true), (8, true), (9, true), (10, true), (11, true), (12, true), (13, true), (14, true), (15, false), (16, false), (17, true)] (by kernel_rfl) (by kernel_rfl) (.cons_cons _ (.cons_cons _ .slnil)) ?_
  refine OkM.head rfl rfl (OpQ.step (v := .agg #[.string ⟨⟨pa_Name⟩⟩, .string ⟨⟨pa_Value⟩⟩, .int .i64 pa_Origin, .bool pa_Important, .int .i64 pa_Weight, .int .i64 pa_Place]) (Yields.loadAgg 1 6 #[.string ⟨⟨pa_Name⟩⟩, .string ⟨⟨pa_Value⟩⟩, .int .i64 pa_Origin, .bool pa_Important, .int .i64 pa_Weight, .int .i64 pa_Place] rfl rfl Try.underlying36 rfl (by kernel_rfl) (by kernel_rfl) (by kernel_rfl)) rfl rfl ?_)
  refine OkM.head rfl rfl (OpQ.call (v := .int .i64 (rankI (pa_Name, pa_Value, pa_Origin, pa_Important, pa_Weight, pa_Place))) (enters (by kernel_rfl) (fun _ => by kernel_rfl)) (rank_c (pa_Name, pa_Value, pa_Origin, pa_Important, pa_Weight, pa_Place)) rfl rfl ?_)
  refine OkM.head rfl rfl (OpQ.step (v := .agg #[.string ⟨⟨pb_Name⟩⟩, .string ⟨⟨pb_Value⟩⟩, .int .i64 pb_Origin, .bool pb_Important, .int .i64 pb_Weight, .int .i64 pb_Place]) (Yields.loadAgg 0 6 #[.string ⟨⟨pb_Name⟩⟩, .string ⟨⟨pb_Value⟩⟩, .int .i64 pb_Origin, .bool pb_Important, .int .i64 pb_Weight, .int .i64 pb_Place] rfl rfl Try.underlying36 rfl (by kernel_rfl) (by kernel_rfl) (by kernel_rfl)) rfl rfl ?_)
  refine OkM.head rfl rfl (OpQ.call (v := .int .i64 (rankI (pb_Name, pb_Value, pb_Origin, pb_Important, pb_Weight, pb_Place))) (enters (by kernel_rfl) (fun _ => by kernel_rfl)) (rank_c (pb_Name, pb_Value, pb_Origin, pb_Important, pb_Weight, pb_Place)) rfl rfl ?_)
  refine OkM.head rfl rfl (OpQ.call (v := .int .i64 (cmpZ (rankI (pa_Name, pa_Value, pa_Origin, pa_Important, pa_Weight, pa_Place)) (rankI (pb_Name, pb_Value, pb_Origin, pb_Important, pb_Weight, pb_Place)))) (enters (by kernel_rfl) (fun _ => by kernel_rfl)) (ccmp_c (rankI (pa_Name, pa_Value, pa_Origin, pa_Important, pa_Weight, pa_Place)) (rankI (pb_Name, pb_Value, pb_Origin, pb_Important, pb_Weight, pb_Place))) rfl rfl ?_)
  refine OkM.batch 1 [(2, .pointer (some ⟨b1, 0, none⟩)), (3, .pointer (some ⟨b2, 0, none⟩)), (9, .int .i64 (cmpZ (rankI (pa_Name, pa_Value, pa_Origin, pa_Important, pa_Weight, pa_Place)) (rankI (pb_Name, pb_Value, pb_Origin, pb_Important, pb_Weight, pb_Place)))), (10, .pointer (some ⟨b1, 4, none⟩))] (by kernel_rfl) ?_
  refine OkM.head rfl rfl (OpQ.step (v := .int .i64 pa_Weight) (Yields.load 1 rfl rfl Try.underlying3 rfl (by kernel_rfl)) rfl rfl ?_)
  refine OkM.batch 1 [(2, .pointer (some ⟨b1, 0, none⟩)), (3, .pointer (some ⟨b2, 0, none⟩)), (9, .int .i64 (cmpZ (rankI (pa_Name, pa_Value, pa_Origin, pa_Important, pa_Weight, pa_Place)) (rankI (pb_Name, pb_Value, pb_Origin, pb_Important, pb_Weight, pb_Place)))), (11, .int .i64 pa_Weight), (12, .pointer (some ⟨b2, 4, none⟩))] (by kernel_rfl) ?_
  refine OkM.head rfl rfl (OpQ.step (v := .int .i64 pb_Weight) (Yields.load 0 rfl rfl Try.underlying3 rfl (by kernel_rfl)) rfl rfl ?_)
  refine OkM.head rfl rfl (OpQ.call (v := .int .i64 (cmpZ pa_Weight pb_Weight)) (enters (by kernel_rfl) (fun _ => by kernel_rfl)) (ccmp_c pa_Weight pb_Weight) rfl rfl ?_)
  refine OkM.batch 1 [(3, .pointer (some ⟨b2, 0, none⟩)), (9, .int .i64 (cmpZ (rankI (pa_Name, pa_Value, pa_Origin, pa_Important, pa_Weight, pa_Place)) (rankI (pb_Name, pb_Value, pb_Origin, pb_Important, pb_Weight, pb_Place)))), (14, .int .i64 (cmpZ pa_Weight pb_Weight)), (15, .pointer (some ⟨b1, 5, none⟩))] (by kernel_rfl) ?_
  refine OkM.head rfl rfl (OpQ.step (v := .int .i64 pa_Place) (Yields.load 1 rfl rfl Try.underlying3 rfl (by kernel_rfl)) rfl rfl ?_)
  refine OkM.batch 1 [(9, .int .i64 (cmpZ (rankI (pa_Name, pa_Value, pa_Origin, pa_Important, pa_Weight, pa_Place)) (rankI (pb_Name, pb_Value, pb_Origin, pb_Important, pb_Weight, pb_Place)))), (14, .int .i64 (cmpZ pa_Weight pb_Weight)), (16, .int .i64 pa_Place), (17, .pointer (some ⟨b2, 5, none⟩))] (by kernel_rfl) ?_
  refine OkM.head rfl rfl (OpQ.step (v := .int .i64 pb_Place) (Yields.load 0 rfl rfl Try.underlying3 rfl (by kernel_rfl)) rfl rfl ?_)
  refine OkM.head rfl rfl (OpQ.call (v := .int .i64 (cmpZ pa_Place pb_Place)) (enters (by kernel_rfl) (fun _ => by kernel_rfl)) (ccmp_c pa_Place pb_Place) rfl rfl ?_)
  have hL3 : RepL g (.int .i64) ([.int .i64 (cmpZ (rankI (pa_Name, pa_Value, pa_Origin, pa_Important, pa_Weight, pa_Place)) (rankI (pb_Name, pb_Value, pb_Origin, pb_Important, pb_Weight, pb_Place))), .int .i64 (cmpZ pa_Weight pb_Weight), .int .i64 (cmpZ pa_Place pb_Place)] : List Value) ([cmpZ (rankI (pa_Name, pa_Value, pa_Origin, pa_Important, pa_Weight, pa_Place)) (rankI (pb_Name, pb_Value, pb_Origin, pb_Important, pb_Weight, pb_Place)), cmpZ pa_Weight pb_Weight, cmpZ pa_Place pb_Place] : List (Int)) := (RepL.cons1 rfl (RepL.cons1 rfl (RepL.cons1 rfl rfl)))
  refine OkM.tail rfl rfl (OpOk.lit (E := 3) (.int .i64) ([cmpZ (rankI (pa_Name, pa_Value, pa_Origin, pa_Important, pa_Weight, pa_Place)) (rankI (pb_Name, pb_Value, pb_Origin, pb_Important, pb_Weight, pb_Place)), cmpZ pa_Weight pb_Weight, cmpZ pa_Place pb_Place] : List (Int)) ([.int .i64 (cmpZ (rankI (pa_Name, pa_Value, pa_Origin, pa_Important, pa_Weight, pa_Place)) (rankI (pb_Name, pb_Value, pb_Origin, pb_Important, pb_Weight, pb_Place))), .int .i64 (cmpZ pa_Weight pb_Weight), .int .i64 (cmpZ pa_Place pb_Place)] : List Value) (by kernel_rfl) (by kernel_rfl) rfl (by kernel_rfl) hL3 rfl fun b3 => ?_)
  refine OkM.leaf (Gle.refl _) (.cons _ (.cons_cons _ (.cons_cons _ .slnil))) ?_
  obtain ⟨hp, hF⟩ := hF
  refine OkM.tail rfl rfl (OpOk.callLend (v := .int .i64 (orZ ([cmpZ (rankI (pa_Name, pa_Value, pa_Origin, pa_Important, pa_Weight, pa_Place)) (rankI (pb_Name, pb_Value, pb_Origin, pb_Important, pb_Weight, pb_Place)), cmpZ pa_Weight pb_Weight, cmpZ pa_Place pb_Place] : List (Int)))) (enters (by kernel_rfl) (fun _ => by kernel_rfl)) (fun W hW => by obtain ⟨gl, hl, hgl, hlent⟩ := hW.lend 0 rfl hL3; exact ⟨gl, hgl, cor_c ([cmpZ (rankI (pa_Name, pa_Value, pa_Origin, pa_Important, pa_Weight, pa_Place)) (rankI (pb_Name, pb_Value, pb_Origin, pb_Important, pb_Weight, pb_Place)), cmpZ pa_Weight pb_Weight, cmpZ pa_Place pb_Place] : List (Int)) hlent hp⟩) rfl rfl ?_)
  refine OkM.leaf (Gle.refl _) (.cons _ (.cons_cons _ (.cons_cons _ .slnil))) ?_
  refine OkM.batch 1 [(4, .int .i64 (orZ ([cmpZ (rankI (pa_Name, pa_Value, pa_Origin, pa_Important, pa_Weight, pa_Place)) (rankI (pb_Name, pb_Value, pb_Origin, pb_Important, pb_Weight, pb_Place)), cmpZ pa_Weight pb_Weight, cmpZ pa_Place pb_Place] : List (Int))))] (by kernel_rfl) ?_
  refine OkM.nil ?_
  refine Ok.thenN ?_
  refine Ok.ret ?_
  exact Ok.res1 (.inl rfl) rfl (.tmp rfl) ⟨orZ ([cmpZ (rankI (pa_Name, pa_Value, pa_Origin, pa_Important, pa_Weight, pa_Place)) (rankI (pb_Name, pb_Value, pb_Origin, pb_Important, pb_Weight, pb_Place)), cmpZ pa_Weight pb_Weight, cmpZ pa_Place pb_Place] : List (Int)), rfl, hF⟩
def compZ (a b : G) : Int := orZ [cmpZ (rankI a) (rankI b), cmpZ a.2.2.2.2.1 b.2.2.2.2.1, cmpZ a.2.2.2.2.2 b.2.2.2.2.2]
theorem comp_F (a b : G) : compF a.1 a.2.1 a.2.2.1 a.2.2.2.1 a.2.2.2.2.1 a.2.2.2.2.2 b.1 b.2.1 b.2.2.1 b.2.2.2.1 b.2.2.2.2.1 b.2.2.2.2.2 (fun r => r = compZ a b) := by
  exact ⟨by unfold orP; simp, rfl⟩
set_option linter.unusedVariables false in
theorem comp_c {g : Ghost} (xa : List UInt8 × List UInt8 × Int × Bool × Int × Int) (xb : List UInt8 × List UInt8 × Int × Bool × Int × Int)  : CallsG Try.prog 43 #[.agg #[.string ⟨⟨xa.1⟩⟩, .string ⟨⟨xa.2.1⟩⟩, .int .i64 xa.2.2.1, .bool xa.2.2.2.1, .int .i64 xa.2.2.2.2.1, .int .i64 xa.2.2.2.2.2], .agg #[.string ⟨⟨xb.1⟩⟩, .string ⟨⟨xb.2.1⟩⟩, .int .i64 xb.2.2.1, .bool xb.2.2.2.1, .int .i64 xb.2.2.2.2.1, .int .i64 xb.2.2.2.2.2]] g (.int .i64 (compZ xa xb)) :=
  (comp_ok xa.1 xa.2.1 xa.2.2.1 xa.2.2.2.1 xa.2.2.2.2.1 xa.2.2.2.2.2 xb.1 xb.2.1 xb.2.2.1 xb.2.2.2.1 xb.2.2.2.2.1 xb.2.2.2.2.2 _ (comp_F xa xb)).gives (by rintro _ ⟨_, rfl, rfl⟩; rfl)
def winj18 (yown2_0j18 : List (List UInt8 × List UInt8 × Int × Bool × Int × Int)) (yb1_0j18 : List (List UInt8 × (Int))) (x12l11 : Int) (C11 : Int → (List (List UInt8 × List UInt8 × Int × Bool × Int × Int)) → (List (List UInt8 × (Int))) → Prop) : Prop :=
  C11 (IntKind.wrap .i64 (x12l11 + 1)) yown2_0j18 yb1_0j18
def winj22 (e3 : List UInt8 × List UInt8 × Int × Bool × Int × Int) (x7j22 : Int) (x8j22 : Bool) (x12l11 : Int) (yown2_0l11 : List (List UInt8 × List UInt8 × Int × Bool × Int × Int)) (yb1_0l11 : List (List UInt8 × (Int))) (C11 : Int → (List (List UInt8 × List UInt8 × Int × Bool × Int × Int)) → (List (List UInt8 × (Int))) → Prop) : Prop :=
  ((!x8j22) = true → (yown2_0l11 ++ ([e3] : List (List UInt8 × List UInt8 × Int × Bool × Int × Int))).length ≤ 2199023255552 ∧ winj18 (yown2_0l11 ++ ([e3] : List (List UInt8 × List UInt8 × Int × Bool × Int × Int))) (putS e3.1 (yown2_0l11.length : Int) yb1_0l11) x12l11 C11) ∧ ((!x8j22) = false → ∃ e8 : List UInt8 × List UInt8 × Int × Bool × Int × Int, (0 : Int) ≤ x7j22 ∧ yown2_0l11[Int.toNat x7j22]? = some e8 ∧ ((decide ((compZ e3 e8) ≥ 0)) = true → ∃ e9 : List UInt8 × List UInt8 × Int × Bool × Int × Int, (0 : Int) ≤ x7j22 ∧ yown2_0l11[Int.toNat x7j22]? = some e9 ∧ winj18 (yown2_0l11.set (Int.toNat x7j22) e3) yb1_0l11 x12l11 C11) ∧ ((decide ((compZ e3 e8) ≥ 0)) = false → winj18 yown2_0l11 yb1_0l11 x12l11 C11))
def winl11b (pl : List (List UInt8 × List UInt8 × Int × Bool × Int × Int)) (K : (List (List UInt8 × List UInt8 × Int × Bool × Int × Int)) → Prop) (x12l11 : Int) (yown2_0l11 : List (List UInt8 × List UInt8 × Int × Bool × Int × Int)) (yb1_0l11 : List (List UInt8 × (Int))) (C11 : Int → (List (List UInt8 × List UInt8 × Int × Bool × Int × Int)) → (List (List UInt8 × (Int))) → Prop) : Prop :=
  ((decide (x12l11 < (pl.length : Int))) = true → ∃ e3 : List UInt8 × List UInt8 × Int × Bool × Int × Int, (0 : Int) ≤ x12l11 ∧ pl[Int.toNat x12l11]? = some e3 ∧ (∀ e11 : Int, assocS e3.1 yb1_0l11 = some e11 → winj22 e3 e11 true x12l11 yown2_0l11 yb1_0l11 C11) ∧ (assocS e3.1 yb1_0l11 = none → winj22 e3 0 false x12l11 yown2_0l11 yb1_0l11 C11)) ∧ ((decide (x12l11 < (pl.length : Int))) = false → K yown2_0l11)
def winl11 (pl : List (List UInt8 × List UInt8 × Int × Bool × Int × Int)) (K : (List (List UInt8 × List UInt8 × Int × Bool × Int × Int)) → Prop) : Nat → Int → (List (List UInt8 × List UInt8 × Int × Bool × Int × Int)) → (List (List UInt8 × (Int))) → Prop
  | 0, _, _, _ => False
  | k + 1, x12l11, yown2_0l11, yb1_0l11 => winl11b pl K x12l11 yown2_0l11 yb1_0l11 (winl11 pl K k)
def winF (pl : List (List UInt8 × List UInt8 × Int × Bool × Int × Int)) (K : (List (List UInt8 × List UInt8 × Int × Bool × Int × Int)) → Prop) : Prop :=
  ∃ k, winl11 pl K k 0 ([] : List (List UInt8 × List UInt8 × Int × Bool × Int × Int)) ([] : List (List UInt8 × (Int)))
set_option maxHeartbeats 4000000 in
set_option maxRecDepth 100000 in
set_option linter.unusedVariables false in
theorem win_ok {g : Ghost} {apl : Option Addr} {cpl : Nat} (pl : List (List UInt8 × List UInt8 × Int × Bool × Int × Int)) (hRpl : Rep g (.slice (.pair (.str) (.pair (.str) (.pair (.int .i64) (.pair (.bool) (.pair (.int .i64) (.int .i64))))))) [.slice apl pl.length cpl] pl) (K : (List (List UInt8 × List UInt8 × Int × Bool × Int × Int)) → Prop)
    (hF : winF pl K) : CallsM Try.prog 19 #[.slice apl pl.length cpl] g (fun g' v => ∃ r0 : List (List UInt8 × List UInt8 × Int × Bool × Int × Int), ∃ (ar0 : Option Addr) (cr0 : Nat), v = .slice ar0 r0.length cr0 ∧ Rep g' (.slice (.pair (.str) (.pair (.str) (.pair (.int .i64) (.pair (.bool) (.pair (.int .i64) (.int .i64))))))) [.slice ar0 r0.length cr0] r0 ∧ K r0) := by
  refine CallsM.enter 49 [(0, .slice apl pl.length cpl)] Try.func19 rfl (by kernel_rfl) (by kernel_rfl) (by kernel_rfl) fun w0 => ?_
  refine Ok.seq ?_
  refine Ok.region ?_
  refine Ok.batch 1 [(0, .slice apl pl.length cpl)] (by kernel_rfl) ?_
  refine Ok.nil ?_
  refine Ok.thenN ?_
  refine Ok.seq ?_
  refine Ok.region ?_
  refine Ok.op rfl (OpOk.makeMap (.int .i64) false rfl fun b1 hM1 => ?_)
  refine Ok.batch 1 [(0, .slice apl pl.length cpl), (3, .map (some b1))] (by kernel_rfl) ?_
  refine Ok.nil ?_
  refine Ok.thenN ?_
  refine Ok.seq ?_
  refine Ok.region ?_
  refine Ok.batch 1 [(0, .slice apl pl.length cpl), (3, .map (some b1)), (4, .slice none 0 0)] (by kernel_rfl) ?_
  have hL2 : RepL g (.pair (.str) (.pair (.str) (.pair (.int .i64) (.pair (.bool) (.pair (.int .i64) (.int .i64)))))) [] [] := rfl
  refine Ok.ownNil 36 6 ?_
  refine Ok.nil ?_
  refine Ok.thenN ?_
  refine Ok.seq ?_
  refine Ok.seq ?_
  refine Ok.region ?_
  refine Ok.batch 3 [(3, .map (some b1)), (4, .slice none ([] : List (List UInt8 × List UInt8 × Int × Bool × Int × Int)).length 0), (10, .slice apl pl.length cpl), (11, .int .i64 (pl.length : Int)), (12, .int .i64 0)] (by kernel_rfl) ?_
  refine Ok.nil ?_
  refine Ok.thenN ?_
  refine Ok.block ?_
  obtain ⟨k, hF⟩ := hF
  refine Ok.loop (fun k a W => ∃ gl11 : Ghost, Gext w0 g gl11 ∧ ∃ (x12l11 : Int) (ayown2_0l11 : Option Addr) (cyown2_0l11 : Nat) (yown2_0l11 : List (List UInt8 × List UInt8 × Int × Bool × Int × Int)) (xsyown2_0l11 : List Value) (esyb1_0l11 : Array MapEntry) (ckyb1_0l11 : Nat) (yb1_0l11 : List (List UInt8 × (Int))), RepL gl11 (.pair (.str) (.pair (.str) (.pair (.int .i64) (.pair (.bool) (.pair (.int .i64) (.int .i64)))))) xsyown2_0l11 yown2_0l11 ∧ RepMap gl11 (.int .i64) false esyb1_0l11.toList yb1_0l11 ∧ StA 49 [(3, .map (some b1)), (4, .slice ayown2_0l11 yown2_0l11.length cyown2_0l11), (10, .slice apl pl.length cpl), (11, .int .i64 (pl.length : Int)), (12, .int .i64 x12l11)] a ∧ StW w0 [.own (.slice ayown2_0l11 yown2_0l11.length cyown2_0l11) 36 6 yown2_0l11.length xsyown2_0l11, .blk b1 (.map esyb1_0l11 ckyb1_0l11)] gl11 W ∧ winl11 pl K k x12l11 yown2_0l11 yb1_0l11) k ?_ ?_
  ·
    exact fun a W hA hW => ⟨g, (Gext.refl w0 g), 0, none, 0, ([] : List (List UInt8 × List UInt8 × Int × Bool × Int × Int)), [], (#[] : Array MapEntry), 0, ([] : List (List UInt8 × (Int))), hL2, hM1, hA.sub (by kernel_rfl), hW, hF⟩
  ·
    rintro k11 a W ⟨gl11, hxl11, x12l11, ayown2_0l11, cyown2_0l11, yown2_0l11, xsyown2_0l11, esyb1_0l11, ckyb1_0l11, yb1_0l11, hLyown2_0l11, hMyb1_0l11, hA, hW, hF⟩
    cases k11 with
    | zero => exact (hF : False).elim
    | succ k11 =>
      refine (?_ : Ok _ _ _ _ _ _) a W hA hW
      clear hA hW
      replace hRpl := hRpl.mono hxl11.1
      refine Ok.seq ?_
      refine Ok.region ?_
      refine Ok.batch 1 [(3, .map (some b1)), (4, .slice ayown2_0l11 yown2_0l11.length cyown2_0l11), (10, .slice apl pl.length cpl), (11, .int .i64 (pl.length : Int)), (12, .int .i64 x12l11), (13, .bool (decide (x12l11 < (pl.length : Int))))] (by kernel_rfl) ?_
      refine Ok.nil ?_
      refine Ok.thenN ?_
      refine Ok.seq ?_
      refine Ok.cond (b := decide (x12l11 < (pl.length : Int))) rfl (fun hc => ?_) (fun hc => ?_)
      · replace hF := hF.1 hc
        refine Ok.skip ?_
        refine Ok.thenN ?_
        refine Ok.cut (fun a W => ∃ gj18 : Ghost, Gext w0 gl11 gj18 ∧ ∃ (ayown2_0j18 : Option Addr) (cyown2_0j18 : Nat) (yown2_0j18 : List (List UInt8 × List UInt8 × Int × Bool × Int × Int)) (xsyown2_0j18 : List Value) (esyb1_0j18 : Array MapEntry) (ckyb1_0j18 : Nat) (yb1_0j18 : List (List UInt8 × (Int))), RepL gj18 (.pair (.str) (.pair (.str) (.pair (.int .i64) (.pair (.bool) (.pair (.int .i64) (.int .i64)))))) xsyown2_0j18 yown2_0j18 ∧ RepMap gj18 (.int .i64) false esyb1_0j18.toList yb1_0j18 ∧ StA 49 [(3, .map (some b1)), (4, .slice ayown2_0j18 yown2_0j18.length cyown2_0j18), (10, .slice apl pl.length cpl), (11, .int .i64 (pl.length : Int)), (12, .int .i64 x12l11)] a ∧ StW w0 [.own (.slice ayown2_0j18 yown2_0j18.length cyown2_0j18) 36 6 yown2_0j18.length xsyown2_0j18, .blk b1 (.map esyb1_0j18 ckyb1_0j18)] gj18 W ∧ winj18 yown2_0j18 yb1_0j18 x12l11 (winl11 pl K k11)) ?_ ?_
        ·
          refine Ok.block ?_
          refine Ok.seq ?_
          refine Ok.region ?_
          obtain ⟨e3, h03, he3, hF⟩ := hF
          refine Ok.op rfl (OpOk.indexRo (e := .pair (.str) (.pair (.str) (.pair (.int .i64) (.pair (.bool) (.pair (.int .i64) (.int .i64)))))) (i := x12l11) (el := e3) rfl rfl Try.underlying33 (by kernel_rfl) hRpl h03 he3 rfl fun q3 o3 cs3 _ hat3 hr3 => ?_)
          obtain ⟨_, _, rfl, rfl, ⟨_, _, rfl, rfl, ⟨_, _, rfl, rfl, ⟨_, _, rfl, rfl, ⟨_, _, rfl, rfl, rfl⟩⟩⟩⟩⟩ := hr3
          replace hat3 : At gl11 q3 o3 [.string ⟨⟨e3.1⟩⟩, .string ⟨⟨e3.2.1⟩⟩, .int .i64 e3.2.2.1, .bool e3.2.2.2.1, .int .i64 e3.2.2.2.2.1, .int .i64 e3.2.2.2.2.2] := hat3
          refine Ok.op rfl (OpOk.step (v := .agg #[.string ⟨⟨e3.1⟩⟩, .string ⟨⟨e3.2.1⟩⟩, .int .i64 e3.2.2.1, .bool e3.2.2.2.1, .int .i64 e3.2.2.2.2.1, .int .i64 e3.2.2.2.2.2]) (Yields.loadAggRo 0 6 #[.string ⟨⟨e3.1⟩⟩, .string ⟨⟨e3.2.1⟩⟩, .int .i64 e3.2.2.1, .bool e3.2.2.2.1, .int .i64 e3.2.2.2.2.1, .int .i64 e3.2.2.2.2.2] hat3 (by kernel_rfl) Try.underlying36 rfl (by kernel_rfl) (by kernel_rfl) (by kernel_rfl)) rfl rfl ?_)
          refine Ok.op rfl (OpOk.alloc (z := .agg #[.string ⟨⟨([] : List UInt8)⟩⟩, .string ⟨⟨([] : List UInt8)⟩⟩, .int .i64 0, .bool false, .int .i64 0, .int .i64 0]) (cs := #[.string ⟨⟨([] : List UInt8)⟩⟩, .string ⟨⟨([] : List UInt8)⟩⟩, .int .i64 0, .bool false, .int .i64 0, .int .i64 0]) (by kernel_rfl) (by kernel_rfl) rfl fun b4 => ?_)
          refine Ok.op rfl (OpOk.store (k := 6) (v := .agg #[.string ⟨⟨e3.1⟩⟩, .string ⟨⟨e3.2.1⟩⟩, .int .i64 e3.2.2.1, .bool e3.2.2.2.1, .int .i64 e3.2.2.2.2.1, .int .i64 e3.2.2.2.2.2]) (H' := [.blk b4 (.cells #[.string ⟨⟨e3.1⟩⟩, .string ⟨⟨e3.2.1⟩⟩, .int .i64 e3.2.2.1, .bool e3.2.2.2.1, .int .i64 e3.2.2.2.2.1, .int .i64 e3.2.2.2.2.2] 36), .own (.slice ayown2_0l11 yown2_0l11.length cyown2_0l11) 36 6 yown2_0l11.length xsyown2_0l11, .blk b1 (.map esyb1_0l11 ckyb1_0l11)]) 0 rfl rfl rfl (by kernel_rfl) (by kernel_rfl) (by kernel_rfl) (by kernel_rfl) (by kernel_rfl) ?_)
          refine Ok.nil ?_
          refine Ok.thenN ?_
          refine Ok.cut (fun a W => ∃ gj22 : Ghost, Gext w0 gl11 gj22 ∧ ∃ (x7j22 : Int) (x8j22 : Bool), StA 49 [(3, .map (some b1)), (4, .slice ayown2_0l11 yown2_0l11.length cyown2_0l11), (6, .pointer (some ⟨b4, 0, none⟩)), (7, .int .i64 x7j22), (8, .bool x8j22), (10, .slice apl pl.length cpl), (11, .int .i64 (pl.length : Int)), (12, .int .i64 x12l11)] a ∧ StW w0 [.blk b4 (.cells #[.string ⟨⟨e3.1⟩⟩, .string ⟨⟨e3.2.1⟩⟩, .int .i64 e3.2.2.1, .bool e3.2.2.2.1, .int .i64 e3.2.2.2.2.1, .int .i64 e3.2.2.2.2.2] 36), .own (.slice ayown2_0l11 yown2_0l11.length cyown2_0l11) 36 6 yown2_0l11.length xsyown2_0l11, .blk b1 (.map esyb1_0l11 ckyb1_0l11)] gj22 W ∧ winj22 e3 x7j22 x8j22 x12l11 yown2_0l11 yb1_0l11 (winl11 pl K k11)) ?_ ?_
          ·
            refine Ok.region ?_
            refine Ok.batch 2 [(3, .map (some b1)), (4, .slice ayown2_0l11 yown2_0l11.length cyown2_0l11), (6, .pointer (some ⟨b4, 0, none⟩)), (10, .slice apl pl.length cpl), (11, .int .i64 (pl.length : Int)), (12, .int .i64 x12l11), (17, .map (some b1)), (18, .pointer (some ⟨b4, 0, none⟩))] (by kernel_rfl) ?_
            refine Ok.op rfl (OpOk.step (v := .string ⟨⟨e3.1⟩⟩) (Yields.load 0 rfl rfl Try.underlying9 rfl (by kernel_rfl)) rfl rfl ?_)
            cases hce11 : assocS e3.1 yb1_0l11 with
            | some e11 =>
              replace hF := hF.1 e11 hce11
              refine Ok.op rfl (OpOk.lookupSome (vt := .int .i64) (row := false) 2 rfl hMyb1_0l11 rfl rfl Try.underlying75 Try.underlying9 hce11 rfl fun v11 cs11 hvi11 hr11 u11 hu11 => ?_)
              obtain rfl := hr11
              have hvi11 : ([.int .i64 e11] : List Value) = [v11] := hvi11
              injection hvi11 with hvi11
              subst hvi11
              have hu11 : u11 = .tuple #[.int .i64 e11, .bool true] := hu11
              subst hu11
              refine Ok.batch 5 [(3, .map (some b1)), (4, .slice ayown2_0l11 yown2_0l11.length cyown2_0l11), (6, .pointer (some ⟨b4, 0, none⟩)), (7, .int .i64 e11), (8, .bool true), (10, .slice apl pl.length cpl), (11, .int .i64 (pl.length : Int)), (12, .int .i64 x12l11)] (by kernel_rfl) ?_
              refine Ok.nil ?_
              refine Ok.thenN ?_
              exact fun a W hA hW => ⟨gl11, (Gext.refl w0 gl11), e11, true, hA.sub (by kernel_rfl), hW, hF⟩
            | none =>
              replace hF := hF.2 hce11
              refine Ok.op rfl (OpOk.lookupNone (vt := .int .i64) (row := false) (z := .int .i64 0) (u := .tuple #[.int .i64 0, .bool false]) 2 rfl hMyb1_0l11 rfl rfl Try.underlying75 Try.underlying9 (by kernel_rfl) hce11 rfl rfl ?_)
              refine Ok.batch 5 [(3, .map (some b1)), (4, .slice ayown2_0l11 yown2_0l11.length cyown2_0l11), (6, .pointer (some ⟨b4, 0, none⟩)), (7, .int .i64 0), (8, .bool false), (10, .slice apl pl.length cpl), (11, .int .i64 (pl.length : Int)), (12, .int .i64 x12l11)] (by kernel_rfl) ?_
              refine Ok.nil ?_
              refine Ok.thenN ?_
              exact fun a W hA hW => ⟨gl11, (Gext.refl w0 gl11), 0, false, hA.sub (by kernel_rfl), hW, hF⟩
          ·
            rintro a W ⟨gj22, hxj22, x7j22, x8j22, hA, hW, hF⟩
            refine (?_ : Ok _ _ _ _ _ _) a W hA hW
            clear hA hW
            replace hLyown2_0l11 := hLyown2_0l11.mono hxj22.1
            replace hRpl := hRpl.mono hxj22.1
            replace hMyb1_0l11 := hMyb1_0l11.mono hxj22.1
            refine Ok.block ?_
            refine Ok.seq ?_
            refine Ok.region ?_
            refine Ok.batch 3 [(3, .map (some b1)), (4, .slice ayown2_0l11 yown2_0l11.length cyown2_0l11), (6, .pointer (some ⟨b4, 0, none⟩)), (7, .int .i64 x7j22), (10, .slice apl pl.length cpl), (11, .int .i64 (pl.length : Int)), (12, .int .i64 x12l11), (23, .bool (!x8j22))] (by kernel_rfl) ?_
            refine Ok.nil ?_
            refine Ok.thenN ?_
            refine Ok.cond (b := !x8j22) rfl (fun hc => ?_) (fun hc => ?_)
            · replace hF := hF.1 hc
              refine Ok.seq ?_
              refine Ok.region ?_
              refine Ok.batch 2 [(3, .map (some b1)), (4, .slice ayown2_0l11 yown2_0l11.length cyown2_0l11), (6, .pointer (some ⟨b4, 0, none⟩)), (10, .slice apl pl.length cpl), (11, .int .i64 (pl.length : Int)), (12, .int .i64 x12l11), (26, .map (some b1)), (27, .pointer (some ⟨b4, 0, none⟩))] (by kernel_rfl) ?_
              refine Ok.op rfl (OpOk.step (v := .string ⟨⟨e3.1⟩⟩) (Yields.load 0 rfl rfl Try.underlying9 rfl (by kernel_rfl)) rfl rfl ?_)
              refine Ok.batch 2 [(3, .map (some b1)), (4, .slice ayown2_0l11 yown2_0l11.length cyown2_0l11), (6, .pointer (some ⟨b4, 0, none⟩)), (10, .slice apl pl.length cpl), (11, .int .i64 (pl.length : Int)), (12, .int .i64 x12l11), (26, .map (some b1)), (28, .string ⟨⟨e3.1⟩⟩), (30, .int .i64 (yown2_0l11.length : Int))] (by kernel_rfl) ?_
              refine Ok.op rfl (OpOk.mapUpdate (vt := .int .i64) (row := false) (cells := [.int .i64 (yown2_0l11.length : Int)]) (y := (yown2_0l11.length : Int)) 2 rfl hMyb1_0l11 rfl rfl rfl Try.underlying75 Try.underlying9 rfl rfl fun es5 ck5 hM5 => ?_)
              refine Ok.nil ?_
              refine Ok.thenN ?_
              refine Ok.region ?_
              refine Ok.batch 1 [(3, .map (some b1)), (6, .pointer (some ⟨b4, 0, none⟩)), (10, .slice apl pl.length cpl), (11, .int .i64 (pl.length : Int)), (12, .int .i64 x12l11), (31, .slice ayown2_0l11 yown2_0l11.length cyown2_0l11)] (by kernel_rfl) ?_
              refine Ok.op rfl (OpOk.step (v := .agg #[.string ⟨⟨e3.1⟩⟩, .string ⟨⟨e3.2.1⟩⟩, .int .i64 e3.2.2.1, .bool e3.2.2.2.1, .int .i64 e3.2.2.2.2.1, .int .i64 e3.2.2.2.2.2]) (Yields.loadAgg 0 6 #[.string ⟨⟨e3.1⟩⟩, .string ⟨⟨e3.2.1⟩⟩, .int .i64 e3.2.2.1, .bool e3.2.2.2.1, .int .i64 e3.2.2.2.2.1, .int .i64 e3.2.2.2.2.2] rfl rfl Try.underlying36 rfl (by kernel_rfl) (by kernel_rfl) (by kernel_rfl)) rfl rfl ?_)
              have hL6 : RepL gj22 (.pair (.str) (.pair (.str) (.pair (.int .i64) (.pair (.bool) (.pair (.int .i64) (.int .i64)))))) ([.string ⟨⟨e3.1⟩⟩, .string ⟨⟨e3.2.1⟩⟩, .int .i64 e3.2.2.1, .bool e3.2.2.2.1, .int .i64 e3.2.2.2.2.1, .int .i64 e3.2.2.2.2.2] : List Value) ([e3] : List (List UInt8 × List UInt8 × Int × Bool × Int × Int)) := (RepL.cons6 ⟨[.string ⟨⟨e3.1⟩⟩], [.string ⟨⟨e3.2.1⟩⟩, .int .i64 e3.2.2.1, .bool e3.2.2.2.1, .int .i64 e3.2.2.2.2.1, .int .i64 e3.2.2.2.2.2], rfl, rfl, ⟨[.string ⟨⟨e3.2.1⟩⟩], [.int .i64 e3.2.2.1, .bool e3.2.2.2.1, .int .i64 e3.2.2.2.2.1, .int .i64 e3.2.2.2.2.2], rfl, rfl, ⟨[.int .i64 e3.2.2.1], [.bool e3.2.2.2.1, .int .i64 e3.2.2.2.2.1, .int .i64 e3.2.2.2.2.2], rfl, rfl, ⟨[.bool e3.2.2.2.1], [.int .i64 e3.2.2.2.2.1, .int .i64 e3.2.2.2.2.2], rfl, rfl, ⟨[.int .i64 e3.2.2.2.2.1], [.int .i64 e3.2.2.2.2.2], rfl, rfl, rfl⟩⟩⟩⟩⟩ rfl)
              refine Ok.op rfl (OpOk.lit (E := 36) (.pair (.str) (.pair (.str) (.pair (.int .i64) (.pair (.bool) (.pair (.int .i64) (.int .i64)))))) ([e3] : List (List UInt8 × List UInt8 × Int × Bool × Int × Int)) ([.string ⟨⟨e3.1⟩⟩, .string ⟨⟨e3.2.1⟩⟩, .int .i64 e3.2.2.1, .bool e3.2.2.2.1, .int .i64 e3.2.2.2.2.1, .int .i64 e3.2.2.2.2.2] : List Value) (by kernel_rfl) (by kernel_rfl) rfl (by kernel_rfl) hL6 rfl fun b6 => ?_)
              obtain ⟨hb7, hF⟩ := hF
              refine Ok.op rfl (OpOk.append' (e := .pair (.str) (.pair (.str) (.pair (.int .i64) (.pair (.bool) (.pair (.int .i64) (.int .i64)))))) 64 2199023255552 2 0 rfl rfl rfl rfl hLyown2_0l11 hL6 Try.underlying33 (by kernel_rfl) (by kernel_rfl) (by kernel_rfl) hb7 rfl fun a7 c7 xs7 hL7 => ?_)
              refine Ok.batch 1 [(3, .map (some b1)), (4, .slice a7 (yown2_0l11 ++ ([e3] : List (List UInt8 × List UInt8 × Int × Bool × Int × Int))).length c7), (10, .slice apl pl.length cpl), (11, .int .i64 (pl.length : Int)), (12, .int .i64 x12l11)] (by kernel_rfl) ?_
              refine Ok.nil ?_
              refine Ok.blockN ?_
              refine Ok.blockN ?_
              refine Ok.thenN ?_
              exact fun a W hA hW => ⟨gj22, hxj22, a7, c7, (yown2_0l11 ++ ([e3] : List (List UInt8 × List UInt8 × Int × Bool × Int × Int))), xs7, es5, ck5, (putS e3.1 (yown2_0l11.length : Int) yb1_0l11), hL7, hM5, hA.sub (by kernel_rfl), hW.sub (.cons _ (.cons _ (.cons_cons _ (.cons_cons _ .slnil)))), hF⟩
            · replace hF := hF.2 hc
              refine Ok.seq ?_
              refine Ok.quiet' (by kernel_rfl) (by kernel_rfl) ?_
              refine OkQ.op rfl (OpQ.step (v := .agg #[.string ⟨⟨e3.1⟩⟩, .string ⟨⟨e3.2.1⟩⟩, .int .i64 e3.2.2.1, .bool e3.2.2.2.1, .int .i64 e3.2.2.2.2.1, .int .i64 e3.2.2.2.2.2]) (Yields.loadAgg 0 6 #[.string ⟨⟨e3.1⟩⟩, .string ⟨⟨e3.2.1⟩⟩, .int .i64 e3.2.2.1, .bool e3.2.2.2.1, .int .i64 e3.2.2.2.2.1, .int .i64 e3.2.2.2.2.2] rfl rfl Try.underlying36 rfl (by kernel_rfl) (by kernel_rfl) (by kernel_rfl)) rfl rfl ?_)
              refine OkQ.batch 2 [(3, .map (some b1)), (4, .slice ayown2_0l11 yown2_0l11.length cyown2_0l11), (6, .pointer (some ⟨b4, 0, none⟩)), (7, .int .i64 x7j22), (10, .slice apl pl.length cpl), (11, .int .i64 (pl.length : Int)), (12, .int .i64 x12l11), (36, .agg #[.string ⟨⟨e3.1⟩⟩, .string ⟨⟨e3.2.1⟩⟩, .int .i64 e3.2.2.1, .bool e3.2.2.2.1, .int .i64 e3.2.2.2.2.1, .int .i64 e3.2.2.2.2.2]), (37, .slice ayown2_0l11 yown2_0l11.length cyown2_0l11), (38, .int .i64 x7j22)] (by kernel_rfl) ?_
              obtain ⟨e8, h08, he8, hF⟩ := hF
              refine OkQ.op rfl (OpQ.indexOwn (e := .pair (.str) (.pair (.str) (.pair (.int .i64) (.pair (.bool) (.pair (.int .i64) (.int .i64)))))) (q := x7j22) (el := e8) 1 rfl hLyown2_0l11 rfl rfl Try.underlying33 (by kernel_rfl) (by kernel_rfl) h08 he8 rfl fun cs8 _ hr8 hc8 => ?_)
              obtain ⟨_, _, rfl, rfl, ⟨_, _, rfl, rfl, ⟨_, _, rfl, rfl, ⟨_, _, rfl, rfl, ⟨_, _, rfl, rfl, rfl⟩⟩⟩⟩⟩ := hr8
              replace hc8 : ∀ j v, ([.string ⟨⟨e8.1⟩⟩, .string ⟨⟨e8.2.1⟩⟩, .int .i64 e8.2.2.1, .bool e8.2.2.2.1, .int .i64 e8.2.2.2.2.1, .int .i64 e8.2.2.2.2.2] : List Value)[j]? = some v → xsyown2_0l11[Int.toNat x7j22 * 6 + j]? = some v := hc8
              refine OkQ.op rfl (OpQ.step (v := .agg #[.string ⟨⟨e8.1⟩⟩, .string ⟨⟨e8.2.1⟩⟩, .int .i64 e8.2.2.1, .bool e8.2.2.2.1, .int .i64 e8.2.2.2.2.1, .int .i64 e8.2.2.2.2.2]) (Yields.loadAggOwn 1 0 6 #[.string ⟨⟨e8.1⟩⟩, .string ⟨⟨e8.2.1⟩⟩, .int .i64 e8.2.2.1, .bool e8.2.2.2.1, .int .i64 e8.2.2.2.2.1, .int .i64 e8.2.2.2.2.2] rfl hc8 rfl Try.underlying36 rfl (by kernel_rfl) (by kernel_rfl) (by kernel_rfl)) rfl rfl ?_)
              refine OkQ.op rfl (OpQ.call (v := .int .i64 (compZ e3 e8)) (enters (by kernel_rfl) (fun _ => by kernel_rfl)) (comp_c e3 e8) rfl rfl ?_)
              refine OkQ.batch 2 [(3, .map (some b1)), (4, .slice ayown2_0l11 yown2_0l11.length cyown2_0l11), (6, .pointer (some ⟨b4, 0, none⟩)), (7, .int .i64 x7j22), (10, .slice apl pl.length cpl), (11, .int .i64 (pl.length : Int)), (12, .int .i64 x12l11), (35, .bool (decide ((compZ e3 e8) ≥ 0)))] (by kernel_rfl) ?_
              refine OkQ.nil ?_
              refine Ok.thenN ?_
              refine Ok.cond (b := decide ((compZ e3 e8) ≥ 0)) rfl (fun hc => ?_) (fun hc => ?_)
              · replace hF := hF.1 hc
                refine Ok.region ?_
                refine Ok.batch 2 [(3, .map (some b1)), (4, .slice ayown2_0l11 yown2_0l11.length cyown2_0l11), (6, .pointer (some ⟨b4, 0, none⟩)), (10, .slice apl pl.length cpl), (11, .int .i64 (pl.length : Int)), (12, .int .i64 x12l11), (43, .slice ayown2_0l11 yown2_0l11.length cyown2_0l11), (44, .int .i64 x7j22)] (by kernel_rfl) ?_
                refine Ok.op rfl (OpOk.step (v := .agg #[.string ⟨⟨e3.1⟩⟩, .string ⟨⟨e3.2.1⟩⟩, .int .i64 e3.2.2.1, .bool e3.2.2.2.1, .int .i64 e3.2.2.2.2.1, .int .i64 e3.2.2.2.2.2]) (Yields.loadAgg 0 6 #[.string ⟨⟨e3.1⟩⟩, .string ⟨⟨e3.2.1⟩⟩, .int .i64 e3.2.2.1, .bool e3.2.2.2.1, .int .i64 e3.2.2.2.2.1, .int .i64 e3.2.2.2.2.2] rfl rfl Try.underlying36 rfl (by kernel_rfl) (by kernel_rfl) (by kernel_rfl)) rfl rfl ?_)
                obtain ⟨e9, h09, he9, hF⟩ := hF
                refine Ok.op rfl (OpOk.indexOwn (e := .pair (.str) (.pair (.str) (.pair (.int .i64) (.pair (.bool) (.pair (.int .i64) (.int .i64)))))) (q := x7j22) (el := e9) 1 rfl hLyown2_0l11 rfl rfl Try.underlying33 (by kernel_rfl) (by kernel_rfl) h09 he9 rfl fun cs9 _ hr9 hc9 => ?_)
                obtain ⟨_, _, rfl, rfl, ⟨_, _, rfl, rfl, ⟨_, _, rfl, rfl, ⟨_, _, rfl, rfl, ⟨_, _, rfl, rfl, rfl⟩⟩⟩⟩⟩ := hr9
                replace hc9 : ∀ j v, ([.string ⟨⟨e9.1⟩⟩, .string ⟨⟨e9.2.1⟩⟩, .int .i64 e9.2.2.1, .bool e9.2.2.2.1, .int .i64 e9.2.2.2.2.1, .int .i64 e9.2.2.2.2.2] : List Value)[j]? = some v → xsyown2_0l11[Int.toNat x7j22 * 6 + j]? = some v := hc9
                refine Ok.op rfl (OpOk.storeOwn (e := .pair (.str) (.pair (.str) (.pair (.int .i64) (.pair (.bool) (.pair (.int .i64) (.int .i64)))))) (q := Int.toNat x7j22) (cells := [.string ⟨⟨e9.1⟩⟩, .string ⟨⟨e9.2.1⟩⟩, .int .i64 e9.2.2.1, .bool e9.2.2.2.1, .int .i64 e9.2.2.2.2.1, .int .i64 e9.2.2.2.2.2]) (vs := [.string ⟨⟨e3.1⟩⟩, .string ⟨⟨e3.2.1⟩⟩, .int .i64 e3.2.2.1, .bool e3.2.2.2.1, .int .i64 e3.2.2.2.2.1, .int .i64 e3.2.2.2.2.2]) (el' := e3) 1 0 6 rfl hLyown2_0l11 hc9 (by kernel_rfl) rfl rfl rfl (by kernel_rfl) (by kernel_rfl) (by kernel_rfl) (by kernel_rfl) (by kernel_rfl) (show Rep _ _ [.string ⟨⟨e3.1⟩⟩, .string ⟨⟨e3.2.1⟩⟩, .int .i64 e3.2.2.1, .bool e3.2.2.2.1, .int .i64 e3.2.2.2.2.1, .int .i64 e3.2.2.2.2.2] _ from ⟨[.string ⟨⟨e3.1⟩⟩], [.string ⟨⟨e3.2.1⟩⟩, .int .i64 e3.2.2.1, .bool e3.2.2.2.1, .int .i64 e3.2.2.2.2.1, .int .i64 e3.2.2.2.2.2], rfl, rfl, ⟨[.string ⟨⟨e3.2.1⟩⟩], [.int .i64 e3.2.2.1, .bool e3.2.2.2.1, .int .i64 e3.2.2.2.2.1, .int .i64 e3.2.2.2.2.2], rfl, rfl, ⟨[.int .i64 e3.2.2.1], [.bool e3.2.2.2.1, .int .i64 e3.2.2.2.2.1, .int .i64 e3.2.2.2.2.2], rfl, rfl, ⟨[.bool e3.2.2.2.1], [.int .i64 e3.2.2.2.2.1, .int .i64 e3.2.2.2.2.2], rfl, rfl, ⟨[.int .i64 e3.2.2.2.2.1], [.int .i64 e3.2.2.2.2.2], rfl, rfl, rfl⟩⟩⟩⟩⟩) fun xs10 hL10 => ?_)
                rw [show yown2_0l11.length = (yown2_0l11.set (Int.toNat x7j22) e3).length from (List.length_set ..).symm]
                refine Ok.nil ?_
                refine Ok.blockN ?_
                refine Ok.blockN ?_
                refine Ok.thenN ?_
                exact fun a W hA hW => ⟨gj22, hxj22, ayown2_0l11, cyown2_0l11, (yown2_0l11.set (Int.toNat x7j22) e3), xs10, esyb1_0l11, ckyb1_0l11, yb1_0l11, hL10, hMyb1_0l11, hA.sub (by kernel_rfl), hW.sub (.cons _ (.cons_cons _ (.cons_cons _ .slnil))), hF⟩
              · replace hF := hF.2 hc
                refine Ok.skip ?_
                refine Ok.blockN ?_
                refine Ok.blockN ?_
                refine Ok.thenN ?_
                exact fun a W hA hW => ⟨gj22, hxj22, ayown2_0l11, cyown2_0l11, yown2_0l11, xsyown2_0l11, esyb1_0l11, ckyb1_0l11, yb1_0l11, hLyown2_0l11, hMyb1_0l11, hA.sub (by kernel_rfl), hW.sub (.cons _ (.cons_cons _ (.cons_cons _ .slnil))), hF⟩
        ·
          rintro a W ⟨gj18, hxj18, ayown2_0j18, cyown2_0j18, yown2_0j18, xsyown2_0j18, esyb1_0j18, ckyb1_0j18, yb1_0j18, hLyown2_0j18, hMyb1_0j18, hA, hW, hF⟩
          refine (?_ : Ok _ _ _ _ _ _) a W hA hW
          clear hA hW
          replace hRpl := hRpl.mono hxj18.1
          refine Ok.region ?_
          refine Ok.batch 2 [(3, .map (some b1)), (4, .slice ayown2_0j18 yown2_0j18.length cyown2_0j18), (10, .slice apl pl.length cpl), (11, .int .i64 (pl.length : Int)), (12, .int .i64 (IntKind.wrap .i64 (x12l11 + 1)))] (by kernel_rfl) ?_
          refine Ok.nil ?_
          refine Ok.thenN ?_
          exact fun a W hA hW => ⟨k11, Nat.lt_succ_self _, gj18, (hxl11.trans hxj18), (IntKind.wrap .i64 (x12l11 + 1)), ayown2_0j18, cyown2_0j18, yown2_0j18, xsyown2_0j18, esyb1_0j18, ckyb1_0j18, yb1_0j18, hLyown2_0j18, hMyb1_0j18, hA.sub (by kernel_rfl), hW, hF⟩
      · replace hF := hF.2 hc
        refine Ok.exit ?_
        refine Ok.thenE ?_
        refine Ok.thenE ?_
        refine Ok.blockHit ?_
        refine Ok.thenN ?_
        refine Ok.seq ?_
        refine Ok.region ?_
        refine Ok.batch 2 [(2, .slice ayown2_0l11 yown2_0l11.length cyown2_0l11)] (by kernel_rfl) ?_
        refine Ok.nil ?_
        refine Ok.thenN ?_
        refine Ok.ret ?_
        refine Ok.freeze (H' := [.blk b1 (.map esyb1_0l11 ckyb1_0l11)]) 0 rfl hLyown2_0l11 rfl fun g12 hx12 hRf12 => ?_
        replace hMyb1_0l11 := hMyb1_0l11.mono hx12.1
        exact Ok.resM1 (.inl rfl) rfl (.tmp rfl) (hxl11.trans hx12) ⟨yown2_0l11, ayown2_0l11, cyown2_0l11, rfl, hRf12, hF⟩
/-- one counts before the other, or not: two ways to say it -/
theorem comp_later (a b : G) : compZ a b < 0 ↔ laterB a b = true := by
  unfold compZ orZ orZ orZ orZ cmpZ laterB
  repeat' split
  all_goals simp
  all_goals omega
def lessF (pa_Name : List UInt8) (pa_Value : List UInt8) (pa_Origin : Int) (pa_Important : Bool) (pa_Weight : Int) (pa_Place : Int) (pb_Name : List UInt8) (pb_Value : List UInt8) (pb_Origin : Int) (pb_Important : Bool) (pb_Weight : Int) (pb_Place : Int) (K : Bool → Prop) : Prop :=
  K (decide ((compZ (pa_Name, pa_Value, pa_Origin, pa_Important, pa_Weight, pa_Place) (pb_Name, pb_Value, pb_Origin, pb_Important, pb_Weight, pb_Place)) < 0))
set_option maxHeartbeats 4000000 in
set_option maxRecDepth 100000 in
set_option linter.unusedVariables false in
theorem less_ok {g : Ghost} (pa_Name : List UInt8) (pa_Value : List UInt8) (pa_Origin : Int) (pa_Important : Bool) (pa_Weight : Int) (pa_Place : Int) (pb_Name : List UInt8) (pb_Value : List UInt8) (pb_Origin : Int) (pb_Important : Bool) (pb_Weight : Int) (pb_Place : Int) (K : Bool → Prop)
    (hF : lessF pa_Name pa_Value pa_Origin pa_Important pa_Weight pa_Place pb_Name pb_Value pb_Origin pb_Important pb_Weight pb_Place K) : CallsK Try.prog 33 #[.agg #[.string ⟨⟨pa_Name⟩⟩, .string ⟨⟨pa_Value⟩⟩, .int .i64 pa_Origin, .bool pa_Important, .int .i64 pa_Weight, .int .i64 pa_Place], .agg #[.string ⟨⟨pb_Name⟩⟩, .string ⟨⟨pb_Value⟩⟩, .int .i64 pb_Origin, .bool pb_Important, .int .i64 pb_Weight, .int .i64 pb_Place]] g (fun v => ∃ r0 : Bool, v = .bool r0 ∧ K r0) := by
  refine CallsK.enter 9 [(0, .agg #[.string ⟨⟨pa_Name⟩⟩, .string ⟨⟨pa_Value⟩⟩, .int .i64 pa_Origin, .bool pa_Important, .int .i64 pa_Weight, .int .i64 pa_Place]), (1, .agg #[.string ⟨⟨pb_Name⟩⟩, .string ⟨⟨pb_Value⟩⟩, .int .i64 pb_Origin, .bool pb_Important, .int .i64 pb_Weight, .int .i64 pb_Place])] Try.func33 rfl (by kernel_rfl) (by kernel_rfl) (by kernel_rfl) fun w0 => ?_
  refine Ok.seq ?_
  refine Ok.region ?_
  refine Ok.op rfl (OpOk.box (v := .agg #[.string ⟨⟨pa_Name⟩⟩, .string ⟨⟨pa_Value⟩⟩, .int .i64 pa_Origin, .bool pa_Important, .int .i64 pa_Weight, .int .i64 pa_Place]) (cs := #[.string ⟨⟨pa_Name⟩⟩, .string ⟨⟨pa_Value⟩⟩, .int .i64 pa_Origin, .bool pa_Important, .int .i64 pa_Weight, .int .i64 pa_Place]) rfl (by kernel_rfl) rfl fun b1 => ?_)
  refine Ok.op rfl (OpOk.box (v := .agg #[.string ⟨⟨pb_Name⟩⟩, .string ⟨⟨pb_Value⟩⟩, .int .i64 pb_Origin, .bool pb_Important, .int .i64 pb_Weight, .int .i64 pb_Place]) (cs := #[.string ⟨⟨pb_Name⟩⟩, .string ⟨⟨pb_Value⟩⟩, .int .i64 pb_Origin, .bool pb_Important, .int .i64 pb_Weight, .int .i64 pb_Place]) rfl (by kernel_rfl) rfl fun b2 => ?_)
  refine Ok.batch 1 [(2, .pointer (some ⟨b1, 0, none⟩)), (3, .pointer (some ⟨b2, 0, none⟩))] (by kernel_rfl) ?_
  refine Ok.nil ?_
  refine Ok.thenN ?_
  refine Ok.seq ?_
  refine Ok.region ?_
  refine Ok.op rfl (OpOk.step (v := .agg #[.string ⟨⟨pa_Name⟩⟩, .string ⟨⟨pa_Value⟩⟩, .int .i64 pa_Origin, .bool pa_Important, .int .i64 pa_Weight, .int .i64 pa_Place]) (Yields.loadAgg 1 6 #[.string ⟨⟨pa_Name⟩⟩, .string ⟨⟨pa_Value⟩⟩, .int .i64 pa_Origin, .bool pa_Important, .int .i64 pa_Weight, .int .i64 pa_Place] rfl rfl Try.underlying36 rfl (by kernel_rfl) (by kernel_rfl) (by kernel_rfl)) rfl rfl ?_)
  refine Ok.op rfl (OpOk.step (v := .agg #[.string ⟨⟨pb_Name⟩⟩, .string ⟨⟨pb_Value⟩⟩, .int .i64 pb_Origin, .bool pb_Important, .int .i64 pb_Weight, .int .i64 pb_Place]) (Yields.loadAgg 0 6 #[.string ⟨⟨pb_Name⟩⟩, .string ⟨⟨pb_Value⟩⟩, .int .i64 pb_Origin, .bool pb_Important, .int .i64 pb_Weight, .int .i64 pb_Place] rfl rfl Try.underlying36 rfl (by kernel_rfl) (by kernel_rfl) (by kernel_rfl)) rfl rfl ?_)
  refine Ok.op rfl (OpOk.call (v := .int .i64 (compZ (pa_Name, pa_Value, pa_Origin, pa_Important, pa_Weight, pa_Place) (pb_Name, pb_Value, pb_Origin, pb_Important, pb_Weight, pb_Place))) (enters (by kernel_rfl) (fun _ => by kernel_rfl)) (comp_c (pa_Name, pa_Value, pa_Origin, pa_Important, pa_Weight, pa_Place) (pb_Name, pb_Value, pb_Origin, pb_Important, pb_Weight, pb_Place)) rfl rfl ?_)
  refine Ok.batch 2 [(4, .bool (decide ((compZ (pa_Name, pa_Value, pa_Origin, pa_Important, pa_Weight, pa_Place) (pb_Name, pb_Value, pb_Origin, pb_Important, pb_Weight, pb_Place)) < 0)))] (by kernel_rfl) ?_
  refine Ok.nil ?_
  refine Ok.thenN ?_
  refine Ok.ret ?_
  exact Ok.res1 (.inl rfl) rfl (.tmp rfl) ⟨decide ((compZ (pa_Name, pa_Value, pa_Origin, pa_Important, pa_Weight, pa_Place) (pb_Name, pb_Value, pb_Origin, pb_Important, pb_Weight, pb_Place)) < 0), rfl, hF⟩
theorem less_F (a b : G) : lessF a.1 a.2.1 a.2.2.1 a.2.2.2.1 a.2.2.2.2.1 a.2.2.2.2.2 b.1 b.2.1 b.2.2.1 b.2.2.2.1 b.2.2.2.2.1 b.2.2.2.2.2 (fun r => r = laterB a b) := by
  unfold lessF
  show decide (compZ a b < 0) = laterB a b
  have := comp_later a b
  cases h : laterB a b
  · rw [h] at this; simpa using this
  · rw [h] at this; simpa using this
set_option linter.unusedVariables false in
theorem less_c {g : Ghost} (xa : List UInt8 × List UInt8 × Int × Bool × Int × Int) (xb : List UInt8 × List UInt8 × Int × Bool × Int × Int)  : CallsG Try.prog 33 #[.agg #[.string ⟨⟨xa.1⟩⟩, .string ⟨⟨xa.2.1⟩⟩, .int .i64 xa.2.2.1, .bool xa.2.2.2.1, .int .i64 xa.2.2.2.2.1, .int .i64 xa.2.2.2.2.2], .agg #[.string ⟨⟨xb.1⟩⟩, .string ⟨⟨xb.2.1⟩⟩, .int .i64 xb.2.2.1, .bool xb.2.2.2.1, .int .i64 xb.2.2.2.2.1, .int .i64 xb.2.2.2.2.2]] g (.bool (laterB xa xb)) :=
  (less_ok xa.1 xa.2.1 xa.2.2.1 xa.2.2.2.1 xa.2.2.2.2.1 xa.2.2.2.2.2 xb.1 xb.2.1 xb.2.2.1 xb.2.2.2.1 xb.2.2.2.2.1 xb.2.2.2.2.2 _ (less_F xa xb)).gives (by rintro _ ⟨_, rfl, rfl⟩; rfl)
def orderj24 (x31j24 : Bool) (x5l22 : Int) (x4l9 : Int) (yown1_0l9 : List (Int)) (C9 : Int → (List (Int)) → Prop) (C22 : Int → Prop) : Prop :=
  ((x31j24) = true → C22 (IntKind.wrap .i64 (x5l22 - 1))) ∧ ((x31j24) = false → (0 : Int) ≤ 0 ∧ 0 ≤ x5l22 ∧ x5l22 ≤ (yown1_0l9.length : Int) ∧ (([] : List (Int)) ++ (yown1_0l9.take (Int.toNat x5l22))).length ≤ 17592186044416 ∧ ((([] : List (Int)) ++ (yown1_0l9.take (Int.toNat x5l22))) ++ ([x4l9] : List (Int))).length ≤ 17592186044416 ∧ (0 : Int) ≤ x5l22 ∧ x5l22 ≤ (yown1_0l9.length : Int) ∧ (yown1_0l9.length : Int) ≤ (yown1_0l9.length : Int) ∧ (((([] : List (Int)) ++ (yown1_0l9.take (Int.toNat x5l22))) ++ ([x4l9] : List (Int))) ++ (yown1_0l9.drop (Int.toNat x5l22))).length ≤ 17592186044416 ∧ C9 (IntKind.wrap .i64 (x4l9 + 1)) (((([] : List (Int)) ++ (yown1_0l9.take (Int.toNat x5l22))) ++ ([x4l9] : List (Int))) ++ (yown1_0l9.drop (Int.toNat x5l22))))
def orderl22b (pl : List (List UInt8 × List UInt8 × Int × Bool × Int × Int)) (x4l9 : Int) (yown1_0l9 : List (Int)) (C9 : Int → (List (Int)) → Prop) (x5l22 : Int) (C22 : Int → Prop) : Prop :=
  ((decide (x5l22 > 0)) = true → ∃ e10 : List UInt8 × List UInt8 × Int × Bool × Int × Int, (0 : Int) ≤ x4l9 ∧ pl[Int.toNat x4l9]? = some e10 ∧ ∃ e11 : Int, (0 : Int) ≤ IntKind.wrap .i64 (x5l22 - 1) ∧ yown1_0l9[Int.toNat (IntKind.wrap .i64 (x5l22 - 1))]? = some e11 ∧ ∃ e12 : List UInt8 × List UInt8 × Int × Bool × Int × Int, (0 : Int) ≤ e11 ∧ pl[Int.toNat e11]? = some e12 ∧ orderj24 (laterB e10 e12) x5l22 x4l9 yown1_0l9 C9 C22) ∧ ((decide (x5l22 > 0)) = false → orderj24 false x5l22 x4l9 yown1_0l9 C9 C22)
def orderl22 (pl : List (List UInt8 × List UInt8 × Int × Bool × Int × Int)) (x4l9 : Int) (yown1_0l9 : List (Int)) (C9 : Int → (List (Int)) → Prop) : Nat → Int → Prop
  | 0, _ => False
  | k + 1, x5l22 => orderl22b pl x4l9 yown1_0l9 C9 x5l22 (orderl22 pl x4l9 yown1_0l9 C9 k)
def orderl9b (pl : List (List UInt8 × List UInt8 × Int × Bool × Int × Int)) (K : (List (Int)) → Prop) (x4l9 : Int) (yown1_0l9 : List (Int)) (C9 : Int → (List (Int)) → Prop) : Prop :=
  ((decide (x4l9 < (pl.length : Int))) = true → ∃ k, orderl22 pl x4l9 yown1_0l9 C9 k (yown1_0l9.length : Int)) ∧ ((decide (x4l9 < (pl.length : Int))) = false → K yown1_0l9)
def orderl9 (pl : List (List UInt8 × List UInt8 × Int × Bool × Int × Int)) (K : (List (Int)) → Prop) : Nat → Int → (List (Int)) → Prop
  | 0, _, _ => False
  | k + 1, x4l9, yown1_0l9 => orderl9b pl K x4l9 yown1_0l9 (orderl9 pl K k)
def orderF (pl : List (List UInt8 × List UInt8 × Int × Bool × Int × Int)) (K : (List (Int)) → Prop) : Prop :=
  ∃ k, orderl9 pl K k 0 ([] : List (Int))
set_option maxHeartbeats 4000000 in
set_option maxRecDepth 100000 in
set_option linter.unusedVariables false in
theorem order_ok {g : Ghost} {apl : Option Addr} {cpl : Nat} (pl : List (List UInt8 × List UInt8 × Int × Bool × Int × Int)) (hRpl : Rep g (.slice (.pair (.str) (.pair (.str) (.pair (.int .i64) (.pair (.bool) (.pair (.int .i64) (.int .i64))))))) [.slice apl pl.length cpl] pl) (K : (List (Int)) → Prop)
    (hF : orderF pl K) : CallsM Try.prog 32 #[.slice apl pl.length cpl] g (fun g' v => ∃ r0 : List (Int), ∃ (ar0 : Option Addr) (cr0 : Nat), v = .slice ar0 r0.length cr0 ∧ Rep g' (.slice (.int .i64)) [.slice ar0 r0.length cr0] r0 ∧ K r0) := by
  refine CallsM.enter 49 [(0, .slice apl pl.length cpl)] Try.func32 rfl (by kernel_rfl) (by kernel_rfl) (by kernel_rfl) fun w0 => ?_
  refine Ok.seq ?_
  refine Ok.region ?_
  refine Ok.batch 1 [(0, .slice apl pl.length cpl)] (by kernel_rfl) ?_
  refine Ok.nil ?_
  refine Ok.thenN ?_
  refine Ok.seq ?_
  refine Ok.region ?_
  refine Ok.batch 1 [(0, .slice apl pl.length cpl), (3, .slice none 0 0)] (by kernel_rfl) ?_
  have hL1 : RepL g (.int .i64) [] [] := rfl
  refine Ok.ownNil 3 1 ?_
  refine Ok.nil ?_
  refine Ok.thenN ?_
  refine Ok.seq ?_
  refine Ok.seq ?_
  refine Ok.region ?_
  refine Ok.batch 1 [(0, .slice apl pl.length cpl), (3, .slice none ([] : List (Int)).length 0), (4, .int .i64 0)] (by kernel_rfl) ?_
  refine Ok.nil ?_
  refine Ok.thenN ?_
  refine Ok.block ?_
  obtain ⟨k, hF⟩ := hF
  refine Ok.loop (fun k a W => ∃ gl9 : Ghost, Gext w0 g gl9 ∧ ∃ (x4l9 : Int) (ayown1_0l9 : Option Addr) (cyown1_0l9 : Nat) (yown1_0l9 : List (Int)) (xsyown1_0l9 : List Value), RepL gl9 (.int .i64) xsyown1_0l9 yown1_0l9 ∧ StA 49 [(0, .slice apl pl.length cpl), (3, .slice ayown1_0l9 yown1_0l9.length cyown1_0l9), (4, .int .i64 x4l9)] a ∧ StW w0 [.own (.slice ayown1_0l9 yown1_0l9.length cyown1_0l9) 3 1 yown1_0l9.length xsyown1_0l9] gl9 W ∧ orderl9 pl K k x4l9 yown1_0l9) k ?_ ?_
  ·
    exact fun a W hA hW => ⟨g, (Gext.refl w0 g), 0, none, 0, ([] : List (Int)), [], hL1, hA.sub (by kernel_rfl), hW, hF⟩
  ·
    rintro k9 a W ⟨gl9, hxl9, x4l9, ayown1_0l9, cyown1_0l9, yown1_0l9, xsyown1_0l9, hLyown1_0l9, hA, hW, hF⟩
    cases k9 with
    | zero => exact (hF : False).elim
    | succ k9 =>
      refine (?_ : Ok _ _ _ _ _ _) a W hA hW
      clear hA hW
      replace hRpl := hRpl.mono hxl9.1
      refine Ok.seq ?_
      refine Ok.seq ?_
      refine Ok.region ?_
      refine Ok.batch 4 [(0, .slice apl pl.length cpl), (3, .slice ayown1_0l9 yown1_0l9.length cyown1_0l9), (4, .int .i64 x4l9), (10, .bool (decide (x4l9 < (pl.length : Int))))] (by kernel_rfl) ?_
      refine Ok.nil ?_
      refine Ok.thenN ?_
      refine Ok.cond (b := decide (x4l9 < (pl.length : Int))) rfl (fun hc => ?_) (fun hc => ?_)
      · replace hF := hF.1 hc
        refine Ok.skip ?_
        refine Ok.thenN ?_
        refine Ok.seq ?_
        refine Ok.block ?_
        refine Ok.seq ?_
        refine Ok.region ?_
        refine Ok.batch 3 [(0, .slice apl pl.length cpl), (3, .slice ayown1_0l9 yown1_0l9.length cyown1_0l9), (4, .int .i64 x4l9), (5, .int .i64 (yown1_0l9.length : Int))] (by kernel_rfl) ?_
        refine Ok.nil ?_
        refine Ok.thenN ?_
        refine Ok.seq ?_
        refine Ok.block ?_
        obtain ⟨k, hF⟩ := hF
        refine Ok.loop (fun k a W => ∃ gl22 : Ghost, Gext w0 gl9 gl22 ∧ ∃ (x5l22 : Int), StA 49 [(0, .slice apl pl.length cpl), (3, .slice ayown1_0l9 yown1_0l9.length cyown1_0l9), (4, .int .i64 x4l9), (5, .int .i64 x5l22)] a ∧ StW w0 [.own (.slice ayown1_0l9 yown1_0l9.length cyown1_0l9) 3 1 yown1_0l9.length xsyown1_0l9] gl22 W ∧ orderl22 pl x4l9 yown1_0l9 (orderl9 pl K k9) k x5l22) k ?_ ?_
        ·
          exact fun a W hA hW => ⟨gl9, (Gext.refl w0 gl9), (yown1_0l9.length : Int), hA.sub (by kernel_rfl), hW, hF⟩
        ·
          rintro k22 a W ⟨gl22, hxl22, x5l22, hA, hW, hF⟩
          cases k22 with
          | zero => exact (hF : False).elim
          | succ k22 =>
            refine (?_ : Ok _ _ _ _ _ _) a W hA hW
            clear hA hW
            replace hRpl := hRpl.mono hxl22.1
            replace hLyown1_0l9 := hLyown1_0l9.mono hxl22.1
            refine Ok.seq ?_
            refine Ok.cut (fun a W => ∃ gj24 : Ghost, Gext w0 gl22 gj24 ∧ ∃ (x31j24 : Bool), StA 49 [(0, .slice apl pl.length cpl), (3, .slice ayown1_0l9 yown1_0l9.length cyown1_0l9), (4, .int .i64 x4l9), (5, .int .i64 x5l22), (31, .bool x31j24)] a ∧ StW w0 [.own (.slice ayown1_0l9 yown1_0l9.length cyown1_0l9) 3 1 yown1_0l9.length xsyown1_0l9] gj24 W ∧ orderj24 x31j24 x5l22 x4l9 yown1_0l9 (orderl9 pl K k9) (orderl22 pl x4l9 yown1_0l9 (orderl9 pl K k9) k22)) ?_ ?_
            ·
              refine Ok.quiet' (by kernel_rfl) (by kernel_rfl) ?_
              refine OkQ.batch 3 [(0, .slice apl pl.length cpl), (3, .slice ayown1_0l9 yown1_0l9.length cyown1_0l9), (4, .int .i64 x4l9), (5, .int .i64 x5l22), (17, .bool (decide (x5l22 > 0)))] (by kernel_rfl) ?_
              refine OkQ.boolAt 17 (decide (x5l22 > 0)) rfl (fun hc => ?_) (fun hc => ?_)
              · replace hF := hF.1 hc
                refine OkQ.batch 2 [(0, .slice apl pl.length cpl), (3, .slice ayown1_0l9 yown1_0l9.length cyown1_0l9), (4, .int .i64 x4l9), (5, .int .i64 x5l22), (17, .bool true), (18, .slice apl pl.length cpl), (19, .int .i64 x4l9)] (by kernel_rfl) ?_
                obtain ⟨e10, h010, he10, hF⟩ := hF
                refine OkQ.opYes (j := 2) (d := 17) (want := true) (b := true) rfl (by kernel_rfl) (by kernel_rfl) rfl (OpQ.indexRo (e := .pair (.str) (.pair (.str) (.pair (.int .i64) (.pair (.bool) (.pair (.int .i64) (.int .i64)))))) (i := x4l9) (el := e10) rfl rfl Try.underlying33 (by kernel_rfl) hRpl h010 he10 rfl fun q10 o10 cs10 _ hat10 hr10 => ?_)
                obtain ⟨_, _, rfl, rfl, ⟨_, _, rfl, rfl, ⟨_, _, rfl, rfl, ⟨_, _, rfl, rfl, ⟨_, _, rfl, rfl, rfl⟩⟩⟩⟩⟩ := hr10
                replace hat10 : At gl22 q10 o10 [.string ⟨⟨e10.1⟩⟩, .string ⟨⟨e10.2.1⟩⟩, .int .i64 e10.2.2.1, .bool e10.2.2.2.1, .int .i64 e10.2.2.2.2.1, .int .i64 e10.2.2.2.2.2] := hat10
                refine OkQ.opYes (j := 2) (d := 17) (want := true) (b := true) rfl (by kernel_rfl) (by kernel_rfl) rfl (OpQ.step (v := .agg #[.string ⟨⟨e10.1⟩⟩, .string ⟨⟨e10.2.1⟩⟩, .int .i64 e10.2.2.1, .bool e10.2.2.2.1, .int .i64 e10.2.2.2.2.1, .int .i64 e10.2.2.2.2.2]) (Yields.loadAggRo 0 6 #[.string ⟨⟨e10.1⟩⟩, .string ⟨⟨e10.2.1⟩⟩, .int .i64 e10.2.2.1, .bool e10.2.2.2.1, .int .i64 e10.2.2.2.2.1, .int .i64 e10.2.2.2.2.2] hat10 (by kernel_rfl) Try.underlying36 rfl (by kernel_rfl) (by kernel_rfl) (by kernel_rfl)) rfl rfl ?_)
                refine OkQ.batch 4 [(0, .slice apl pl.length cpl), (3, .slice ayown1_0l9 yown1_0l9.length cyown1_0l9), (4, .int .i64 x4l9), (5, .int .i64 x5l22), (17, .bool true), (21, .agg #[.string ⟨⟨e10.1⟩⟩, .string ⟨⟨e10.2.1⟩⟩, .int .i64 e10.2.2.1, .bool e10.2.2.2.1, .int .i64 e10.2.2.2.2.1, .int .i64 e10.2.2.2.2.2]), (22, .slice apl pl.length cpl), (23, .slice ayown1_0l9 yown1_0l9.length cyown1_0l9), (25, .int .i64 (IntKind.wrap .i64 (x5l22 - 1)))] (by kernel_rfl) ?_
                obtain ⟨e11, h011, he11, hF⟩ := hF
                refine OkQ.opYes (j := 2) (d := 17) (want := true) (b := true) rfl (by kernel_rfl) (by kernel_rfl) rfl (OpQ.indexOwn (e := .int .i64) (q := IntKind.wrap .i64 (x5l22 - 1)) (el := e11) 0 rfl hLyown1_0l9 rfl rfl Try.underlying60 (by kernel_rfl) (by kernel_rfl) h011 he11 rfl fun cs11 _ hr11 hc11 => ?_)
                obtain rfl := hr11
                replace hc11 : ∀ j v, ([.int .i64 e11] : List Value)[j]? = some v → xsyown1_0l9[Int.toNat (IntKind.wrap .i64 (x5l22 - 1)) * 1 + j]? = some v := hc11
                refine OkQ.opYes (j := 2) (d := 17) (want := true) (b := true) rfl (by kernel_rfl) (by kernel_rfl) rfl (OpQ.step (v := .int .i64 e11) (Yields.loadOwn 0 0 rfl hc11 rfl Try.underlying3 rfl (by kernel_rfl)) rfl rfl ?_)
                obtain ⟨e12, h012, he12, hF⟩ := hF
                refine OkQ.opYes (j := 2) (d := 17) (want := true) (b := true) rfl (by kernel_rfl) (by kernel_rfl) rfl (OpQ.indexRo (e := .pair (.str) (.pair (.str) (.pair (.int .i64) (.pair (.bool) (.pair (.int .i64) (.int .i64)))))) (i := e11) (el := e12) rfl rfl Try.underlying33 (by kernel_rfl) hRpl h012 he12 rfl fun q12 o12 cs12 _ hat12 hr12 => ?_)
                obtain ⟨_, _, rfl, rfl, ⟨_, _, rfl, rfl, ⟨_, _, rfl, rfl, ⟨_, _, rfl, rfl, ⟨_, _, rfl, rfl, rfl⟩⟩⟩⟩⟩ := hr12
                replace hat12 : At gl22 q12 o12 [.string ⟨⟨e12.1⟩⟩, .string ⟨⟨e12.2.1⟩⟩, .int .i64 e12.2.2.1, .bool e12.2.2.2.1, .int .i64 e12.2.2.2.2.1, .int .i64 e12.2.2.2.2.2] := hat12
                refine OkQ.opYes (j := 2) (d := 17) (want := true) (b := true) rfl (by kernel_rfl) (by kernel_rfl) rfl (OpQ.step (v := .agg #[.string ⟨⟨e12.1⟩⟩, .string ⟨⟨e12.2.1⟩⟩, .int .i64 e12.2.2.1, .bool e12.2.2.2.1, .int .i64 e12.2.2.2.2.1, .int .i64 e12.2.2.2.2.2]) (Yields.loadAggRo 0 6 #[.string ⟨⟨e12.1⟩⟩, .string ⟨⟨e12.2.1⟩⟩, .int .i64 e12.2.2.1, .bool e12.2.2.2.1, .int .i64 e12.2.2.2.2.1, .int .i64 e12.2.2.2.2.2] hat12 (by kernel_rfl) Try.underlying36 rfl (by kernel_rfl) (by kernel_rfl) (by kernel_rfl)) rfl rfl ?_)
                refine OkQ.opYes (j := 2) (d := 17) (want := true) (b := true) rfl (by kernel_rfl) (by kernel_rfl) rfl (OpQ.call (v := .bool (laterB e10 e12)) (enters (by kernel_rfl) (fun _ => by kernel_rfl)) (later_c e10 e12) rfl rfl ?_)
                refine OkQ.batch 1 [(0, .slice apl pl.length cpl), (3, .slice ayown1_0l9 yown1_0l9.length cyown1_0l9), (4, .int .i64 x4l9), (5, .int .i64 x5l22), (31, .bool (laterB e10 e12))] (by kernel_rfl) ?_
                refine OkQ.nil ?_
                refine Ok.thenN ?_
                exact fun a W hA hW => ⟨gl22, (Gext.refl w0 gl22), (laterB e10 e12), hA.sub (by kernel_rfl), hW, hF⟩
              · replace hF := hF.2 hc
                refine OkQ.batch 14 [(0, .slice apl pl.length cpl), (3, .slice ayown1_0l9 yown1_0l9.length cyown1_0l9), (4, .int .i64 x4l9), (5, .int .i64 x5l22), (31, .bool false)] (by kernel_rfl) ?_
                refine OkQ.nil ?_
                refine Ok.thenN ?_
                exact fun a W hA hW => ⟨gl22, (Gext.refl w0 gl22), false, hA.sub (by kernel_rfl), hW, hF⟩
            ·
              rintro a W ⟨gj24, hxj24, x31j24, hA, hW, hF⟩
              refine (?_ : Ok _ _ _ _ _ _) a W hA hW
              clear hA hW
              replace hRpl := hRpl.mono hxj24.1
              replace hLyown1_0l9 := hLyown1_0l9.mono hxj24.1
              refine Ok.cond (b := x31j24) rfl (fun hc => ?_) (fun hc => ?_)
              · replace hF := hF.1 hc
                refine Ok.skip ?_
                refine Ok.thenN ?_
                refine Ok.block ?_
                refine Ok.region ?_
                refine Ok.batch 3 [(0, .slice apl pl.length cpl), (3, .slice ayown1_0l9 yown1_0l9.length cyown1_0l9), (4, .int .i64 x4l9), (5, .int .i64 (IntKind.wrap .i64 (x5l22 - 1)))] (by kernel_rfl) ?_
                refine Ok.nil ?_
                refine Ok.blockN ?_
                refine Ok.thenN ?_
                exact fun a W hA hW => ⟨k22, Nat.lt_succ_self _, gj24, (hxl22.trans hxj24), (IntKind.wrap .i64 (x5l22 - 1)), hA.sub (by kernel_rfl), hW, hF⟩
              · replace hF := hF.2 hc
                refine Ok.exit ?_
                refine Ok.thenE ?_
                refine Ok.thenE ?_
                refine Ok.blockHit ?_
                refine Ok.thenN ?_
                refine Ok.seq ?_
                refine Ok.region ?_
                have hL2 : RepL gj24 (.int .i64) ([] : List Value) ([] : List (Int)) := rfl
                refine Ok.op rfl (OpOk.lit (E := 3) (.int .i64) ([] : List (Int)) ([] : List Value) (by kernel_rfl) (by kernel_rfl) rfl (by kernel_rfl) hL2 rfl fun b2 => ?_)
                refine Ok.batch 2 [(0, .slice apl pl.length cpl), (3, .slice ayown1_0l9 yown1_0l9.length cyown1_0l9), (4, .int .i64 x4l9), (5, .int .i64 x5l22), (34, .slice (some ⟨b2, 0, none⟩) ([] : List (Int)).length 0), (35, .slice ayown1_0l9 yown1_0l9.length cyown1_0l9), (36, .int .i64 x5l22)] (by kernel_rfl) ?_
                refine Ok.freeze (H' := [.own (.slice (some ⟨b2, 0, none⟩) ([] : List (Int)).length 0) 3 1 ([] : List (Int)).length ([] : List Value)]) 1 rfl hLyown1_0l9 rfl fun g3 hx3 hRf3 => ?_
                replace hRpl := hRpl.mono hx3.1
                replace hL2 := hL2.mono hx3.1
                obtain ⟨h04, h14, h24, hF⟩ := hF
                refine Ok.op rfl (OpOk.sliceRo (e := .int .i64) (l := 0) (h := x5l22) rfl Try.underlying60 (by kernel_rfl) (.inr ⟨rfl, rfl⟩) (.inl ⟨_, _, rfl, rfl⟩) hRf3 h04 h14 h24 rfl (yown1_0l9.take (Int.toNat x5l22)) (by simp) fun a4 c4 hR4 => ?_)
                obtain ⟨hb5, hF⟩ := hF
                refine Ok.op rfl (OpOk.appendRo (e := .int .i64) 8 17592186044416 0 rfl rfl rfl hL2 hR4 Try.underlying60 (by kernel_rfl) (by kernel_rfl) (by kernel_rfl) hb5 rfl fun a5 c5 xs5 hL5 => ?_)
                refine Ok.batch 1 [(0, .slice apl pl.length cpl), (3, .slice ayown1_0l9 yown1_0l9.length cyown1_0l9), (4, .int .i64 x4l9), (5, .int .i64 x5l22), (6, .slice a5 (([] : List (Int)) ++ (yown1_0l9.take (Int.toNat x5l22))).length c5)] (by kernel_rfl) ?_
                refine Ok.nil ?_
                refine Ok.thenN ?_
                refine Ok.seq ?_
                refine Ok.region ?_
                refine Ok.batch 2 [(0, .slice apl pl.length cpl), (3, .slice ayown1_0l9 yown1_0l9.length cyown1_0l9), (4, .int .i64 x4l9), (5, .int .i64 x5l22), (39, .slice a5 (([] : List (Int)) ++ (yown1_0l9.take (Int.toNat x5l22))).length c5), (40, .int .i64 x4l9)] (by kernel_rfl) ?_
                have hL6 : RepL g3 (.int .i64) ([.int .i64 x4l9] : List Value) ([x4l9] : List (Int)) := (RepL.cons1 rfl rfl)
                refine Ok.op rfl (OpOk.lit (E := 3) (.int .i64) ([x4l9] : List (Int)) ([.int .i64 x4l9] : List Value) (by kernel_rfl) (by kernel_rfl) rfl (by kernel_rfl) hL6 rfl fun b6 => ?_)
                obtain ⟨hb7, hF⟩ := hF
                refine Ok.op rfl (OpOk.append' (e := .int .i64) 8 17592186044416 1 0 rfl rfl rfl rfl hL5 hL6 Try.underlying60 (by kernel_rfl) (by kernel_rfl) (by kernel_rfl) hb7 rfl fun a7 c7 xs7 hL7 => ?_)
                refine Ok.batch 1 [(0, .slice apl pl.length cpl), (3, .slice ayown1_0l9 yown1_0l9.length cyown1_0l9), (4, .int .i64 x4l9), (5, .int .i64 x5l22), (6, .slice a7 ((([] : List (Int)) ++ (yown1_0l9.take (Int.toNat x5l22))) ++ ([x4l9] : List (Int))).length c7)] (by kernel_rfl) ?_
                refine Ok.nil ?_
                refine Ok.thenN ?_
                refine Ok.region ?_
                refine Ok.batch 3 [(0, .slice apl pl.length cpl), (4, .int .i64 x4l9), (43, .slice a7 ((([] : List (Int)) ++ (yown1_0l9.take (Int.toNat x5l22))) ++ ([x4l9] : List (Int))).length c7), (44, .slice ayown1_0l9 yown1_0l9.length cyown1_0l9), (45, .int .i64 x5l22)] (by kernel_rfl) ?_
                obtain ⟨h08, h18, h28, hF⟩ := hF
                refine Ok.op rfl (OpOk.sliceRo (e := .int .i64) (l := x5l22) (h := (yown1_0l9.length : Int)) rfl Try.underlying60 (by kernel_rfl) (.inl ⟨_, _, rfl, rfl⟩) (.inr ⟨rfl, rfl⟩) hRf3 h08 h18 h28 rfl (yown1_0l9.drop (Int.toNat x5l22)) (by simp) fun a8 c8 hR8 => ?_)
                obtain ⟨hb9, hF⟩ := hF
                refine Ok.op rfl (OpOk.appendRo (e := .int .i64) 8 17592186044416 1 rfl rfl rfl hL7 hR8 Try.underlying60 (by kernel_rfl) (by kernel_rfl) (by kernel_rfl) hb9 rfl fun a9 c9 xs9 hL9 => ?_)
                refine Ok.batch 1 [(0, .slice apl pl.length cpl), (3, .slice a9 (((([] : List (Int)) ++ (yown1_0l9.take (Int.toNat x5l22))) ++ ([x4l9] : List (Int))) ++ (yown1_0l9.drop (Int.toNat x5l22))).length c9), (4, .int .i64 x4l9)] (by kernel_rfl) ?_
                refine Ok.nil ?_
                refine Ok.blockN ?_
                refine Ok.thenN ?_
                refine Ok.region ?_
                refine Ok.batch 3 [(0, .slice apl pl.length cpl), (3, .slice a9 (((([] : List (Int)) ++ (yown1_0l9.take (Int.toNat x5l22))) ++ ([x4l9] : List (Int))) ++ (yown1_0l9.drop (Int.toNat x5l22))).length c9), (4, .int .i64 (IntKind.wrap .i64 (x4l9 + 1)))] (by kernel_rfl) ?_
                refine Ok.nil ?_
                refine Ok.thenN ?_
                exact fun a W hA hW => ⟨k9, Nat.lt_succ_self _, g3, (((hxl9.trans hxl22).trans hxj24).trans hx3), (IntKind.wrap .i64 (x4l9 + 1)), a9, c9, (((([] : List (Int)) ++ (yown1_0l9.take (Int.toNat x5l22))) ++ ([x4l9] : List (Int))) ++ (yown1_0l9.drop (Int.toNat x5l22))), xs9, hL9, hA.sub (by kernel_rfl), hW.sub (.cons _ (.cons_cons _ .slnil)), hF⟩
      · replace hF := hF.2 hc
        refine Ok.exit ?_
        refine Ok.thenE ?_
        refine Ok.thenE ?_
        refine Ok.blockHit ?_
        refine Ok.thenN ?_
        refine Ok.seq ?_
        refine Ok.region ?_
        refine Ok.batch 2 [(2, .slice ayown1_0l9 yown1_0l9.length cyown1_0l9)] (by kernel_rfl) ?_
        refine Ok.nil ?_
        refine Ok.thenN ?_
        refine Ok.ret ?_
        refine Ok.freeze (H' := []) 0 rfl hLyown1_0l9 rfl fun g13 hx13 hRf13 => ?_
        exact Ok.resM1 (.inl rfl) rfl (.tmp rfl) (hxl9.trans hx13) ⟨yown1_0l9, ayown1_0l9, cyown1_0l9, rfl, hRf13, hF⟩
def dG : G := ([], [], 0, false, 0, 0)
/-- how far from the left a new one is put, of the first k places -/
def posN (l : List G) (g : G) (out : List Int) : Nat → Nat
  | 0 => 0
  | k + 1 => if laterB g (l.getD (out.getD k 0).toNat dG) = true then posN l g out k else k + 1
def ordN (l : List G) : Nat → List Int
  | 0 => []
  | i + 1 => (ordN l i).take (posN l (l.getD i dG) (ordN l i) (ordN l i).length) ++ [(i : Int)] ++ (ordN l i).drop (posN l (l.getD i dG) (ordN l i) (ordN l i).length)
def orderP (l : List G) : Prop := l.length ≤ 1000
def orderI (l : List G) : List Int := ordN l l.length
theorem posN_le (l : List G) (g : G) (out : List Int) : ∀ k, posN l g out k ≤ k
  | 0 => Nat.le_refl 0
  | k + 1 => by
    unfold posN
    split
    · exact Nat.le_succ_of_le (posN_le l g out k)
    · exact Nat.le_refl _
theorem ordN_len (l : List G) : ∀ i, (ordN l i).length = i
  | 0 => rfl
  | i + 1 => by
    have := posN_le l (l.getD i dG) (ordN l i) (ordN l i).length
    unfold ordN
    simp only [List.length_append, List.length_take, List.length_drop, List.length_singleton, ordN_len l i] at this ⊢
    omega
theorem ordN_in (l : List G) : ∀ i, ∀ x ∈ ordN l i, 0 ≤ x ∧ x < (i : Int)
  | 0, x, h => by cases h
  | i + 1, x, h => by
    unfold ordN at h
    rcases List.mem_append.1 h with h | h
    · rcases List.mem_append.1 h with h | h
      · have := ordN_in l i x (List.mem_of_mem_take h); omega
      · rw [List.mem_singleton] at h; omega
    · have := ordN_in l i x (List.mem_of_mem_drop h); omega
theorem order_put {i : Nat} {out : List Int} {C : Int → List Int → Prop} {C22 : Int → Prop} {k : Nat} (hi : i ≤ 1000) (hl : out.length = i) (hk : k ≤ i) (hC : C ((i + 1 : Nat) : Int) (out.take k ++ [(i : Int)] ++ out.drop k)) :
    orderj24 false (k : Int) (i : Int) out C C22 := by
  unfold orderj24
  rw [show (k : Int).toNat = k by omega, i64_in ((i : Int) + 1) (by omega), show (i : Int) + 1 = ((i + 1 : Nat) : Int) by omega]
  refine ⟨fun h => (by cases h), fun _ => ⟨by omega, by omega, by omega, ?_, ?_, by omega, by omega, by omega, ?_, ?_⟩⟩
  · simp; omega
  · simp; omega
  · simp; omega
  · simpa using hC
theorem order_in {l : List G} {i : Nat} {out : List Int} {C : Int → List Int → Prop} {g : G} (hi : i ≤ 1000) (hl : out.length = i) (hg : l[i]? = some g) (hin : ∀ x ∈ out, 0 ≤ x ∧ x < (i : Int)) :
    ∀ k : Nat, k ≤ i → C ((i + 1 : Nat) : Int) (out.take (posN l g out k) ++ [(i : Int)] ++ out.drop (posN l g out k)) → orderl22 l i out C (k + 1) k := by
  intro k
  induction k with
  | zero =>
    intro hk hC
    show orderl22b l i out C ((0 : Nat) : Int) _
    unfold orderl22b
    exact ⟨fun h => by have := of_decide_eq_true h; omega, fun _ => order_put hi hl (Nat.zero_le _) hC⟩
  | succ k ih =>
    intro hk hC
    show orderl22b l i out C ((k + 1 : Nat) : Int) _
    unfold orderl22b
    rw [i64_in _ (by omega), show ((k + 1 : Nat) : Int) - 1 = (k : Int) by omega, show (k : Int).toNat = k by omega, show (i : Int).toNat = i by omega]
    refine ⟨fun _ => ?_, fun h => by have := of_decide_eq_false h; omega⟩
    have hko : k < out.length := by omega
    have hx := hin out[k] (List.getElem_mem hko)
    have hil : i < l.length := (List.getElem?_eq_some_iff.1 hg).1
    have hxl : (out[k]).toNat < l.length := by omega
    refine ⟨g, by omega, hg, out[k], by omega, List.getElem?_eq_getElem hko, l[(out[k]).toNat], hx.1, List.getElem?_eq_getElem hxl, ?_⟩
    have e1 : l.getD (out.getD k 0).toNat dG = l[(out[k]).toNat] := by
      rw [List.getD_eq_getElem?_getD, List.getD_eq_getElem?_getD, List.getElem?_eq_getElem hko, Option.getD_some, List.getElem?_eq_getElem hxl, Option.getD_some]
    unfold posN at hC
    rw [e1] at hC
    cases hb : laterB g l[(out[k]).toNat]
    · rw [hb, if_neg (by simp)] at hC
      exact order_put hi hl hk hC
    · rw [hb, if_pos rfl] at hC
      unfold orderj24
      refine ⟨fun _ => ?_, fun h => (by cases h)⟩
      rw [i64_in _ (by omega), show ((k + 1 : Nat) : Int) - 1 = (k : Int) by omega]
      exact ih (by omega) hC
theorem order_loop {l : List G} (hl : l.length ≤ 1000) : ∀ (n i : Nat), l.length < n + i → i ≤ l.length → orderl9 l (fun r => r = orderI l) n i (ordN l i) := by
  intro n
  induction n with
  | zero => intro i h1 h2; omega
  | succ n ih =>
    intro i h1 h2
    show orderl9b l _ i (ordN l i) _
    unfold orderl9b
    refine ⟨fun h => ?_, fun h => ?_⟩
    · have h := of_decide_eq_true h
      have hg : l[i]? = some (l.getD i dG) := get_of dG (by omega)
      rw [ordN_len]
      exact ⟨i + 1, order_in (by omega) (ordN_len l i) hg (ordN_in l i) i (Nat.le_refl _) (by
        have := ih (i + 1) (by omega) (by omega)
        rw [ordN, ordN_len] at this
        exact this)⟩
    · have h := of_decide_eq_false h
      have : i = l.length := by omega
      rw [this]; rfl
theorem order_F (l : List G) (h : orderP l) : orderF l (fun r => r = orderI l) :=
  ⟨l.length + 1, order_loop h (l.length + 1) 0 (by omega) (by omega)⟩
set_option linter.unusedVariables false in
theorem order_c {g : Ghost} (xl : List (List UInt8 × List UInt8 × Int × Bool × Int × Int)) {a0 : Option Addr} {c0 : Nat} (hR0 : Rep g (.slice (.pair (.str) (.pair (.str) (.pair (.int .i64) (.pair (.bool) (.pair (.int .i64) (.int .i64))))))) [.slice a0 xl.length c0] xl) (hp : orderP xl) : CallsM Try.prog 32 #[.slice a0 xl.length c0] g (fun g' v => ∃ (ra0 : Option Addr) (rc0 : Nat), v = .slice ra0 (orderI xl).length rc0 ∧ Rep g' (.slice (.int .i64)) [.slice ra0 (orderI xl).length rc0] (orderI xl)) :=
  (order_ok xl hR0 _ (order_F xl hp)).mono (by rintro _ _ _ ⟨_, _, _, rfl, hr0, rfl⟩; exact ⟨_, _, rfl, hr0⟩)
def rwinj20 (yown2_0j20 : List (List UInt8 × List UInt8 × Int × Bool × Int × Int)) (yown1_0j20 : List (List UInt8)) (x6l13 : Int) (C13 : Int → (List (List UInt8 × List UInt8 × Int × Bool × Int × Int)) → (List (List UInt8)) → Prop) : Prop :=
  C13 (IntKind.wrap .i64 (x6l13 + 1)) yown2_0j20 yown1_0j20
def rwinl33b (pl : List (List UInt8 × List UInt8 × Int × Bool × Int × Int)) (e5 : List UInt8 × List UInt8 × Int × Bool × Int × Int) (x6l13 : Int) (yown2_0l13 : List (List UInt8 × List UInt8 × Int × Bool × Int × Int)) (yown1_0l13 : List (List UInt8)) (C13 : Int → (List (List UInt8 × List UInt8 × Int × Bool × Int × Int)) → (List (List UInt8)) → Prop) (x7l33 : Int) (C33 : Int → Prop) : Prop :=
  ((decide (x7l33 ≥ 0)) = true → ∃ e8 : Int, (0 : Int) ≤ x7l33 ∧ (orderI pl)[Int.toNat x7l33]? = some e8 ∧ ∃ e9 : List UInt8 × List UInt8 × Int × Bool × Int × Int, (0 : Int) ≤ e8 ∧ pl[Int.toNat e8]? = some e9 ∧ ∃ e10 : List UInt8 × List UInt8 × Int × Bool × Int × Int, (0 : Int) ≤ x6l13 ∧ pl[Int.toNat x6l13]? = some e10 ∧ (((e9.1 == e10.1)) = true → ∃ e11 : Int, (0 : Int) ≤ x7l33 ∧ (orderI pl)[Int.toNat x7l33]? = some e11 ∧ ∃ e12 : List UInt8 × List UInt8 × Int × Bool × Int × Int, (0 : Int) ≤ e11 ∧ pl[Int.toNat e11]? = some e12 ∧ (yown2_0l13 ++ ([e12] : List (List UInt8 × List UInt8 × Int × Bool × Int × Int))).length ≤ 2199023255552 ∧ rwinj20 (yown2_0l13 ++ ([e12] : List (List UInt8 × List UInt8 × Int × Bool × Int × Int))) (yown1_0l13 ++ ([e5.1] : List (List UInt8))) x6l13 C13) ∧ (((e9.1 == e10.1)) = false → C33 (IntKind.wrap .i64 (x7l33 - 1)))) ∧ ((decide (x7l33 ≥ 0)) = false → rwinj20 yown2_0l13 (yown1_0l13 ++ ([e5.1] : List (List UInt8))) x6l13 C13)
def rwinl33 (pl : List (List UInt8 × List UInt8 × Int × Bool × Int × Int)) (e5 : List UInt8 × List UInt8 × Int × Bool × Int × Int) (x6l13 : Int) (yown2_0l13 : List (List UInt8 × List UInt8 × Int × Bool × Int × Int)) (yown1_0l13 : List (List UInt8)) (C13 : Int → (List (List UInt8 × List UInt8 × Int × Bool × Int × Int)) → (List (List UInt8)) → Prop) : Nat → Int → Prop
  | 0, _ => False
  | k + 1, x7l33 => rwinl33b pl e5 x6l13 yown2_0l13 yown1_0l13 C13 x7l33 (rwinl33 pl e5 x6l13 yown2_0l13 yown1_0l13 C13 k)
def rwinl13b (pl : List (List UInt8 × List UInt8 × Int × Bool × Int × Int)) (K : (List (List UInt8 × List UInt8 × Int × Bool × Int × Int)) → Prop) (x6l13 : Int) (yown2_0l13 : List (List UInt8 × List UInt8 × Int × Bool × Int × Int)) (yown1_0l13 : List (List UInt8)) (C13 : Int → (List (List UInt8 × List UInt8 × Int × Bool × Int × Int)) → (List (List UInt8)) → Prop) : Prop :=
  ((decide (x6l13 < (pl.length : Int))) = true → ∃ e4 : List UInt8 × List UInt8 × Int × Bool × Int × Int, (0 : Int) ≤ x6l13 ∧ pl[Int.toNat x6l13]? = some e4 ∧ inP yown1_0l13 e4.1 ∧ ((isIn yown1_0l13 e4.1) = true → rwinj20 yown2_0l13 yown1_0l13 x6l13 C13) ∧ ((isIn yown1_0l13 e4.1) = false → ∃ e5 : List UInt8 × List UInt8 × Int × Bool × Int × Int, (0 : Int) ≤ x6l13 ∧ pl[Int.toNat x6l13]? = some e5 ∧ (yown1_0l13 ++ ([e5.1] : List (List UInt8))).length ≤ 8796093022208 ∧ ∃ k, rwinl33 pl e5 x6l13 yown2_0l13 yown1_0l13 C13 k (IntKind.wrap .i64 (((orderI pl).length : Int) - 1)))) ∧ ((decide (x6l13 < (pl.length : Int))) = false → K yown2_0l13)
def rwinl13 (pl : List (List UInt8 × List UInt8 × Int × Bool × Int × Int)) (K : (List (List UInt8 × List UInt8 × Int × Bool × Int × Int)) → Prop) : Nat → Int → (List (List UInt8 × List UInt8 × Int × Bool × Int × Int)) → (List (List UInt8)) → Prop
  | 0, _, _, _ => False
  | k + 1, x6l13, yown2_0l13, yown1_0l13 => rwinl13b pl K x6l13 yown2_0l13 yown1_0l13 (rwinl13 pl K k)
def rwinF (pl : List (List UInt8 × List UInt8 × Int × Bool × Int × Int)) (K : (List (List UInt8 × List UInt8 × Int × Bool × Int × Int)) → Prop) : Prop :=
  orderP pl ∧ ∃ k, rwinl13 pl K k 0 ([] : List (List UInt8 × List UInt8 × Int × Bool × Int × Int)) ([] : List (List UInt8))
set_option maxHeartbeats 4000000 in
set_option maxRecDepth 100000 in
set_option linter.unusedVariables false in
theorem rwin_ok {g : Ghost} {apl : Option Addr} {cpl : Nat} (pl : List (List UInt8 × List UInt8 × Int × Bool × Int × Int)) (hRpl : Rep g (.slice (.pair (.str) (.pair (.str) (.pair (.int .i64) (.pair (.bool) (.pair (.int .i64) (.int .i64))))))) [.slice apl pl.length cpl] pl) (K : (List (List UInt8 × List UInt8 × Int × Bool × Int × Int)) → Prop)
    (hF : rwinF pl K) : CallsM Try.prog 20 #[.slice apl pl.length cpl] g (fun g' v => ∃ r0 : List (List UInt8 × List UInt8 × Int × Bool × Int × Int), ∃ (ar0 : Option Addr) (cr0 : Nat), v = .slice ar0 r0.length cr0 ∧ Rep g' (.slice (.pair (.str) (.pair (.str) (.pair (.int .i64) (.pair (.bool) (.pair (.int .i64) (.int .i64))))))) [.slice ar0 r0.length cr0] r0 ∧ K r0) := by
  refine CallsM.enter 63 [(0, .slice apl pl.length cpl)] Try.func20 rfl (by kernel_rfl) (by kernel_rfl) (by kernel_rfl) fun w0 => ?_
  refine Ok.seq ?_
  refine Ok.region ?_
  refine Ok.batch 1 [(0, .slice apl pl.length cpl)] (by kernel_rfl) ?_
  refine Ok.nil ?_
  refine Ok.thenN ?_
  refine Ok.seq ?_
  refine Ok.region ?_
  refine Ok.batch 1 [(0, .slice apl pl.length cpl), (3, .slice none 0 0)] (by kernel_rfl) ?_
  have hL1 : RepL g (.str) [] [] := rfl
  refine Ok.ownNil 9 1 ?_
  refine Ok.nil ?_
  refine Ok.thenN ?_
  refine Ok.seq ?_
  refine Ok.region ?_
  refine Ok.batch 1 [(0, .slice apl pl.length cpl), (3, .slice none ([] : List (List UInt8)).length 0), (4, .slice none 0 0)] (by kernel_rfl) ?_
  have hL2 : RepL g (.pair (.str) (.pair (.str) (.pair (.int .i64) (.pair (.bool) (.pair (.int .i64) (.int .i64)))))) [] [] := rfl
  refine Ok.ownNil 36 6 ?_
  refine Ok.nil ?_
  refine Ok.thenN ?_
  refine Ok.seq ?_
  refine Ok.region ?_
  refine Ok.batch 1 [(0, .slice apl pl.length cpl), (3, .slice none ([] : List (List UInt8)).length 0), (4, .slice none ([] : List (List UInt8 × List UInt8 × Int × Bool × Int × Int)).length 0), (8, .slice apl pl.length cpl)] (by kernel_rfl) ?_
  obtain ⟨hp, hF⟩ := hF
  refine Ok.op rfl (OpOk.callM (enters (by kernel_rfl) (fun _ => by kernel_rfl)) (order_c pl hRpl hp) rfl rfl fun g3 v3 hx3 hV3 => ?_)
  obtain ⟨a3_0, c3_0, rfl, hR3_0⟩ := hV3
  replace hRpl := hRpl.mono hx3.1
  replace hL1 := hL1.mono hx3.1
  replace hL2 := hL2.mono hx3.1
  refine Ok.batch 1 [(0, .slice apl pl.length cpl), (3, .slice none ([] : List (List UInt8)).length 0), (4, .slice none ([] : List (List UInt8 × List UInt8 × Int × Bool × Int × Int)).length 0), (5, .slice a3_0 (orderI pl).length c3_0)] (by kernel_rfl) ?_
  refine Ok.nil ?_
  refine Ok.thenN ?_
  refine Ok.seq ?_
  refine Ok.seq ?_
  refine Ok.region ?_
  refine Ok.batch 1 [(0, .slice apl pl.length cpl), (3, .slice none ([] : List (List UInt8)).length 0), (4, .slice none ([] : List (List UInt8 × List UInt8 × Int × Bool × Int × Int)).length 0), (5, .slice a3_0 (orderI pl).length c3_0), (6, .int .i64 0)] (by kernel_rfl) ?_
  refine Ok.nil ?_
  refine Ok.thenN ?_
  refine Ok.block ?_
  obtain ⟨k, hF⟩ := hF
  refine Ok.loop (fun k a W => ∃ gl13 : Ghost, Gext w0 g3 gl13 ∧ ∃ (x6l13 : Int) (ayown2_0l13 : Option Addr) (cyown2_0l13 : Nat) (yown2_0l13 : List (List UInt8 × List UInt8 × Int × Bool × Int × Int)) (xsyown2_0l13 : List Value) (ayown1_0l13 : Option Addr) (cyown1_0l13 : Nat) (yown1_0l13 : List (List UInt8)) (xsyown1_0l13 : List Value), RepL gl13 (.pair (.str) (.pair (.str) (.pair (.int .i64) (.pair (.bool) (.pair (.int .i64) (.int .i64)))))) xsyown2_0l13 yown2_0l13 ∧ RepL gl13 (.str) xsyown1_0l13 yown1_0l13 ∧ StA 63 [(0, .slice apl pl.length cpl), (3, .slice ayown1_0l13 yown1_0l13.length cyown1_0l13), (4, .slice ayown2_0l13 yown2_0l13.length cyown2_0l13), (5, .slice a3_0 (orderI pl).length c3_0), (6, .int .i64 x6l13)] a ∧ StW w0 [.own (.slice ayown2_0l13 yown2_0l13.length cyown2_0l13) 36 6 yown2_0l13.length xsyown2_0l13, .own (.slice ayown1_0l13 yown1_0l13.length cyown1_0l13) 9 1 yown1_0l13.length xsyown1_0l13] gl13 W ∧ rwinl13 pl K k x6l13 yown2_0l13 yown1_0l13) k ?_ ?_
  ·
    exact fun a W hA hW => ⟨g3, (Gext.refl w0 g3), 0, none, 0, ([] : List (List UInt8 × List UInt8 × Int × Bool × Int × Int)), [], none, 0, ([] : List (List UInt8)), [], hL2, hL1, hA.sub (by kernel_rfl), hW, hF⟩
  ·
    rintro k13 a W ⟨gl13, hxl13, x6l13, ayown2_0l13, cyown2_0l13, yown2_0l13, xsyown2_0l13, ayown1_0l13, cyown1_0l13, yown1_0l13, xsyown1_0l13, hLyown2_0l13, hLyown1_0l13, hA, hW, hF⟩
    cases k13 with
    | zero => exact (hF : False).elim
    | succ k13 =>
      refine (?_ : Ok _ _ _ _ _ _) a W hA hW
      clear hA hW
      replace hRpl := hRpl.mono hxl13.1
      replace hR3_0 := hR3_0.mono hxl13.1
      refine Ok.seq ?_
      refine Ok.seq ?_
      refine Ok.region ?_
      refine Ok.batch 4 [(0, .slice apl pl.length cpl), (3, .slice ayown1_0l13 yown1_0l13.length cyown1_0l13), (4, .slice ayown2_0l13 yown2_0l13.length cyown2_0l13), (5, .slice a3_0 (orderI pl).length c3_0), (6, .int .i64 x6l13), (13, .bool (decide (x6l13 < (pl.length : Int))))] (by kernel_rfl) ?_
      refine Ok.nil ?_
      refine Ok.thenN ?_
      refine Ok.cond (b := decide (x6l13 < (pl.length : Int))) rfl (fun hc => ?_) (fun hc => ?_)
      · replace hF := hF.1 hc
        refine Ok.skip ?_
        refine Ok.thenN ?_
        refine Ok.cut (fun a W => ∃ gj20 : Ghost, Gext w0 gl13 gj20 ∧ ∃ (ayown2_0j20 : Option Addr) (cyown2_0j20 : Nat) (yown2_0j20 : List (List UInt8 × List UInt8 × Int × Bool × Int × Int)) (xsyown2_0j20 : List Value) (ayown1_0j20 : Option Addr) (cyown1_0j20 : Nat) (yown1_0j20 : List (List UInt8)) (xsyown1_0j20 : List Value), RepL gj20 (.pair (.str) (.pair (.str) (.pair (.int .i64) (.pair (.bool) (.pair (.int .i64) (.int .i64)))))) xsyown2_0j20 yown2_0j20 ∧ RepL gj20 (.str) xsyown1_0j20 yown1_0j20 ∧ StA 63 [(0, .slice apl pl.length cpl), (3, .slice ayown1_0j20 yown1_0j20.length cyown1_0j20), (4, .slice ayown2_0j20 yown2_0j20.length cyown2_0j20), (5, .slice a3_0 (orderI pl).length c3_0), (6, .int .i64 x6l13)] a ∧ StW w0 [.own (.slice ayown2_0j20 yown2_0j20.length cyown2_0j20) 36 6 yown2_0j20.length xsyown2_0j20, .own (.slice ayown1_0j20 yown1_0j20.length cyown1_0j20) 9 1 yown1_0j20.length xsyown1_0j20] gj20 W ∧ rwinj20 yown2_0j20 yown1_0j20 x6l13 (rwinl13 pl K k13)) ?_ ?_
        ·
          refine Ok.block ?_
          refine Ok.seq ?_
          refine Ok.seq ?_
          refine Ok.region ?_
          refine Ok.batch 3 [(0, .slice apl pl.length cpl), (3, .slice ayown1_0l13 yown1_0l13.length cyown1_0l13), (4, .slice ayown2_0l13 yown2_0l13.length cyown2_0l13), (5, .slice a3_0 (orderI pl).length c3_0), (6, .int .i64 x6l13), (16, .slice ayown1_0l13 yown1_0l13.length cyown1_0l13), (17, .slice apl pl.length cpl), (18, .int .i64 x6l13)] (by kernel_rfl) ?_
          obtain ⟨e4, h04, he4, hF⟩ := hF
          refine Ok.op rfl (OpOk.indexRo (e := .pair (.str) (.pair (.str) (.pair (.int .i64) (.pair (.bool) (.pair (.int .i64) (.int .i64)))))) (i := x6l13) (el := e4) rfl rfl Try.underlying33 (by kernel_rfl) hRpl h04 he4 rfl fun q4 o4 cs4 _ hat4 hr4 => ?_)
          obtain ⟨_, _, rfl, rfl, ⟨_, _, rfl, rfl, ⟨_, _, rfl, rfl, ⟨_, _, rfl, rfl, ⟨_, _, rfl, rfl, rfl⟩⟩⟩⟩⟩ := hr4
          replace hat4 : At gl13 q4 o4 [.string ⟨⟨e4.1⟩⟩, .string ⟨⟨e4.2.1⟩⟩, .int .i64 e4.2.2.1, .bool e4.2.2.2.1, .int .i64 e4.2.2.2.2.1, .int .i64 e4.2.2.2.2.2] := hat4
          refine Ok.batch 1 [(0, .slice apl pl.length cpl), (3, .slice ayown1_0l13 yown1_0l13.length cyown1_0l13), (4, .slice ayown2_0l13 yown2_0l13.length cyown2_0l13), (5, .slice a3_0 (orderI pl).length c3_0), (6, .int .i64 x6l13), (16, .slice ayown1_0l13 yown1_0l13.length cyown1_0l13), (20, .pointer (some ⟨q4, o4, none⟩))] (by kernel_rfl) ?_
          refine Ok.op rfl (OpOk.step (v := .string ⟨⟨e4.1⟩⟩) (Yields.loadRo 0 hat4 (by kernel_rfl) Try.underlying9 rfl (by kernel_rfl)) rfl rfl ?_)
          obtain ⟨hp, hF⟩ := hF
          refine Ok.op rfl (OpOk.callLend (v := .bool (isIn yown1_0l13 e4.1)) (enters (by kernel_rfl) (fun _ => by kernel_rfl)) (fun W hW => by obtain ⟨gl, hl, hgl, hlent⟩ := hW.lend 1 rfl hLyown1_0l13; exact ⟨gl, hgl, rin_c yown1_0l13 e4.1 hlent hp⟩) rfl rfl ?_)
          refine Ok.nil ?_
          refine Ok.thenN ?_
          refine Ok.cond (b := isIn yown1_0l13 e4.1) rfl (fun hc => ?_) (fun hc => ?_)
          · replace hF := hF.1 hc
            refine Ok.exit ?_
            refine Ok.thenE ?_
            refine Ok.blockHit ?_
            refine Ok.thenN ?_
            exact fun a W hA hW => ⟨gl13, (Gext.refl w0 gl13), ayown2_0l13, cyown2_0l13, yown2_0l13, xsyown2_0l13, ayown1_0l13, cyown1_0l13, yown1_0l13, xsyown1_0l13, hLyown2_0l13, hLyown1_0l13, hA.sub (by kernel_rfl), hW, hF⟩
          · replace hF := hF.2 hc
            refine Ok.skip ?_
            refine Ok.thenN ?_
            refine Ok.seq ?_
            refine Ok.region ?_
            refine Ok.batch 3 [(0, .slice apl pl.length cpl), (4, .slice ayown2_0l13 yown2_0l13.length cyown2_0l13), (5, .slice a3_0 (orderI pl).length c3_0), (6, .int .i64 x6l13), (23, .slice ayown1_0l13 yown1_0l13.length cyown1_0l13), (24, .slice apl pl.length cpl), (25, .int .i64 x6l13)] (by kernel_rfl) ?_
            obtain ⟨e5, h05, he5, hF⟩ := hF
            refine Ok.op rfl (OpOk.indexRo (e := .pair (.str) (.pair (.str) (.pair (.int .i64) (.pair (.bool) (.pair (.int .i64) (.int .i64)))))) (i := x6l13) (el := e5) rfl rfl Try.underlying33 (by kernel_rfl) hRpl h05 he5 rfl fun q5 o5 cs5 _ hat5 hr5 => ?_)
            obtain ⟨_, _, rfl, rfl, ⟨_, _, rfl, rfl, ⟨_, _, rfl, rfl, ⟨_, _, rfl, rfl, ⟨_, _, rfl, rfl, rfl⟩⟩⟩⟩⟩ := hr5
            replace hat5 : At gl13 q5 o5 [.string ⟨⟨e5.1⟩⟩, .string ⟨⟨e5.2.1⟩⟩, .int .i64 e5.2.2.1, .bool e5.2.2.2.1, .int .i64 e5.2.2.2.2.1, .int .i64 e5.2.2.2.2.2] := hat5
            refine Ok.batch 1 [(0, .slice apl pl.length cpl), (4, .slice ayown2_0l13 yown2_0l13.length cyown2_0l13), (5, .slice a3_0 (orderI pl).length c3_0), (6, .int .i64 x6l13), (23, .slice ayown1_0l13 yown1_0l13.length cyown1_0l13), (27, .pointer (some ⟨q5, o5, none⟩))] (by kernel_rfl) ?_
            refine Ok.op rfl (OpOk.step (v := .string ⟨⟨e5.1⟩⟩) (Yields.loadRo 0 hat5 (by kernel_rfl) Try.underlying9 rfl (by kernel_rfl)) rfl rfl ?_)
            have hL6 : RepL gl13 (.str) ([.string ⟨⟨e5.1⟩⟩] : List Value) ([e5.1] : List (List UInt8)) := (RepL.cons1 rfl rfl)
            refine Ok.op rfl (OpOk.lit (E := 9) (.str) ([e5.1] : List (List UInt8)) ([.string ⟨⟨e5.1⟩⟩] : List Value) (by kernel_rfl) (by kernel_rfl) rfl (by kernel_rfl) hL6 rfl fun b6 => ?_)
            obtain ⟨hb7, hF⟩ := hF
            refine Ok.op rfl (OpOk.append' (e := .str) 16 8796093022208 2 0 rfl rfl rfl rfl hLyown1_0l13 hL6 Try.underlying48 (by kernel_rfl) (by kernel_rfl) (by kernel_rfl) hb7 rfl fun a7 c7 xs7 hL7 => ?_)
            refine Ok.batch 1 [(0, .slice apl pl.length cpl), (3, .slice a7 (yown1_0l13 ++ ([e5.1] : List (List UInt8))).length c7), (4, .slice ayown2_0l13 yown2_0l13.length cyown2_0l13), (5, .slice a3_0 (orderI pl).length c3_0), (6, .int .i64 x6l13)] (by kernel_rfl) ?_
            refine Ok.nil ?_
            refine Ok.thenN ?_
            refine Ok.seq ?_
            refine Ok.region ?_
            refine Ok.batch 4 [(0, .slice apl pl.length cpl), (3, .slice a7 (yown1_0l13 ++ ([e5.1] : List (List UInt8))).length c7), (4, .slice ayown2_0l13 yown2_0l13.length cyown2_0l13), (5, .slice a3_0 (orderI pl).length c3_0), (6, .int .i64 x6l13), (7, .int .i64 (IntKind.wrap .i64 (((orderI pl).length : Int) - 1)))] (by kernel_rfl) ?_
            refine Ok.nil ?_
            refine Ok.thenN ?_
            refine Ok.block ?_
            obtain ⟨k, hF⟩ := hF
            refine Ok.loop (fun k a W => ∃ gl33 : Ghost, Gext w0 gl13 gl33 ∧ ∃ (x7l33 : Int), StA 63 [(0, .slice apl pl.length cpl), (3, .slice a7 (yown1_0l13 ++ ([e5.1] : List (List UInt8))).length c7), (4, .slice ayown2_0l13 yown2_0l13.length cyown2_0l13), (5, .slice a3_0 (orderI pl).length c3_0), (6, .int .i64 x6l13), (7, .int .i64 x7l33)] a ∧ StW w0 [.own (.slice ayown2_0l13 yown2_0l13.length cyown2_0l13) 36 6 yown2_0l13.length xsyown2_0l13, .own (.slice a7 (yown1_0l13 ++ ([e5.1] : List (List UInt8))).length c7) 9 1 (yown1_0l13 ++ ([e5.1] : List (List UInt8))).length xs7] gl33 W ∧ rwinl33 pl e5 x6l13 yown2_0l13 yown1_0l13 (rwinl13 pl K k13) k x7l33) k ?_ ?_
            ·
              exact fun a W hA hW => ⟨gl13, (Gext.refl w0 gl13), (IntKind.wrap .i64 (((orderI pl).length : Int) - 1)), hA.sub (by kernel_rfl), hW.sub (.cons _ (.cons_cons _ (.cons_cons _ .slnil))), hF⟩
            ·
              rintro k33 a W ⟨gl33, hxl33, x7l33, hA, hW, hF⟩
              cases k33 with
              | zero => exact (hF : False).elim
              | succ k33 =>
                refine (?_ : Ok _ _ _ _ _ _) a W hA hW
                clear hA hW
                replace hRpl := hRpl.mono hxl33.1
                replace hL7 := hL7.mono hxl33.1
                replace hLyown2_0l13 := hLyown2_0l13.mono hxl33.1
                replace hR3_0 := hR3_0.mono hxl33.1
                refine Ok.seq ?_
                refine Ok.seq ?_
                refine Ok.region ?_
                refine Ok.batch 2 [(0, .slice apl pl.length cpl), (3, .slice a7 (yown1_0l13 ++ ([e5.1] : List (List UInt8))).length c7), (4, .slice ayown2_0l13 yown2_0l13.length cyown2_0l13), (5, .slice a3_0 (orderI pl).length c3_0), (6, .int .i64 x6l13), (7, .int .i64 x7l33), (35, .bool (decide (x7l33 ≥ 0)))] (by kernel_rfl) ?_
                refine Ok.nil ?_
                refine Ok.thenN ?_
                refine Ok.cond (b := decide (x7l33 ≥ 0)) rfl (fun hc => ?_) (fun hc => ?_)
                · replace hF := hF.1 hc
                  refine Ok.skip ?_
                  refine Ok.thenN ?_
                  refine Ok.seq ?_
                  refine Ok.block ?_
                  refine Ok.seq ?_
                  refine Ok.quiet' (by kernel_rfl) (by kernel_rfl) ?_
                  refine OkQ.batch 3 [(0, .slice apl pl.length cpl), (3, .slice a7 (yown1_0l13 ++ ([e5.1] : List (List UInt8))).length c7), (4, .slice ayown2_0l13 yown2_0l13.length cyown2_0l13), (5, .slice a3_0 (orderI pl).length c3_0), (6, .int .i64 x6l13), (7, .int .i64 x7l33), (38, .slice apl pl.length cpl), (39, .slice a3_0 (orderI pl).length c3_0), (40, .int .i64 x7l33)] (by kernel_rfl) ?_
                  obtain ⟨e8, h08, he8, hF⟩ := hF
                  refine OkQ.op rfl (OpQ.indexRo (e := .int .i64) (i := x7l33) (el := e8) rfl rfl Try.underlying60 (by kernel_rfl) hR3_0 h08 he8 rfl fun q8 o8 cs8 _ hat8 hr8 => ?_)
                  obtain rfl := hr8
                  replace hat8 : At gl33 q8 o8 [.int .i64 e8] := hat8
                  refine OkQ.op rfl (OpQ.step (v := .int .i64 e8) (Yields.loadRo 0 hat8 (by kernel_rfl) Try.underlying3 rfl (by kernel_rfl)) rfl rfl ?_)
                  obtain ⟨e9, h09, he9, hF⟩ := hF
                  refine OkQ.op rfl (OpQ.indexRo (e := .pair (.str) (.pair (.str) (.pair (.int .i64) (.pair (.bool) (.pair (.int .i64) (.int .i64)))))) (i := e8) (el := e9) rfl rfl Try.underlying33 (by kernel_rfl) hRpl h09 he9 rfl fun q9 o9 cs9 _ hat9 hr9 => ?_)
                  obtain ⟨_, _, rfl, rfl, ⟨_, _, rfl, rfl, ⟨_, _, rfl, rfl, ⟨_, _, rfl, rfl, ⟨_, _, rfl, rfl, rfl⟩⟩⟩⟩⟩ := hr9
                  replace hat9 : At gl33 q9 o9 [.string ⟨⟨e9.1⟩⟩, .string ⟨⟨e9.2.1⟩⟩, .int .i64 e9.2.2.1, .bool e9.2.2.2.1, .int .i64 e9.2.2.2.2.1, .int .i64 e9.2.2.2.2.2] := hat9
                  refine OkQ.batch 1 [(0, .slice apl pl.length cpl), (3, .slice a7 (yown1_0l13 ++ ([e5.1] : List (List UInt8))).length c7), (4, .slice ayown2_0l13 yown2_0l13.length cyown2_0l13), (5, .slice a3_0 (orderI pl).length c3_0), (6, .int .i64 x6l13), (7, .int .i64 x7l33), (44, .pointer (some ⟨q9, o9, none⟩))] (by kernel_rfl) ?_
                  refine OkQ.op rfl (OpQ.step (v := .string ⟨⟨e9.1⟩⟩) (Yields.loadRo 0 hat9 (by kernel_rfl) Try.underlying9 rfl (by kernel_rfl)) rfl rfl ?_)
                  refine OkQ.batch 2 [(0, .slice apl pl.length cpl), (3, .slice a7 (yown1_0l13 ++ ([e5.1] : List (List UInt8))).length c7), (4, .slice ayown2_0l13 yown2_0l13.length cyown2_0l13), (5, .slice a3_0 (orderI pl).length c3_0), (6, .int .i64 x6l13), (7, .int .i64 x7l33), (45, .string ⟨⟨e9.1⟩⟩), (46, .slice apl pl.length cpl), (47, .int .i64 x6l13)] (by kernel_rfl) ?_
                  obtain ⟨e10, h010, he10, hF⟩ := hF
                  refine OkQ.op rfl (OpQ.indexRo (e := .pair (.str) (.pair (.str) (.pair (.int .i64) (.pair (.bool) (.pair (.int .i64) (.int .i64)))))) (i := x6l13) (el := e10) rfl rfl Try.underlying33 (by kernel_rfl) hRpl h010 he10 rfl fun q10 o10 cs10 _ hat10 hr10 => ?_)
                  obtain ⟨_, _, rfl, rfl, ⟨_, _, rfl, rfl, ⟨_, _, rfl, rfl, ⟨_, _, rfl, rfl, ⟨_, _, rfl, rfl, rfl⟩⟩⟩⟩⟩ := hr10
                  replace hat10 : At gl33 q10 o10 [.string ⟨⟨e10.1⟩⟩, .string ⟨⟨e10.2.1⟩⟩, .int .i64 e10.2.2.1, .bool e10.2.2.2.1, .int .i64 e10.2.2.2.2.1, .int .i64 e10.2.2.2.2.2] := hat10
                  refine OkQ.batch 1 [(0, .slice apl pl.length cpl), (3, .slice a7 (yown1_0l13 ++ ([e5.1] : List (List UInt8))).length c7), (4, .slice ayown2_0l13 yown2_0l13.length cyown2_0l13), (5, .slice a3_0 (orderI pl).length c3_0), (6, .int .i64 x6l13), (7, .int .i64 x7l33), (45, .string ⟨⟨e9.1⟩⟩), (49, .pointer (some ⟨q10, o10, none⟩))] (by kernel_rfl) ?_
                  refine OkQ.op rfl (OpQ.step (v := .string ⟨⟨e10.1⟩⟩) (Yields.loadRo 0 hat10 (by kernel_rfl) Try.underlying9 rfl (by kernel_rfl)) rfl rfl ?_)
                  refine OkQ.op rfl (OpQ.step (v := .bool (e9.1 == e10.1)) (Yields.strCmp (f := .eql) (a := e9.1) (b := e10.1) (by kernel_rfl) (by kernel_rfl) rfl) rfl rfl ?_)
                  refine OkQ.nil ?_
                  refine Ok.thenN ?_
                  refine Ok.cond (b := (e9.1 == e10.1)) rfl (fun hc => ?_) (fun hc => ?_)
                  · replace hF := hF.1 hc
                    refine Ok.seq ?_
                    refine Ok.region ?_
                    refine Ok.batch 4 [(0, .slice apl pl.length cpl), (3, .slice a7 (yown1_0l13 ++ ([e5.1] : List (List UInt8))).length c7), (5, .slice a3_0 (orderI pl).length c3_0), (6, .int .i64 x6l13), (52, .slice ayown2_0l13 yown2_0l13.length cyown2_0l13), (53, .slice apl pl.length cpl), (54, .slice a3_0 (orderI pl).length c3_0), (55, .int .i64 x7l33)] (by kernel_rfl) ?_
                    obtain ⟨e11, h011, he11, hF⟩ := hF
                    refine Ok.op rfl (OpOk.indexRo (e := .int .i64) (i := x7l33) (el := e11) rfl rfl Try.underlying60 (by kernel_rfl) hR3_0 h011 he11 rfl fun q11 o11 cs11 _ hat11 hr11 => ?_)
                    obtain rfl := hr11
                    replace hat11 : At gl33 q11 o11 [.int .i64 e11] := hat11
                    refine Ok.op rfl (OpOk.step (v := .int .i64 e11) (Yields.loadRo 0 hat11 (by kernel_rfl) Try.underlying3 rfl (by kernel_rfl)) rfl rfl ?_)
                    obtain ⟨e12, h012, he12, hF⟩ := hF
                    refine Ok.op rfl (OpOk.indexRo (e := .pair (.str) (.pair (.str) (.pair (.int .i64) (.pair (.bool) (.pair (.int .i64) (.int .i64)))))) (i := e11) (el := e12) rfl rfl Try.underlying33 (by kernel_rfl) hRpl h012 he12 rfl fun q12 o12 cs12 _ hat12 hr12 => ?_)
                    obtain ⟨_, _, rfl, rfl, ⟨_, _, rfl, rfl, ⟨_, _, rfl, rfl, ⟨_, _, rfl, rfl, ⟨_, _, rfl, rfl, rfl⟩⟩⟩⟩⟩ := hr12
                    replace hat12 : At gl33 q12 o12 [.string ⟨⟨e12.1⟩⟩, .string ⟨⟨e12.2.1⟩⟩, .int .i64 e12.2.2.1, .bool e12.2.2.2.1, .int .i64 e12.2.2.2.2.1, .int .i64 e12.2.2.2.2.2] := hat12
                    refine Ok.op rfl (OpOk.step (v := .agg #[.string ⟨⟨e12.1⟩⟩, .string ⟨⟨e12.2.1⟩⟩, .int .i64 e12.2.2.1, .bool e12.2.2.2.1, .int .i64 e12.2.2.2.2.1, .int .i64 e12.2.2.2.2.2]) (Yields.loadAggRo 0 6 #[.string ⟨⟨e12.1⟩⟩, .string ⟨⟨e12.2.1⟩⟩, .int .i64 e12.2.2.1, .bool e12.2.2.2.1, .int .i64 e12.2.2.2.2.1, .int .i64 e12.2.2.2.2.2] hat12 (by kernel_rfl) Try.underlying36 rfl (by kernel_rfl) (by kernel_rfl) (by kernel_rfl)) rfl rfl ?_)
                    have hL13 : RepL gl33 (.pair (.str) (.pair (.str) (.pair (.int .i64) (.pair (.bool) (.pair (.int .i64) (.int .i64)))))) ([.string ⟨⟨e12.1⟩⟩, .string ⟨⟨e12.2.1⟩⟩, .int .i64 e12.2.2.1, .bool e12.2.2.2.1, .int .i64 e12.2.2.2.2.1, .int .i64 e12.2.2.2.2.2] : List Value) ([e12] : List (List UInt8 × List UInt8 × Int × Bool × Int × Int)) := (RepL.cons6 ⟨[.string ⟨⟨e12.1⟩⟩], [.string ⟨⟨e12.2.1⟩⟩, .int .i64 e12.2.2.1, .bool e12.2.2.2.1, .int .i64 e12.2.2.2.2.1, .int .i64 e12.2.2.2.2.2], rfl, rfl, ⟨[.string ⟨⟨e12.2.1⟩⟩], [.int .i64 e12.2.2.1, .bool e12.2.2.2.1, .int .i64 e12.2.2.2.2.1, .int .i64 e12.2.2.2.2.2], rfl, rfl, ⟨[.int .i64 e12.2.2.1], [.bool e12.2.2.2.1, .int .i64 e12.2.2.2.2.1, .int .i64 e12.2.2.2.2.2], rfl, rfl, ⟨[.bool e12.2.2.2.1], [.int .i64 e12.2.2.2.2.1, .int .i64 e12.2.2.2.2.2], rfl, rfl, ⟨[.int .i64 e12.2.2.2.2.1], [.int .i64 e12.2.2.2.2.2], rfl, rfl, rfl⟩⟩⟩⟩⟩ rfl)
                    refine Ok.op rfl (OpOk.lit (E := 36) (.pair (.str) (.pair (.str) (.pair (.int .i64) (.pair (.bool) (.pair (.int .i64) (.int .i64)))))) ([e12] : List (List UInt8 × List UInt8 × Int × Bool × Int × Int)) ([.string ⟨⟨e12.1⟩⟩, .string ⟨⟨e12.2.1⟩⟩, .int .i64 e12.2.2.1, .bool e12.2.2.2.1, .int .i64 e12.2.2.2.2.1, .int .i64 e12.2.2.2.2.2] : List Value) (by kernel_rfl) (by kernel_rfl) rfl (by kernel_rfl) hL13 rfl fun b13 => ?_)
                    obtain ⟨hb14, hF⟩ := hF
                    refine Ok.op rfl (OpOk.append' (e := .pair (.str) (.pair (.str) (.pair (.int .i64) (.pair (.bool) (.pair (.int .i64) (.int .i64)))))) 64 2199023255552 1 0 rfl rfl rfl rfl hLyown2_0l13 hL13 Try.underlying33 (by kernel_rfl) (by kernel_rfl) (by kernel_rfl) hb14 rfl fun a14 c14 xs14 hL14 => ?_)
                    refine Ok.batch 1 [(0, .slice apl pl.length cpl), (3, .slice a7 (yown1_0l13 ++ ([e5.1] : List (List UInt8))).length c7), (4, .slice a14 (yown2_0l13 ++ ([e12] : List (List UInt8 × List UInt8 × Int × Bool × Int × Int))).length c14), (5, .slice a3_0 (orderI pl).length c3_0), (6, .int .i64 x6l13)] (by kernel_rfl) ?_
                    refine Ok.nil ?_
                    refine Ok.thenN ?_
                    refine Ok.exit ?_
                    refine Ok.blockMiss rfl ?_
                    refine Ok.thenE ?_
                    refine Ok.thenE ?_
                    refine Ok.blockHit ?_
                    refine Ok.blockN ?_
                    refine Ok.thenN ?_
                    exact fun a W hA hW => ⟨gl33, hxl33, a14, c14, (yown2_0l13 ++ ([e12] : List (List UInt8 × List UInt8 × Int × Bool × Int × Int))), xs14, a7, c7, (yown1_0l13 ++ ([e5.1] : List (List UInt8))), xs7, hL14, hL7, hA.sub (by kernel_rfl), hW.sub (.cons _ (.cons_cons _ (.cons_cons _ .slnil))), hF⟩
                  · replace hF := hF.2 hc
                    refine Ok.skip ?_
                    refine Ok.blockN ?_
                    refine Ok.thenN ?_
                    refine Ok.region ?_
                    refine Ok.batch 3 [(0, .slice apl pl.length cpl), (3, .slice a7 (yown1_0l13 ++ ([e5.1] : List (List UInt8))).length c7), (4, .slice ayown2_0l13 yown2_0l13.length cyown2_0l13), (5, .slice a3_0 (orderI pl).length c3_0), (6, .int .i64 x6l13), (7, .int .i64 (IntKind.wrap .i64 (x7l33 - 1)))] (by kernel_rfl) ?_
                    refine Ok.nil ?_
                    refine Ok.thenN ?_
                    exact fun a W hA hW => ⟨k33, Nat.lt_succ_self _, gl33, hxl33, (IntKind.wrap .i64 (x7l33 - 1)), hA.sub (by kernel_rfl), hW, hF⟩
                · replace hF := hF.2 hc
                  refine Ok.exit ?_
                  refine Ok.thenE ?_
                  refine Ok.thenE ?_
                  refine Ok.blockHit ?_
                  refine Ok.blockN ?_
                  refine Ok.thenN ?_
                  exact fun a W hA hW => ⟨gl33, hxl33, ayown2_0l13, cyown2_0l13, yown2_0l13, xsyown2_0l13, a7, c7, (yown1_0l13 ++ ([e5.1] : List (List UInt8))), xs7, hLyown2_0l13, hL7, hA.sub (by kernel_rfl), hW, hF⟩
        ·
          rintro a W ⟨gj20, hxj20, ayown2_0j20, cyown2_0j20, yown2_0j20, xsyown2_0j20, ayown1_0j20, cyown1_0j20, yown1_0j20, xsyown1_0j20, hLyown2_0j20, hLyown1_0j20, hA, hW, hF⟩
          refine (?_ : Ok _ _ _ _ _ _) a W hA hW
          clear hA hW
          replace hRpl := hRpl.mono hxj20.1
          replace hR3_0 := hR3_0.mono hxj20.1
          refine Ok.region ?_
          refine Ok.batch 3 [(0, .slice apl pl.length cpl), (3, .slice ayown1_0j20 yown1_0j20.length cyown1_0j20), (4, .slice ayown2_0j20 yown2_0j20.length cyown2_0j20), (5, .slice a3_0 (orderI pl).length c3_0), (6, .int .i64 (IntKind.wrap .i64 (x6l13 + 1)))] (by kernel_rfl) ?_
          refine Ok.nil ?_
          refine Ok.thenN ?_
          exact fun a W hA hW => ⟨k13, Nat.lt_succ_self _, gj20, (hxl13.trans hxj20), (IntKind.wrap .i64 (x6l13 + 1)), ayown2_0j20, cyown2_0j20, yown2_0j20, xsyown2_0j20, ayown1_0j20, cyown1_0j20, yown1_0j20, xsyown1_0j20, hLyown2_0j20, hLyown1_0j20, hA.sub (by kernel_rfl), hW, hF⟩
      · replace hF := hF.2 hc
        refine Ok.exit ?_
        refine Ok.thenE ?_
        refine Ok.thenE ?_
        refine Ok.blockHit ?_
        refine Ok.thenN ?_
        refine Ok.seq ?_
        refine Ok.region ?_
        refine Ok.batch 2 [(2, .slice ayown2_0l13 yown2_0l13.length cyown2_0l13)] (by kernel_rfl) ?_
        refine Ok.nil ?_
        refine Ok.thenN ?_
        refine Ok.ret ?_
        refine Ok.freeze (H' := [.own (.slice ayown1_0l13 yown1_0l13.length cyown1_0l13) 9 1 yown1_0l13.length xsyown1_0l13]) 0 rfl hLyown2_0l13 rfl fun g15 hx15 hRf15 => ?_
        replace hLyown1_0l13 := hLyown1_0l13.mono hx15.1
        exact Ok.resM1 (.inl rfl) rfl (.tmp rfl) ((hx3.trans hxl13).trans hx15) ⟨yown2_0l13, ayown2_0l13, cyown2_0l13, rfl, hRf15, hF⟩
end Go.Proofs.Ytejkloinamgpaaa.Ca
