/- ValueSigns: functions of the law. -/
import Derived.Test.YtabbinbmpeckkaaDoorVal
namespace Go.Proofs.YtabbinbmpeckkaaDoor.Vl
open Go.Eng
set_option linter.unusedVariables false
def isnanF (xx : Int) (K : Bool → Prop) : Prop :=
  K (xx != xx)
set_option maxHeartbeats 4000000 in
set_option maxRecDepth 100000 in
set_option linter.unusedVariables false in
theorem isnan_ok {g : Ghost} (xx : Int) (K : Bool → Prop)
    (hF : isnanF xx K) : CallsH Tryd.prog 133 #[.int .i64 xx] g [] (fun g' H' v => ∃ (r0 : Bool), v = .bool r0 ∧ H' = [] ∧ K r0) := by
  refine CallsH.enter 6 [(0, .int .i64 xx)] Tryd.func133 rfl (by kernel_rfl) (by kernel_rfl) (by kernel_rfl) fun w0 => ?_
  refine Ok.seq ?_
  refine Ok.region ?_
  refine Ok.batch 1 [(0, .int .i64 xx)] (by kernel_rfl) ?_
  refine Ok.nil ?_
  refine Ok.thenN ?_
  refine Ok.seq ?_
  refine Ok.region ?_
  refine Ok.batch 4 [(2, .bool (xx != xx))] (by kernel_rfl) ?_
  refine Ok.nil ?_
  refine Ok.thenN ?_
  refine Ok.ret ?_
  exact Ok.resH (vs := [.bool (xx != xx)]) (.inl rfl) rfl (.cons (.tmp rfl) .nil) (Gext.refl w0 g) ⟨(xx != xx), rfl, rfl, hF⟩
def isnanM (xx : Int) : Bool := (xx != xx)
set_option linter.unusedSimpArgs false in
set_option linter.unusedVariables false in
theorem isnanF_A (xx : Int) (P : Bool → Prop) (h : P (isnanM xx)) : isnanF xx (fun k0 => P k0) := by
  unfold isnanM at h
  unfold isnanF
  exact h
theorem isnan_F (xx : Int) : isnanF xx (fun k0 => k0 = isnanM xx) :=
  isnanF_A xx (fun z => z = isnanM xx) rfl
set_option linter.unusedVariables false in
theorem isnan_c {g : Ghost} (xx : Int)  : CallsG Tryd.prog 133 #[.int .i64 xx] g (.bool (isnanM xx)) :=
  (isnan_ok xx _ (isnan_F xx)).gives (by rintro g' H' v _ ⟨r0, rfl, rfl, hK⟩; subst hK; rfl)
def cmpiF (xx : Int) (xy : Int) (K : Int → Prop) : Prop :=
  (((isnanM xx)) = true → (((isnanM xy)) = true → K 0) ∧ (((isnanM xy)) = false → K (-1))) ∧ (((isnanM xx)) = false → (((isnanM xy)) = true → K 1) ∧ (((isnanM xy)) = false → ((decide (xx < xy)) = true → K (-1)) ∧ ((decide (xx < xy)) = false → ((decide (xx > xy)) = true → K 1) ∧ ((decide (xx > xy)) = false → K 0))))
set_option maxHeartbeats 4000000 in
set_option maxRecDepth 100000 in
set_option linter.unusedVariables false in
theorem cmpi_ok {g : Ghost} (xx : Int) (xy : Int) (K : Int → Prop)
    (hF : cmpiF xx xy K) : CallsH Tryd.prog 64 #[.int .i64 xx, .int .i64 xy] g [] (fun g' H' v => ∃ (r0 : Int), v = .int .i64 r0 ∧ H' = [] ∧ K r0) := by
  refine CallsH.enter 20 [(0, .int .i64 xx), (1, .int .i64 xy)] Tryd.func64 rfl (by kernel_rfl) (by kernel_rfl) (by kernel_rfl) fun w0 => ?_
  refine Ok.seq ?_
  refine Ok.region ?_
  refine Ok.batch 1 [(0, .int .i64 xx), (1, .int .i64 xy)] (by kernel_rfl) ?_
  refine Ok.nil ?_
  refine Ok.thenN ?_
  refine Ok.seq ?_
  refine Ok.region ?_
  refine Ok.batch 1 [(0, .int .i64 xx), (1, .int .i64 xy), (7, .int .i64 xx)] (by kernel_rfl) ?_
  refine Ok.op rfl (OpOk.callG (v := .bool (isnanM xx)) (enters (by kernel_rfl) (fun _ => by kernel_rfl)) (fun W hW => isnan_c xx) rfl ?_)
  refine Ok.batch 1 [(0, .int .i64 xx), (1, .int .i64 xy), (5, .bool (isnanM xx))] (by kernel_rfl) ?_
  refine Ok.nil ?_
  refine Ok.thenN ?_
  refine Ok.seq ?_
  refine Ok.region ?_
  refine Ok.batch 1 [(0, .int .i64 xx), (1, .int .i64 xy), (5, .bool (isnanM xx)), (9, .int .i64 xy)] (by kernel_rfl) ?_
  refine Ok.op rfl (OpOk.callG (v := .bool (isnanM xy)) (enters (by kernel_rfl) (fun _ => by kernel_rfl)) (fun W hW => isnan_c xy) rfl ?_)
  refine Ok.batch 1 [(0, .int .i64 xx), (1, .int .i64 xy), (5, .bool (isnanM xx)), (6, .bool (isnanM xy))] (by kernel_rfl) ?_
  refine Ok.nil ?_
  refine Ok.thenN ?_
  refine Ok.seq ?_
  refine Ok.seq ?_
  refine Ok.region ?_
  refine Ok.batch 1 [(0, .int .i64 xx), (1, .int .i64 xy), (6, .bool (isnanM xy)), (11, .bool (isnanM xx))] (by kernel_rfl) ?_
  refine Ok.nil ?_
  refine Ok.thenN ?_
  refine Ok.cond (b := (isnanM xx)) rfl (fun hc1 => ?_) (fun hc1 => ?_)
  · replace hF := hF.1 hc1
    refine Ok.seq ?_
    refine Ok.seq ?_
    refine Ok.region ?_
    refine Ok.batch 1 [(12, .bool (isnanM xy))] (by kernel_rfl) ?_
    refine Ok.nil ?_
    refine Ok.thenN ?_
    refine Ok.cond (b := (isnanM xy)) rfl (fun hc2 => ?_) (fun hc2 => ?_)
    · replace hF := hF.1 hc2
      refine Ok.seq ?_
      refine Ok.region ?_
      refine Ok.batch 1 [(4, .int .i64 0)] (by kernel_rfl) ?_
      refine Ok.nil ?_
      refine Ok.thenN ?_
      refine Ok.ret ?_
      refine Ok.thenR ?_
      refine Ok.thenR ?_
      exact Ok.resH (vs := [.int .i64 0]) (.inl rfl) rfl (.cons (.tmp rfl) .nil) (Gext.refl w0 g) ⟨0, rfl, rfl, hF⟩
    · replace hF := hF.2 hc2
      refine Ok.skip ?_
      refine Ok.thenN ?_
      refine Ok.seq ?_
      refine Ok.region ?_
      refine Ok.batch 1 [(4, .int .i64 (-1))] (by kernel_rfl) ?_
      refine Ok.nil ?_
      refine Ok.thenN ?_
      refine Ok.ret ?_
      refine Ok.thenR ?_
      exact Ok.resH (vs := [.int .i64 (-1)]) (.inl rfl) rfl (.cons (.tmp rfl) .nil) (Gext.refl w0 g) ⟨(-1), rfl, rfl, hF⟩
  · replace hF := hF.2 hc1
    refine Ok.skip ?_
    refine Ok.thenN ?_
    refine Ok.seq ?_
    refine Ok.seq ?_
    refine Ok.region ?_
    refine Ok.batch 1 [(0, .int .i64 xx), (1, .int .i64 xy), (13, .bool (isnanM xy))] (by kernel_rfl) ?_
    refine Ok.nil ?_
    refine Ok.thenN ?_
    refine Ok.cond (b := (isnanM xy)) rfl (fun hc3 => ?_) (fun hc3 => ?_)
    · replace hF := hF.1 hc3
      refine Ok.seq ?_
      refine Ok.region ?_
      refine Ok.batch 1 [(4, .int .i64 1)] (by kernel_rfl) ?_
      refine Ok.nil ?_
      refine Ok.thenN ?_
      refine Ok.ret ?_
      refine Ok.thenR ?_
      exact Ok.resH (vs := [.int .i64 1]) (.inl rfl) rfl (.cons (.tmp rfl) .nil) (Gext.refl w0 g) ⟨1, rfl, rfl, hF⟩
    · replace hF := hF.2 hc3
      refine Ok.skip ?_
      refine Ok.thenN ?_
      refine Ok.seq ?_
      refine Ok.seq ?_
      refine Ok.region ?_
      refine Ok.batch 3 [(0, .int .i64 xx), (1, .int .i64 xy), (16, .bool (decide (xx < xy)))] (by kernel_rfl) ?_
      refine Ok.nil ?_
      refine Ok.thenN ?_
      refine Ok.cond (b := decide (xx < xy)) rfl (fun hc4 => ?_) (fun hc4 => ?_)
      · replace hF := hF.1 hc4
        refine Ok.seq ?_
        refine Ok.region ?_
        refine Ok.batch 1 [(4, .int .i64 (-1))] (by kernel_rfl) ?_
        refine Ok.nil ?_
        refine Ok.thenN ?_
        refine Ok.ret ?_
        refine Ok.thenR ?_
        exact Ok.resH (vs := [.int .i64 (-1)]) (.inl rfl) rfl (.cons (.tmp rfl) .nil) (Gext.refl w0 g) ⟨(-1), rfl, rfl, hF⟩
      · replace hF := hF.2 hc4
        refine Ok.skip ?_
        refine Ok.thenN ?_
        refine Ok.seq ?_
        refine Ok.seq ?_
        refine Ok.region ?_
        refine Ok.batch 3 [(19, .bool (decide (xx > xy)))] (by kernel_rfl) ?_
        refine Ok.nil ?_
        refine Ok.thenN ?_
        refine Ok.cond (b := decide (xx > xy)) rfl (fun hc5 => ?_) (fun hc5 => ?_)
        · replace hF := hF.1 hc5
          refine Ok.seq ?_
          refine Ok.region ?_
          refine Ok.batch 1 [(4, .int .i64 1)] (by kernel_rfl) ?_
          refine Ok.nil ?_
          refine Ok.thenN ?_
          refine Ok.ret ?_
          refine Ok.thenR ?_
          exact Ok.resH (vs := [.int .i64 1]) (.inl rfl) rfl (.cons (.tmp rfl) .nil) (Gext.refl w0 g) ⟨1, rfl, rfl, hF⟩
        · replace hF := hF.2 hc5
          refine Ok.skip ?_
          refine Ok.thenN ?_
          refine Ok.seq ?_
          refine Ok.region ?_
          refine Ok.batch 1 [(4, .int .i64 0)] (by kernel_rfl) ?_
          refine Ok.nil ?_
          refine Ok.thenN ?_
          refine Ok.ret ?_
          exact Ok.resH (vs := [.int .i64 0]) (.inl rfl) rfl (.cons (.tmp rfl) .nil) (Gext.refl w0 g) ⟨0, rfl, rfl, hF⟩
def cmpiM (xx : Int) (xy : Int) : Int := (if (isnanM xx) = true then (if (isnanM xy) = true then 0 else (-1)) else (if (isnanM xy) = true then 1 else (if (decide (xx < xy)) = true then (-1) else (if (decide (xx > xy)) = true then 1 else 0))))
set_option linter.unusedSimpArgs false in
set_option linter.unusedVariables false in
theorem cmpiF_A (xx : Int) (xy : Int) (P : Int → Prop) (h : P (cmpiM xx xy)) : cmpiF xx xy (fun k0 => P k0) := by
  unfold cmpiM at h
  unfold cmpiF
  refine ⟨fun hc0 => ?_, fun hc0 => ?_⟩
  · rw [if_t hc0] at h
    refine ⟨fun hc1 => ?_, fun hc1 => ?_⟩
    · rw [if_t hc1] at h
      exact h
    · rw [if_f hc1] at h
      exact h
  · rw [if_f hc0] at h
    refine ⟨fun hc1 => ?_, fun hc1 => ?_⟩
    · rw [if_t hc1] at h
      exact h
    · rw [if_f hc1] at h
      refine ⟨fun hc2 => ?_, fun hc2 => ?_⟩
      · rw [if_t hc2] at h
        have hd2 := of_decide_eq_true hc2
        exact h
      · rw [if_f hc2] at h
        have hd2 := of_decide_eq_false hc2
        refine ⟨fun hc3 => ?_, fun hc3 => ?_⟩
        · rw [if_t hc3] at h
          have hd3 := of_decide_eq_true hc3
          exact h
        · rw [if_f hc3] at h
          have hd3 := of_decide_eq_false hc3
          exact h
theorem cmpi_F (xx : Int) (xy : Int) : cmpiF xx xy (fun k0 => k0 = cmpiM xx xy) :=
  cmpiF_A xx xy (fun z => z = cmpiM xx xy) rfl
set_option linter.unusedVariables false in
theorem cmpi_c {g : Ghost} (xx : Int) (xy : Int)  : CallsG Tryd.prog 64 #[.int .i64 xx, .int .i64 xy] g (.int .i64 (cmpiM xx xy)) :=
  (cmpi_ok xx xy _ (cmpi_F xx xy)).gives (by rintro g' H' v _ ⟨r0, rfl, rfl, hK⟩; subst hK; rfl)
def truF (xis : Bool) (K : (Int × Int × List UInt8) → Prop) : Prop :=
  ((xis) = true → K (1, 1, ([] : List UInt8))) ∧ ((xis) = false → K (1, 0, ([] : List UInt8)))
set_option maxHeartbeats 4000000 in
set_option maxRecDepth 100000 in
set_option linter.unusedVariables false in
theorem tru_ok {g : Ghost} (xis : Bool) (K : (Int × Int × List UInt8) → Prop)
    (hF : truF xis K) : CallsH Tryd.prog 58 #[.bool xis] g [] (fun g' H' v => ∃ (r0 : Int × Int × List UInt8), v = .agg #[.int .i64 r0.1, .int .i64 r0.2.1, .string ⟨⟨r0.2.2⟩⟩] ∧ H' = [] ∧ K r0) := by
  refine CallsH.enter 6 [(0, .bool xis)] Tryd.func58 rfl (by kernel_rfl) (by kernel_rfl) (by kernel_rfl) fun w0 => ?_
  refine Ok.seq ?_
  refine Ok.region ?_
  refine Ok.op rfl (OpOk.alloc (z := .agg #[.int .i64 0, .int .i64 0, .string ⟨⟨([] : List UInt8)⟩⟩]) (cs := #[.int .i64 0, .int .i64 0, .string ⟨⟨([] : List UInt8)⟩⟩]) (by kernel_rfl) (by kernel_rfl) rfl fun b1 => ?_)
  refine Ok.nil ?_
  refine Ok.thenN ?_
  refine Ok.seq ?_
  refine Ok.seq ?_
  refine Ok.region ?_
  refine Ok.batch 1 [(2, .pointer (some ⟨b1, 0, none⟩)), (3, .bool xis)] (by kernel_rfl) ?_
  refine Ok.nil ?_
  refine Ok.thenN ?_
  refine Ok.cond (b := xis) rfl (fun hc2 => ?_) (fun hc2 => ?_)
  · replace hF := hF.1 hc2
    refine Ok.seq ?_
    refine Ok.region ?_
    refine Ok.batch 1 [(2, .pointer (some ⟨b1, 0, none⟩)), (4, .agg #[.int .i64 1, .int .i64 1, .string ⟨⟨([] : List UInt8)⟩⟩])] (by kernel_rfl) ?_
    refine Ok.op rfl (OpOk.store (k := 3) (v := .agg #[.int .i64 1, .int .i64 1, .string ⟨⟨([] : List UInt8)⟩⟩]) (H' := [.blk b1 (.cells #[.int .i64 1, .int .i64 1, .string ⟨⟨([] : List UInt8)⟩⟩] 31)]) 0 rfl rfl rfl (by kernel_rfl) (by kernel_rfl) (by kernel_rfl) (by kernel_rfl) (by kernel_rfl) ?_)
    refine Ok.nil ?_
    refine Ok.thenN ?_
    refine Ok.ret ?_
    refine Ok.thenR ?_
    exact Ok.resP (vs := [.agg #[.int .i64 1, .int .i64 1, .string ⟨⟨([] : List UInt8)⟩⟩]]) [] [] (by decide) rfl (.inl rfl) rfl (.cons (.cellAgg 0 3 #[.int .i64 1, .int .i64 1, .string ⟨⟨([] : List UInt8)⟩⟩] rfl rfl Tryd.underlying31 rfl (by kernel_rfl) (by kernel_rfl) (by kernel_rfl)) .nil) (Gext.refl w0 g) ⟨(1, 1, ([] : List UInt8)), rfl, rfl, hF⟩
  · replace hF := hF.2 hc2
    refine Ok.skip ?_
    refine Ok.thenN ?_
    refine Ok.seq ?_
    refine Ok.region ?_
    refine Ok.batch 1 [(2, .pointer (some ⟨b1, 0, none⟩)), (5, .agg #[.int .i64 1, .int .i64 0, .string ⟨⟨([] : List UInt8)⟩⟩])] (by kernel_rfl) ?_
    refine Ok.op rfl (OpOk.store (k := 3) (v := .agg #[.int .i64 1, .int .i64 0, .string ⟨⟨([] : List UInt8)⟩⟩]) (H' := [.blk b1 (.cells #[.int .i64 1, .int .i64 0, .string ⟨⟨([] : List UInt8)⟩⟩] 31)]) 0 rfl rfl rfl (by kernel_rfl) (by kernel_rfl) (by kernel_rfl) (by kernel_rfl) (by kernel_rfl) ?_)
    refine Ok.nil ?_
    refine Ok.thenN ?_
    refine Ok.ret ?_
    exact Ok.resP (vs := [.agg #[.int .i64 1, .int .i64 0, .string ⟨⟨([] : List UInt8)⟩⟩]]) [] [] (by decide) rfl (.inl rfl) rfl (.cons (.cellAgg 0 3 #[.int .i64 1, .int .i64 0, .string ⟨⟨([] : List UInt8)⟩⟩] rfl rfl Tryd.underlying31 rfl (by kernel_rfl) (by kernel_rfl) (by kernel_rfl)) .nil) (Gext.refl w0 g) ⟨(1, 0, ([] : List UInt8)), rfl, rfl, hF⟩
def truM (xis : Bool) : (Int × Int × List UInt8) := (if xis = true then (1, 1, ([] : List UInt8)) else (1, 0, ([] : List UInt8)))
set_option linter.unusedSimpArgs false in
set_option linter.unusedVariables false in
theorem truF_A (xis : Bool) (P : (Int × Int × List UInt8) → Prop) (h : P (truM xis)) : truF xis (fun k0 => P k0) := by
  unfold truM at h
  unfold truF
  refine ⟨fun hc0 => ?_, fun hc0 => ?_⟩
  · rw [if_t hc0] at h
    exact h
  · rw [if_f hc0] at h
    exact h
theorem tru_F (xis : Bool) : truF xis (fun k0 => k0 = truM xis) :=
  truF_A xis (fun z => z = truM xis) rfl
set_option linter.unusedVariables false in
theorem tru_c {g : Ghost} (xis : Bool)  : CallsG Tryd.prog 58 #[.bool xis] g (.agg #[.int .i64 (truM xis).1, .int .i64 (truM xis).2.1, .string ⟨⟨(truM xis).2.2⟩⟩]) :=
  (tru_ok xis _ (tru_F xis)).gives (by rintro g' H' v _ ⟨r0, rfl, rfl, hK⟩; subst hK; rfl)
def numj4 (xn : Int) (xfits : Bool) (K : (Int × Int × List UInt8) → (List UInt8) → Prop) : Prop :=
  ((((!xfits) || (!(witM xn (-9007199254740992) 9007199254740992)))) = true → K (0, 0, ([] : List UInt8)) ([114, 97, 110, 103, 101] : List UInt8)) ∧ ((((!xfits) || (!(witM xn (-9007199254740992) 9007199254740992)))) = false → K (2, xn, ([] : List UInt8)) ([] : List UInt8))
def numF (xn : Int) (xfits : Bool) (K : (Int × Int × List UInt8) → (List UInt8) → Prop) : Prop :=
  ((!xfits) = true → numj4 xn xfits K) ∧ ((!xfits) = false → numj4 xn xfits K)
set_option maxHeartbeats 4000000 in
set_option maxRecDepth 100000 in
set_option linter.unusedVariables false in
theorem num_ok {g : Ghost} (xn : Int) (xfits : Bool) (K : (Int × Int × List UInt8) → (List UInt8) → Prop)
    (hF : numF xn xfits K) : CallsH Tryd.prog 60 #[.int .i64 xn, .bool xfits] g [] (fun g' H' v => ∃ (r0 : Int × Int × List UInt8), ∃ (r1 : List UInt8), v = .tuple #[.agg #[.int .i64 r0.1, .int .i64 r0.2.1, .string ⟨⟨r0.2.2⟩⟩], .string ⟨⟨r1⟩⟩] ∧ H' = [] ∧ K r0 r1) := by
  refine CallsH.enter 16 [(0, .int .i64 xn), (1, .bool xfits)] Tryd.func60 rfl (by kernel_rfl) (by kernel_rfl) (by kernel_rfl) fun w0 => ?_
  refine Ok.seq ?_
  refine Ok.region ?_
  refine Ok.op rfl (OpOk.alloc (z := .agg #[.int .i64 0, .int .i64 0, .string ⟨⟨([] : List UInt8)⟩⟩]) (cs := #[.int .i64 0, .int .i64 0, .string ⟨⟨([] : List UInt8)⟩⟩]) (by kernel_rfl) (by kernel_rfl) rfl fun b1 => ?_)
  refine Ok.batch 1 [(0, .int .i64 xn), (1, .bool xfits), (4, .pointer (some ⟨b1, 0, none⟩))] (by kernel_rfl) ?_
  refine Ok.nil ?_
  refine Ok.thenN ?_
  refine Ok.seq ?_
  refine Ok.cut (fun a W => StA 16 [(0, .int .i64 xn), (4, .pointer (some ⟨b1, 0, none⟩)), (12, .bool ((!xfits) || (!(witM xn (-9007199254740992) 9007199254740992))))] a ∧ StW w0 [.blk b1 (.cells #[.int .i64 0, .int .i64 0, .string ⟨⟨([] : List UInt8)⟩⟩] 31)] g W ∧ numj4 xn xfits K) ?_ ?_
  ·
    refine Ok.region ?_
    refine Ok.batch 3 [(0, .int .i64 xn), (4, .pointer (some ⟨b1, 0, none⟩)), (8, .bool (!xfits))] (by kernel_rfl) ?_
    refine Ok.boolAt 8 (!xfits) rfl (fun hc3 => ?_) (fun hc3 => ?_)
    · replace hF := hF.1 hc3
      refine Ok.batch 4 [(0, .int .i64 xn), (4, .pointer (some ⟨b1, 0, none⟩)), (12, .bool true)] (by kernel_rfl) ?_
      refine Ok.nil ?_
      refine Ok.thenN ?_
      refine Ok.reval 12 rfl (show (.bool true : Value) = .bool ((!xfits) || (!(witM xn (-9007199254740992) 9007199254740992))) from congrArg (Value.bool) (mor_t hc3)) ?_
      exact fun a W hA hW => ⟨hA.sub (by kernel_rfl), hW, hF⟩
    · replace hF := hF.2 hc3
      refine Ok.batch 1 [(0, .int .i64 xn), (4, .pointer (some ⟨b1, 0, none⟩)), (8, .bool false), (9, .int .i64 xn)] (by kernel_rfl) ?_
      refine Ok.opYes (j := 2) (d := 8) (want := false) (b := false) rfl (by kernel_rfl) (by kernel_rfl) rfl (OpOk.callG (v := .bool (witM xn (-9007199254740992) 9007199254740992)) (enters (by kernel_rfl) (fun _ => by kernel_rfl)) (fun W hW => wit_c xn (-9007199254740992) 9007199254740992) rfl ?_)
      refine Ok.batch 2 [(0, .int .i64 xn), (4, .pointer (some ⟨b1, 0, none⟩)), (12, .bool (!(witM xn (-9007199254740992) 9007199254740992)))] (by kernel_rfl) ?_
      refine Ok.nil ?_
      refine Ok.thenN ?_
      refine Ok.reval 12 rfl (show (.bool (!(witM xn (-9007199254740992) 9007199254740992)) : Value) = .bool ((!xfits) || (!(witM xn (-9007199254740992) 9007199254740992))) from congrArg (Value.bool) (mor_f hc3)) ?_
      exact fun a W hA hW => ⟨hA.sub (by kernel_rfl), hW, hF⟩
  ·
    rintro a W ⟨hA, hW, hF⟩
    refine (?_ : Ok _ _ _ _ _ _) a W hA hW
    clear hA hW
    refine Ok.cond (b := ((!xfits) || (!(witM xn (-9007199254740992) 9007199254740992)))) rfl (fun hc2 => ?_) (fun hc2 => ?_)
    · replace hF := hF.1 hc2
      refine Ok.seq ?_
      refine Ok.region ?_
      refine Ok.batch 1 [(4, .pointer (some ⟨b1, 0, none⟩)), (13, .agg #[.int .i64 0, .int .i64 0, .string ⟨⟨([] : List UInt8)⟩⟩])] (by kernel_rfl) ?_
      refine Ok.op rfl (OpOk.store (k := 3) (v := .agg #[.int .i64 0, .int .i64 0, .string ⟨⟨([] : List UInt8)⟩⟩]) (H' := [.blk b1 (.cells #[.int .i64 0, .int .i64 0, .string ⟨⟨([] : List UInt8)⟩⟩] 31)]) 0 rfl rfl rfl (by kernel_rfl) (by kernel_rfl) (by kernel_rfl) (by kernel_rfl) (by kernel_rfl) ?_)
      refine Ok.batch 1 [(4, .pointer (some ⟨b1, 0, none⟩)), (5, .string ⟨⟨([114, 97, 110, 103, 101] : List UInt8)⟩⟩)] (by kernel_rfl) ?_
      refine Ok.nil ?_
      refine Ok.thenN ?_
      refine Ok.ret ?_
      refine Ok.thenR ?_
      exact Ok.resP (vs := [.agg #[.int .i64 0, .int .i64 0, .string ⟨⟨([] : List UInt8)⟩⟩], .string ⟨⟨([114, 97, 110, 103, 101] : List UInt8)⟩⟩]) [] [] (by decide) rfl (.inl rfl) rfl (.cons (.cellAgg 0 3 #[.int .i64 0, .int .i64 0, .string ⟨⟨([] : List UInt8)⟩⟩] rfl rfl Tryd.underlying31 rfl (by kernel_rfl) (by kernel_rfl) (by kernel_rfl)) (.cons (.tmp rfl) .nil)) (Gext.refl w0 g) ⟨(0, 0, ([] : List UInt8)), ([114, 97, 110, 103, 101] : List UInt8), rfl, rfl, hF⟩
    · replace hF := hF.2 hc2
      refine Ok.skip ?_
      refine Ok.thenN ?_
      refine Ok.seq ?_
      refine Ok.region ?_
      refine Ok.batch 2 [(4, .pointer (some ⟨b1, 0, none⟩)), (15, .agg #[.int .i64 2, .int .i64 xn, .string ⟨⟨([] : List UInt8)⟩⟩])] (by kernel_rfl) ?_
      refine Ok.op rfl (OpOk.store (k := 3) (v := .agg #[.int .i64 2, .int .i64 xn, .string ⟨⟨([] : List UInt8)⟩⟩]) (H' := [.blk b1 (.cells #[.int .i64 2, .int .i64 xn, .string ⟨⟨([] : List UInt8)⟩⟩] 31)]) 0 rfl rfl rfl (by kernel_rfl) (by kernel_rfl) (by kernel_rfl) (by kernel_rfl) (by kernel_rfl) ?_)
      refine Ok.batch 1 [(4, .pointer (some ⟨b1, 0, none⟩)), (5, .string ⟨⟨([] : List UInt8)⟩⟩)] (by kernel_rfl) ?_
      refine Ok.nil ?_
      refine Ok.thenN ?_
      refine Ok.ret ?_
      exact Ok.resP (vs := [.agg #[.int .i64 2, .int .i64 xn, .string ⟨⟨([] : List UInt8)⟩⟩], .string ⟨⟨([] : List UInt8)⟩⟩]) [] [] (by decide) rfl (.inl rfl) rfl (.cons (.cellAgg 0 3 #[.int .i64 2, .int .i64 xn, .string ⟨⟨([] : List UInt8)⟩⟩] rfl rfl Tryd.underlying31 rfl (by kernel_rfl) (by kernel_rfl) (by kernel_rfl)) (.cons (.tmp rfl) .nil)) (Gext.refl w0 g) ⟨(2, xn, ([] : List UInt8)), ([] : List UInt8), rfl, rfl, hF⟩
def numj4M (xn : Int) (xfits : Bool) : (Int × Int × List UInt8) × List UInt8 := (if ((!xfits) || (!(witM xn (-9007199254740992) 9007199254740992))) = true then ((0, 0, ([] : List UInt8)), ([114, 97, 110, 103, 101] : List UInt8)) else ((2, xn, ([] : List UInt8)), ([] : List UInt8)))
set_option linter.unusedSimpArgs false in
set_option linter.unusedVariables false in
theorem numj4_A (xn : Int) (xfits : Bool) (P : (Int × Int × List UInt8) × List UInt8 → Prop) (h : P (numj4M xn xfits)) : numj4 xn xfits (fun k0 k1 => P (k0, k1)) := by
  unfold numj4M at h
  unfold numj4
  refine ⟨fun hc0 => ?_, fun hc0 => ?_⟩
  · rw [if_t hc0] at h
    have hd0 := hc0; try simp only [Bool.and_eq_true, Bool.or_eq_true, Bool.and_eq_false_iff, Bool.or_eq_false_iff, Bool.not_eq_true', Bool.not_eq_false', decide_eq_true_eq, decide_eq_false_iff_not, beq_iff_eq, beq_eq_false_iff_ne, ne_eq] at hd0
    exact h
  · rw [if_f hc0] at h
    have hd0 := hc0; try simp only [Bool.and_eq_true, Bool.or_eq_true, Bool.and_eq_false_iff, Bool.or_eq_false_iff, Bool.not_eq_true', Bool.not_eq_false', decide_eq_true_eq, decide_eq_false_iff_not, beq_iff_eq, beq_eq_false_iff_ne, ne_eq] at hd0
    exact h
def numM (xn : Int) (xfits : Bool) : (Int × Int × List UInt8) × List UInt8 := (numj4M xn xfits)
set_option linter.unusedSimpArgs false in
set_option linter.unusedVariables false in
theorem numF_A (xn : Int) (xfits : Bool) (P : (Int × Int × List UInt8) × List UInt8 → Prop) (h : P (numM xn xfits)) : numF xn xfits (fun k0 k1 => P (k0, k1)) := by
  unfold numM at h
  unfold numF
  refine ⟨fun hc0 => ?_, fun hc0 => ?_⟩
  · skip
    exact numj4_A xn xfits _ h
  · skip
    exact numj4_A xn xfits _ h
theorem num_F (xn : Int) (xfits : Bool) : numF xn xfits (fun k0 k1 => (k0, k1) = numM xn xfits) :=
  numF_A xn xfits (fun z => z = numM xn xfits) rfl
set_option linter.unusedVariables false in
theorem num_c {g : Ghost} (xn : Int) (xfits : Bool)  : CallsG Tryd.prog 60 #[.int .i64 xn, .bool xfits] g (.tuple #[.agg #[.int .i64 ((numM xn xfits).1).1, .int .i64 ((numM xn xfits).1).2.1, .string ⟨⟨((numM xn xfits).1).2.2⟩⟩], .string ⟨⟨((numM xn xfits).2)⟩⟩]) :=
  (num_ok xn xfits _ (num_F xn xfits)).gives (by rintro g' H' v _ ⟨r0, r1, rfl, rfl, hK⟩; obtain ⟨rfl, rfl⟩ : r0 = (numM xn xfits).1 ∧ r1 = (numM xn xfits).2 := ⟨congrArg (fun z => z.1) hK, congrArg (fun z => z.2) hK⟩; rfl)
def orddF (xsign : List UInt8) (xc : Int) (K : (Int × Int × List UInt8) → Prop) : Prop :=
  (((xsign == ([60] : List UInt8))) = true → K ((truM (decide (xc < 0))).1, ((truM (decide (xc < 0))).2).1, ((truM (decide (xc < 0))).2).2)) ∧ (((xsign == ([60] : List UInt8))) = false → (((xsign == ([60, 61] : List UInt8))) = true → K ((truM (decide (xc ≤ 0))).1, ((truM (decide (xc ≤ 0))).2).1, ((truM (decide (xc ≤ 0))).2).2)) ∧ (((xsign == ([60, 61] : List UInt8))) = false → (((xsign == ([62] : List UInt8))) = true → K ((truM (decide (xc > 0))).1, ((truM (decide (xc > 0))).2).1, ((truM (decide (xc > 0))).2).2)) ∧ (((xsign == ([62] : List UInt8))) = false → K ((truM (decide (xc ≥ 0))).1, ((truM (decide (xc ≥ 0))).2).1, ((truM (decide (xc ≥ 0))).2).2))))
set_option maxHeartbeats 4000000 in
set_option maxRecDepth 100000 in
set_option linter.unusedVariables false in
theorem ordd_ok {g : Ghost} (xsign : List UInt8) (xc : Int) (K : (Int × Int × List UInt8) → Prop)
    (hF : orddF xsign xc K) : CallsH Tryd.prog 63 #[.string ⟨⟨xsign⟩⟩, .int .i64 xc] g [] (fun g' H' v => ∃ (r0 : Int × Int × List UInt8), v = .agg #[.int .i64 r0.1, .int .i64 r0.2.1, .string ⟨⟨r0.2.2⟩⟩] ∧ H' = [] ∧ K r0) := by
  refine CallsH.enter 24 [(0, .string ⟨⟨xsign⟩⟩), (1, .int .i64 xc)] Tryd.func63 rfl (by kernel_rfl) (by kernel_rfl) (by kernel_rfl) fun w0 => ?_
  refine Ok.seq ?_
  refine Ok.region ?_
  refine Ok.op rfl (OpOk.alloc (z := .agg #[.int .i64 0, .int .i64 0, .string ⟨⟨([] : List UInt8)⟩⟩]) (cs := #[.int .i64 0, .int .i64 0, .string ⟨⟨([] : List UInt8)⟩⟩]) (by kernel_rfl) (by kernel_rfl) rfl fun b1 => ?_)
  refine Ok.nil ?_
  refine Ok.thenN ?_
  refine Ok.seq ?_
  refine Ok.seq ?_
  refine Ok.region ?_
  refine Ok.batch 1 [(1, .int .i64 xc), (4, .pointer (some ⟨b1, 0, none⟩)), (5, .string ⟨⟨xsign⟩⟩)] (by kernel_rfl) ?_
  refine Ok.nil ?_
  refine Ok.thenN ?_
  refine Ok.block ?_
  refine Ok.seq ?_
  refine Ok.region ?_
  refine Ok.op rfl (OpOk.step (v := .bool (xsign == ([60] : List UInt8))) (Yields.strCmp (f := .eql) (a := xsign) (b := ([60] : List UInt8)) (by kernel_rfl) (by kernel_rfl) rfl) rfl rfl ?_)
  refine Ok.batch 1 [(1, .int .i64 xc), (4, .pointer (some ⟨b1, 0, none⟩)), (5, .string ⟨⟨xsign⟩⟩), (6, .bool (xsign == ([60] : List UInt8)))] (by kernel_rfl) ?_
  refine Ok.nil ?_
  refine Ok.thenN ?_
  refine Ok.cond (b := (xsign == ([60] : List UInt8))) rfl (fun hc2 => ?_) (fun hc2 => ?_)
  · replace hF := hF.1 hc2
    refine Ok.seq ?_
    refine Ok.region ?_
    refine Ok.batch 2 [(4, .pointer (some ⟨b1, 0, none⟩)), (9, .bool (decide (xc < 0)))] (by kernel_rfl) ?_
    refine Ok.op rfl (OpOk.callG (v := .agg #[.int .i64 ((truM (decide (xc < 0))).1), .int .i64 (((truM (decide (xc < 0))).2).1), .string ⟨⟨((truM (decide (xc < 0))).2).2⟩⟩]) (enters (by kernel_rfl) (fun _ => by kernel_rfl)) (fun W hW => tru_c (decide (xc < 0))) rfl ?_)
    refine Ok.op rfl (OpOk.store (k := 3) (v := .agg #[.int .i64 ((truM (decide (xc < 0))).1), .int .i64 (((truM (decide (xc < 0))).2).1), .string ⟨⟨((truM (decide (xc < 0))).2).2⟩⟩]) (H' := [.blk b1 (.cells #[.int .i64 ((truM (decide (xc < 0))).1), .int .i64 (((truM (decide (xc < 0))).2).1), .string ⟨⟨((truM (decide (xc < 0))).2).2⟩⟩] 31)]) 0 rfl rfl rfl (by kernel_rfl) (by kernel_rfl) (by kernel_rfl) (by kernel_rfl) (by kernel_rfl) ?_)
    refine Ok.nil ?_
    refine Ok.thenN ?_
    refine Ok.ret ?_
    refine Ok.blockR ?_
    refine Ok.thenR ?_
    exact Ok.resP (vs := [.agg #[.int .i64 ((truM (decide (xc < 0))).1), .int .i64 (((truM (decide (xc < 0))).2).1), .string ⟨⟨((truM (decide (xc < 0))).2).2⟩⟩]]) [] [] (by decide) rfl (.inl rfl) rfl (.cons (.cellAgg 0 3 #[.int .i64 ((truM (decide (xc < 0))).1), .int .i64 (((truM (decide (xc < 0))).2).1), .string ⟨⟨((truM (decide (xc < 0))).2).2⟩⟩] rfl rfl Tryd.underlying31 rfl (by kernel_rfl) (by kernel_rfl) (by kernel_rfl)) .nil) (Gext.refl w0 g) ⟨((truM (decide (xc < 0))).1, ((truM (decide (xc < 0))).2).1, ((truM (decide (xc < 0))).2).2), rfl, rfl, hF⟩
  · replace hF := hF.2 hc2
    refine Ok.seq ?_
    refine Ok.region ?_
    refine Ok.op rfl (OpOk.step (v := .bool (xsign == ([60, 61] : List UInt8))) (Yields.strCmp (f := .eql) (a := xsign) (b := ([60, 61] : List UInt8)) (by kernel_rfl) (by kernel_rfl) rfl) rfl rfl ?_)
    refine Ok.batch 1 [(1, .int .i64 xc), (4, .pointer (some ⟨b1, 0, none⟩)), (5, .string ⟨⟨xsign⟩⟩), (11, .bool (xsign == ([60, 61] : List UInt8)))] (by kernel_rfl) ?_
    refine Ok.nil ?_
    refine Ok.thenN ?_
    refine Ok.cond (b := (xsign == ([60, 61] : List UInt8))) rfl (fun hc3 => ?_) (fun hc3 => ?_)
    · replace hF := hF.1 hc3
      refine Ok.seq ?_
      refine Ok.region ?_
      refine Ok.batch 2 [(4, .pointer (some ⟨b1, 0, none⟩)), (14, .bool (decide (xc ≤ 0)))] (by kernel_rfl) ?_
      refine Ok.op rfl (OpOk.callG (v := .agg #[.int .i64 ((truM (decide (xc ≤ 0))).1), .int .i64 (((truM (decide (xc ≤ 0))).2).1), .string ⟨⟨((truM (decide (xc ≤ 0))).2).2⟩⟩]) (enters (by kernel_rfl) (fun _ => by kernel_rfl)) (fun W hW => tru_c (decide (xc ≤ 0))) rfl ?_)
      refine Ok.op rfl (OpOk.store (k := 3) (v := .agg #[.int .i64 ((truM (decide (xc ≤ 0))).1), .int .i64 (((truM (decide (xc ≤ 0))).2).1), .string ⟨⟨((truM (decide (xc ≤ 0))).2).2⟩⟩]) (H' := [.blk b1 (.cells #[.int .i64 ((truM (decide (xc ≤ 0))).1), .int .i64 (((truM (decide (xc ≤ 0))).2).1), .string ⟨⟨((truM (decide (xc ≤ 0))).2).2⟩⟩] 31)]) 0 rfl rfl rfl (by kernel_rfl) (by kernel_rfl) (by kernel_rfl) (by kernel_rfl) (by kernel_rfl) ?_)
      refine Ok.nil ?_
      refine Ok.thenN ?_
      refine Ok.ret ?_
      refine Ok.blockR ?_
      refine Ok.thenR ?_
      exact Ok.resP (vs := [.agg #[.int .i64 ((truM (decide (xc ≤ 0))).1), .int .i64 (((truM (decide (xc ≤ 0))).2).1), .string ⟨⟨((truM (decide (xc ≤ 0))).2).2⟩⟩]]) [] [] (by decide) rfl (.inl rfl) rfl (.cons (.cellAgg 0 3 #[.int .i64 ((truM (decide (xc ≤ 0))).1), .int .i64 (((truM (decide (xc ≤ 0))).2).1), .string ⟨⟨((truM (decide (xc ≤ 0))).2).2⟩⟩] rfl rfl Tryd.underlying31 rfl (by kernel_rfl) (by kernel_rfl) (by kernel_rfl)) .nil) (Gext.refl w0 g) ⟨((truM (decide (xc ≤ 0))).1, ((truM (decide (xc ≤ 0))).2).1, ((truM (decide (xc ≤ 0))).2).2), rfl, rfl, hF⟩
    · replace hF := hF.2 hc3
      refine Ok.seq ?_
      refine Ok.region ?_
      refine Ok.op rfl (OpOk.step (v := .bool (xsign == ([62] : List UInt8))) (Yields.strCmp (f := .eql) (a := xsign) (b := ([62] : List UInt8)) (by kernel_rfl) (by kernel_rfl) rfl) rfl rfl ?_)
      refine Ok.batch 1 [(1, .int .i64 xc), (4, .pointer (some ⟨b1, 0, none⟩)), (16, .bool (xsign == ([62] : List UInt8)))] (by kernel_rfl) ?_
      refine Ok.nil ?_
      refine Ok.thenN ?_
      refine Ok.cond (b := (xsign == ([62] : List UInt8))) rfl (fun hc4 => ?_) (fun hc4 => ?_)
      · replace hF := hF.1 hc4
        refine Ok.seq ?_
        refine Ok.region ?_
        refine Ok.batch 2 [(4, .pointer (some ⟨b1, 0, none⟩)), (19, .bool (decide (xc > 0)))] (by kernel_rfl) ?_
        refine Ok.op rfl (OpOk.callG (v := .agg #[.int .i64 ((truM (decide (xc > 0))).1), .int .i64 (((truM (decide (xc > 0))).2).1), .string ⟨⟨((truM (decide (xc > 0))).2).2⟩⟩]) (enters (by kernel_rfl) (fun _ => by kernel_rfl)) (fun W hW => tru_c (decide (xc > 0))) rfl ?_)
        refine Ok.op rfl (OpOk.store (k := 3) (v := .agg #[.int .i64 ((truM (decide (xc > 0))).1), .int .i64 (((truM (decide (xc > 0))).2).1), .string ⟨⟨((truM (decide (xc > 0))).2).2⟩⟩]) (H' := [.blk b1 (.cells #[.int .i64 ((truM (decide (xc > 0))).1), .int .i64 (((truM (decide (xc > 0))).2).1), .string ⟨⟨((truM (decide (xc > 0))).2).2⟩⟩] 31)]) 0 rfl rfl rfl (by kernel_rfl) (by kernel_rfl) (by kernel_rfl) (by kernel_rfl) (by kernel_rfl) ?_)
        refine Ok.nil ?_
        refine Ok.thenN ?_
        refine Ok.ret ?_
        refine Ok.blockR ?_
        refine Ok.thenR ?_
        exact Ok.resP (vs := [.agg #[.int .i64 ((truM (decide (xc > 0))).1), .int .i64 (((truM (decide (xc > 0))).2).1), .string ⟨⟨((truM (decide (xc > 0))).2).2⟩⟩]]) [] [] (by decide) rfl (.inl rfl) rfl (.cons (.cellAgg 0 3 #[.int .i64 ((truM (decide (xc > 0))).1), .int .i64 (((truM (decide (xc > 0))).2).1), .string ⟨⟨((truM (decide (xc > 0))).2).2⟩⟩] rfl rfl Tryd.underlying31 rfl (by kernel_rfl) (by kernel_rfl) (by kernel_rfl)) .nil) (Gext.refl w0 g) ⟨((truM (decide (xc > 0))).1, ((truM (decide (xc > 0))).2).1, ((truM (decide (xc > 0))).2).2), rfl, rfl, hF⟩
      · replace hF := hF.2 hc4
        refine Ok.skip ?_
        refine Ok.blockN ?_
        refine Ok.thenN ?_
        refine Ok.seq ?_
        refine Ok.region ?_
        refine Ok.batch 2 [(4, .pointer (some ⟨b1, 0, none⟩)), (22, .bool (decide (xc ≥ 0)))] (by kernel_rfl) ?_
        refine Ok.op rfl (OpOk.callG (v := .agg #[.int .i64 ((truM (decide (xc ≥ 0))).1), .int .i64 (((truM (decide (xc ≥ 0))).2).1), .string ⟨⟨((truM (decide (xc ≥ 0))).2).2⟩⟩]) (enters (by kernel_rfl) (fun _ => by kernel_rfl)) (fun W hW => tru_c (decide (xc ≥ 0))) rfl ?_)
        refine Ok.op rfl (OpOk.store (k := 3) (v := .agg #[.int .i64 ((truM (decide (xc ≥ 0))).1), .int .i64 (((truM (decide (xc ≥ 0))).2).1), .string ⟨⟨((truM (decide (xc ≥ 0))).2).2⟩⟩]) (H' := [.blk b1 (.cells #[.int .i64 ((truM (decide (xc ≥ 0))).1), .int .i64 (((truM (decide (xc ≥ 0))).2).1), .string ⟨⟨((truM (decide (xc ≥ 0))).2).2⟩⟩] 31)]) 0 rfl rfl rfl (by kernel_rfl) (by kernel_rfl) (by kernel_rfl) (by kernel_rfl) (by kernel_rfl) ?_)
        refine Ok.nil ?_
        refine Ok.thenN ?_
        refine Ok.ret ?_
        exact Ok.resP (vs := [.agg #[.int .i64 ((truM (decide (xc ≥ 0))).1), .int .i64 (((truM (decide (xc ≥ 0))).2).1), .string ⟨⟨((truM (decide (xc ≥ 0))).2).2⟩⟩]]) [] [] (by decide) rfl (.inl rfl) rfl (.cons (.cellAgg 0 3 #[.int .i64 ((truM (decide (xc ≥ 0))).1), .int .i64 (((truM (decide (xc ≥ 0))).2).1), .string ⟨⟨((truM (decide (xc ≥ 0))).2).2⟩⟩] rfl rfl Tryd.underlying31 rfl (by kernel_rfl) (by kernel_rfl) (by kernel_rfl)) .nil) (Gext.refl w0 g) ⟨((truM (decide (xc ≥ 0))).1, ((truM (decide (xc ≥ 0))).2).1, ((truM (decide (xc ≥ 0))).2).2), rfl, rfl, hF⟩
def orddM (xsign : List UInt8) (xc : Int) : (Int × Int × List UInt8) := (if (xsign == ([60] : List UInt8)) = true then ((truM (decide (xc < 0))).1, ((truM (decide (xc < 0))).2).1, ((truM (decide (xc < 0))).2).2) else (if (xsign == ([60, 61] : List UInt8)) = true then ((truM (decide (xc ≤ 0))).1, ((truM (decide (xc ≤ 0))).2).1, ((truM (decide (xc ≤ 0))).2).2) else (if (xsign == ([62] : List UInt8)) = true then ((truM (decide (xc > 0))).1, ((truM (decide (xc > 0))).2).1, ((truM (decide (xc > 0))).2).2) else ((truM (decide (xc ≥ 0))).1, ((truM (decide (xc ≥ 0))).2).1, ((truM (decide (xc ≥ 0))).2).2))))
set_option linter.unusedSimpArgs false in
set_option linter.unusedVariables false in
theorem orddF_A (xsign : List UInt8) (xc : Int) (P : (Int × Int × List UInt8) → Prop) (h : P (orddM xsign xc)) : orddF xsign xc (fun k0 => P k0) := by
  unfold orddM at h
  unfold orddF
  refine ⟨fun hc0 => ?_, fun hc0 => ?_⟩
  · rw [if_t hc0] at h
    have hd0 := hc0; try simp only [Bool.and_eq_true, Bool.or_eq_true, Bool.and_eq_false_iff, Bool.or_eq_false_iff, Bool.not_eq_true', Bool.not_eq_false', decide_eq_true_eq, decide_eq_false_iff_not, beq_iff_eq, beq_eq_false_iff_ne, ne_eq] at hd0
    exact h
  · rw [if_f hc0] at h
    have hd0 := hc0; try simp only [Bool.and_eq_true, Bool.or_eq_true, Bool.and_eq_false_iff, Bool.or_eq_false_iff, Bool.not_eq_true', Bool.not_eq_false', decide_eq_true_eq, decide_eq_false_iff_not, beq_iff_eq, beq_eq_false_iff_ne, ne_eq] at hd0
    refine ⟨fun hc1 => ?_, fun hc1 => ?_⟩
    · rw [if_t hc1] at h
      have hd1 := hc1; try simp only [Bool.and_eq_true, Bool.or_eq_true, Bool.and_eq_false_iff, Bool.or_eq_false_iff, Bool.not_eq_true', Bool.not_eq_false', decide_eq_true_eq, decide_eq_false_iff_not, beq_iff_eq, beq_eq_false_iff_ne, ne_eq] at hd1
      exact h
    · rw [if_f hc1] at h
      have hd1 := hc1; try simp only [Bool.and_eq_true, Bool.or_eq_true, Bool.and_eq_false_iff, Bool.or_eq_false_iff, Bool.not_eq_true', Bool.not_eq_false', decide_eq_true_eq, decide_eq_false_iff_not, beq_iff_eq, beq_eq_false_iff_ne, ne_eq] at hd1
      refine ⟨fun hc2 => ?_, fun hc2 => ?_⟩
      · rw [if_t hc2] at h
        have hd2 := hc2; try simp only [Bool.and_eq_true, Bool.or_eq_true, Bool.and_eq_false_iff, Bool.or_eq_false_iff, Bool.not_eq_true', Bool.not_eq_false', decide_eq_true_eq, decide_eq_false_iff_not, beq_iff_eq, beq_eq_false_iff_ne, ne_eq] at hd2
        exact h
      · rw [if_f hc2] at h
        have hd2 := hc2; try simp only [Bool.and_eq_true, Bool.or_eq_true, Bool.and_eq_false_iff, Bool.or_eq_false_iff, Bool.not_eq_true', Bool.not_eq_false', decide_eq_true_eq, decide_eq_false_iff_not, beq_iff_eq, beq_eq_false_iff_ne, ne_eq] at hd2
        exact h
theorem ordd_F (xsign : List UInt8) (xc : Int) : orddF xsign xc (fun k0 => k0 = orddM xsign xc) :=
  orddF_A xsign xc (fun z => z = orddM xsign xc) rfl
set_option linter.unusedVariables false in
theorem ordd_c {g : Ghost} (xsign : List UInt8) (xc : Int)  : CallsG Tryd.prog 63 #[.string ⟨⟨xsign⟩⟩, .int .i64 xc] g (.agg #[.int .i64 (orddM xsign xc).1, .int .i64 (orddM xsign xc).2.1, .string ⟨⟨(orddM xsign xc).2.2⟩⟩]) :=
  (ordd_ok xsign xc _ (ordd_F xsign xc)).gives (by rintro g' H' v _ ⟨r0, rfl, rfl, hK⟩; subst hK; rfl)
def unaF (xsign : List UInt8) (xv : Int × Int × List UInt8) (K : (Int × Int × List UInt8) → (List UInt8) → Prop) : Prop :=
  (((xsign == ([33] : List UInt8))) = true → K ((truM (!(truthM ((rightM xv).1, ((rightM xv).2).1, ((rightM xv).2).2)))).1, ((truM (!(truthM ((rightM xv).1, ((rightM xv).2).1, ((rightM xv).2).2)))).2).1, ((truM (!(truthM ((rightM xv).1, ((rightM xv).2).1, ((rightM xv).2).2)))).2).2) ([] : List UInt8)) ∧ (((xsign == ([33] : List UInt8))) = false → ((!(xsign == ([45] : List UInt8))) = true → K (0, 0, ([] : List UInt8)) ([115, 105, 103, 110] : List UInt8)) ∧ ((!(xsign == ([45] : List UInt8))) = false → (((((rightM xv).1) != 2)) = true → K (0, 0, ([] : List UInt8)) ([107, 105, 110, 100] : List UInt8)) ∧ (((((rightM xv).1) != 2)) = false → K (((numM (IntKind.wrap .i64 (0 - (((rightM xv).2).1))) true).1).1, (((numM (IntKind.wrap .i64 (0 - (((rightM xv).2).1))) true).1).2).1, (((numM (IntKind.wrap .i64 (0 - (((rightM xv).2).1))) true).1).2).2) ((numM (IntKind.wrap .i64 (0 - (((rightM xv).2).1))) true).2))))
set_option maxHeartbeats 4000000 in
set_option maxRecDepth 100000 in
set_option linter.unusedVariables false in
theorem una_ok {g : Ghost} (xsign : List UInt8) (xv : Int × Int × List UInt8) (K : (Int × Int × List UInt8) → (List UInt8) → Prop)
    (hF : unaF xsign xv K) : CallsH Tryd.prog 17 #[.string ⟨⟨xsign⟩⟩, .agg #[.int .i64 xv.1, .int .i64 xv.2.1, .string ⟨⟨xv.2.2⟩⟩]] g [] (fun g' H' v => ∃ (r0 : Int × Int × List UInt8), ∃ (r1 : List UInt8), v = .tuple #[.agg #[.int .i64 r0.1, .int .i64 r0.2.1, .string ⟨⟨r0.2.2⟩⟩], .string ⟨⟨r1⟩⟩] ∧ H' = [] ∧ K r0 r1) := by
  refine CallsH.enter 30 [(0, .string ⟨⟨xsign⟩⟩), (1, .agg #[.int .i64 xv.1, .int .i64 xv.2.1, .string ⟨⟨xv.2.2⟩⟩])] Tryd.func17 rfl (by kernel_rfl) (by kernel_rfl) (by kernel_rfl) fun w0 => ?_
  refine Ok.seq ?_
  refine Ok.region ?_
  refine Ok.op rfl (OpOk.box (v := .agg #[.int .i64 xv.1, .int .i64 xv.2.1, .string ⟨⟨xv.2.2⟩⟩]) (cs := #[.int .i64 xv.1, .int .i64 xv.2.1, .string ⟨⟨xv.2.2⟩⟩]) rfl (by kernel_rfl) rfl fun b1 => ?_)
  refine Ok.op rfl (OpOk.alloc (z := .agg #[.int .i64 0, .int .i64 0, .string ⟨⟨([] : List UInt8)⟩⟩]) (cs := #[.int .i64 0, .int .i64 0, .string ⟨⟨([] : List UInt8)⟩⟩]) (by kernel_rfl) (by kernel_rfl) rfl fun b2 => ?_)
  refine Ok.batch 1 [(0, .string ⟨⟨xsign⟩⟩), (3, .pointer (some ⟨b1, 0, none⟩)), (4, .pointer (some ⟨b2, 0, none⟩))] (by kernel_rfl) ?_
  refine Ok.nil ?_
  refine Ok.thenN ?_
  refine Ok.seq ?_
  refine Ok.region ?_
  refine Ok.op rfl (OpOk.step (v := .agg #[.int .i64 xv.1, .int .i64 xv.2.1, .string ⟨⟨xv.2.2⟩⟩]) (Yields.loadAgg 1 3 #[.int .i64 xv.1, .int .i64 xv.2.1, .string ⟨⟨xv.2.2⟩⟩] rfl rfl Tryd.underlying31 rfl (by kernel_rfl) (by kernel_rfl) (by kernel_rfl)) rfl rfl ?_)
  refine Ok.op rfl (OpOk.callG (v := .agg #[.int .i64 ((rightM xv).1), .int .i64 (((rightM xv).2).1), .string ⟨⟨((rightM xv).2).2⟩⟩]) (enters (by kernel_rfl) (fun _ => by kernel_rfl)) (fun W hW => right_c xv) rfl ?_)
  refine Ok.op rfl (OpOk.store (k := 3) (v := .agg #[.int .i64 ((rightM xv).1), .int .i64 (((rightM xv).2).1), .string ⟨⟨((rightM xv).2).2⟩⟩]) (H' := [.blk b2 (.cells #[.int .i64 0, .int .i64 0, .string ⟨⟨([] : List UInt8)⟩⟩] 31), .blk b1 (.cells #[.int .i64 ((rightM xv).1), .int .i64 (((rightM xv).2).1), .string ⟨⟨((rightM xv).2).2⟩⟩] 31)]) 1 rfl rfl rfl (by kernel_rfl) (by kernel_rfl) (by kernel_rfl) (by kernel_rfl) (by kernel_rfl) ?_)
  refine Ok.nil ?_
  refine Ok.thenN ?_
  refine Ok.seq ?_
  refine Ok.block ?_
  refine Ok.seq ?_
  refine Ok.region ?_
  refine Ok.batch 1 [(0, .string ⟨⟨xsign⟩⟩), (3, .pointer (some ⟨b1, 0, none⟩)), (4, .pointer (some ⟨b2, 0, none⟩)), (9, .string ⟨⟨xsign⟩⟩)] (by kernel_rfl) ?_
  refine Ok.op rfl (OpOk.step (v := .bool (xsign == ([33] : List UInt8))) (Yields.strCmp (f := .eql) (a := xsign) (b := ([33] : List UInt8)) (by kernel_rfl) (by kernel_rfl) rfl) rfl rfl ?_)
  refine Ok.batch 1 [(0, .string ⟨⟨xsign⟩⟩), (3, .pointer (some ⟨b1, 0, none⟩)), (4, .pointer (some ⟨b2, 0, none⟩)), (8, .bool (xsign == ([33] : List UInt8)))] (by kernel_rfl) ?_
  refine Ok.nil ?_
  refine Ok.thenN ?_
  refine Ok.cond (b := (xsign == ([33] : List UInt8))) rfl (fun hc3 => ?_) (fun hc3 => ?_)
  · replace hF := hF.1 hc3
    refine Ok.seq ?_
    refine Ok.region ?_
    refine Ok.op rfl (OpOk.step (v := .agg #[.int .i64 ((rightM xv).1), .int .i64 (((rightM xv).2).1), .string ⟨⟨((rightM xv).2).2⟩⟩]) (Yields.loadAgg 1 3 #[.int .i64 ((rightM xv).1), .int .i64 (((rightM xv).2).1), .string ⟨⟨((rightM xv).2).2⟩⟩] rfl rfl Tryd.underlying31 rfl (by kernel_rfl) (by kernel_rfl) (by kernel_rfl)) rfl rfl ?_)
    refine Ok.op rfl (OpOk.callG (v := .bool (truthM ((rightM xv).1, ((rightM xv).2).1, ((rightM xv).2).2))) (enters (by kernel_rfl) (fun _ => by kernel_rfl)) (fun W hW => truth_c ((rightM xv).1, ((rightM xv).2).1, ((rightM xv).2).2)) rfl ?_)
    refine Ok.batch 1 [(4, .pointer (some ⟨b2, 0, none⟩)), (13, .bool (!(truthM ((rightM xv).1, ((rightM xv).2).1, ((rightM xv).2).2))))] (by kernel_rfl) ?_
    refine Ok.op rfl (OpOk.callG (v := .agg #[.int .i64 ((truM (!(truthM ((rightM xv).1, ((rightM xv).2).1, ((rightM xv).2).2)))).1), .int .i64 (((truM (!(truthM ((rightM xv).1, ((rightM xv).2).1, ((rightM xv).2).2)))).2).1), .string ⟨⟨((truM (!(truthM ((rightM xv).1, ((rightM xv).2).1, ((rightM xv).2).2)))).2).2⟩⟩]) (enters (by kernel_rfl) (fun _ => by kernel_rfl)) (fun W hW => tru_c (!(truthM ((rightM xv).1, ((rightM xv).2).1, ((rightM xv).2).2)))) rfl ?_)
    refine Ok.op rfl (OpOk.store (k := 3) (v := .agg #[.int .i64 ((truM (!(truthM ((rightM xv).1, ((rightM xv).2).1, ((rightM xv).2).2)))).1), .int .i64 (((truM (!(truthM ((rightM xv).1, ((rightM xv).2).1, ((rightM xv).2).2)))).2).1), .string ⟨⟨((truM (!(truthM ((rightM xv).1, ((rightM xv).2).1, ((rightM xv).2).2)))).2).2⟩⟩]) (H' := [.blk b2 (.cells #[.int .i64 ((truM (!(truthM ((rightM xv).1, ((rightM xv).2).1, ((rightM xv).2).2)))).1), .int .i64 (((truM (!(truthM ((rightM xv).1, ((rightM xv).2).1, ((rightM xv).2).2)))).2).1), .string ⟨⟨((truM (!(truthM ((rightM xv).1, ((rightM xv).2).1, ((rightM xv).2).2)))).2).2⟩⟩] 31), .blk b1 (.cells #[.int .i64 ((rightM xv).1), .int .i64 (((rightM xv).2).1), .string ⟨⟨((rightM xv).2).2⟩⟩] 31)]) 0 rfl rfl rfl (by kernel_rfl) (by kernel_rfl) (by kernel_rfl) (by kernel_rfl) (by kernel_rfl) ?_)
    refine Ok.batch 1 [(4, .pointer (some ⟨b2, 0, none⟩)), (5, .string ⟨⟨([] : List UInt8)⟩⟩)] (by kernel_rfl) ?_
    refine Ok.nil ?_
    refine Ok.thenN ?_
    refine Ok.ret ?_
    refine Ok.blockR ?_
    refine Ok.thenR ?_
    exact Ok.resP (vs := [.agg #[.int .i64 ((truM (!(truthM ((rightM xv).1, ((rightM xv).2).1, ((rightM xv).2).2)))).1), .int .i64 (((truM (!(truthM ((rightM xv).1, ((rightM xv).2).1, ((rightM xv).2).2)))).2).1), .string ⟨⟨((truM (!(truthM ((rightM xv).1, ((rightM xv).2).1, ((rightM xv).2).2)))).2).2⟩⟩], .string ⟨⟨([] : List UInt8)⟩⟩]) [] [] (by decide) rfl (.inl rfl) rfl (.cons (.cellAgg 0 3 #[.int .i64 ((truM (!(truthM ((rightM xv).1, ((rightM xv).2).1, ((rightM xv).2).2)))).1), .int .i64 (((truM (!(truthM ((rightM xv).1, ((rightM xv).2).1, ((rightM xv).2).2)))).2).1), .string ⟨⟨((truM (!(truthM ((rightM xv).1, ((rightM xv).2).1, ((rightM xv).2).2)))).2).2⟩⟩] rfl rfl Tryd.underlying31 rfl (by kernel_rfl) (by kernel_rfl) (by kernel_rfl)) (.cons (.tmp rfl) .nil)) (Gext.refl w0 g) ⟨((truM (!(truthM ((rightM xv).1, ((rightM xv).2).1, ((rightM xv).2).2)))).1, ((truM (!(truthM ((rightM xv).1, ((rightM xv).2).1, ((rightM xv).2).2)))).2).1, ((truM (!(truthM ((rightM xv).1, ((rightM xv).2).1, ((rightM xv).2).2)))).2).2), ([] : List UInt8), rfl, rfl, hF⟩
  · replace hF := hF.2 hc3
    refine Ok.seq ?_
    refine Ok.region ?_
    refine Ok.batch 1 [(3, .pointer (some ⟨b1, 0, none⟩)), (4, .pointer (some ⟨b2, 0, none⟩)), (16, .string ⟨⟨xsign⟩⟩)] (by kernel_rfl) ?_
    refine Ok.op rfl (OpOk.step (v := .bool (!(xsign == ([45] : List UInt8)))) (Yields.strCmp (f := .neq) (a := xsign) (b := ([45] : List UInt8)) (by kernel_rfl) (by kernel_rfl) rfl) rfl rfl ?_)
    refine Ok.batch 1 [(3, .pointer (some ⟨b1, 0, none⟩)), (4, .pointer (some ⟨b2, 0, none⟩)), (15, .bool (!(xsign == ([45] : List UInt8))))] (by kernel_rfl) ?_
    refine Ok.nil ?_
    refine Ok.thenN ?_
    refine Ok.cond (b := !(xsign == ([45] : List UInt8))) rfl (fun hc4 => ?_) (fun hc4 => ?_)
    · replace hF := hF.1 hc4
      refine Ok.seq ?_
      refine Ok.region ?_
      refine Ok.batch 1 [(4, .pointer (some ⟨b2, 0, none⟩)), (18, .agg #[.int .i64 0, .int .i64 0, .string ⟨⟨([] : List UInt8)⟩⟩])] (by kernel_rfl) ?_
      refine Ok.op rfl (OpOk.store (k := 3) (v := .agg #[.int .i64 0, .int .i64 0, .string ⟨⟨([] : List UInt8)⟩⟩]) (H' := [.blk b2 (.cells #[.int .i64 0, .int .i64 0, .string ⟨⟨([] : List UInt8)⟩⟩] 31), .blk b1 (.cells #[.int .i64 ((rightM xv).1), .int .i64 (((rightM xv).2).1), .string ⟨⟨((rightM xv).2).2⟩⟩] 31)]) 0 rfl rfl rfl (by kernel_rfl) (by kernel_rfl) (by kernel_rfl) (by kernel_rfl) (by kernel_rfl) ?_)
      refine Ok.batch 1 [(4, .pointer (some ⟨b2, 0, none⟩)), (5, .string ⟨⟨([115, 105, 103, 110] : List UInt8)⟩⟩)] (by kernel_rfl) ?_
      refine Ok.nil ?_
      refine Ok.thenN ?_
      refine Ok.ret ?_
      refine Ok.blockR ?_
      refine Ok.thenR ?_
      exact Ok.resP (vs := [.agg #[.int .i64 0, .int .i64 0, .string ⟨⟨([] : List UInt8)⟩⟩], .string ⟨⟨([115, 105, 103, 110] : List UInt8)⟩⟩]) [] [] (by decide) rfl (.inl rfl) rfl (.cons (.cellAgg 0 3 #[.int .i64 0, .int .i64 0, .string ⟨⟨([] : List UInt8)⟩⟩] rfl rfl Tryd.underlying31 rfl (by kernel_rfl) (by kernel_rfl) (by kernel_rfl)) (.cons (.tmp rfl) .nil)) (Gext.refl w0 g) ⟨(0, 0, ([] : List UInt8)), ([115, 105, 103, 110] : List UInt8), rfl, rfl, hF⟩
    · replace hF := hF.2 hc4
      refine Ok.seq ?_
      refine Ok.region ?_
      refine Ok.batch 1 [(3, .pointer (some ⟨b1, 0, none⟩)), (4, .pointer (some ⟨b2, 0, none⟩)), (20, .pointer (some ⟨b1, 0, none⟩))] (by kernel_rfl) ?_
      refine Ok.op rfl (OpOk.step (v := .int .i64 ((rightM xv).1)) (Yields.load 1 rfl rfl Tryd.underlying3 rfl (by kernel_rfl)) rfl rfl ?_)
      refine Ok.batch 2 [(3, .pointer (some ⟨b1, 0, none⟩)), (4, .pointer (some ⟨b2, 0, none⟩)), (19, .bool (((rightM xv).1) != 2))] (by kernel_rfl) ?_
      refine Ok.nil ?_
      refine Ok.thenN ?_
      refine Ok.cond (b := (((rightM xv).1) != 2)) rfl (fun hc5 => ?_) (fun hc5 => ?_)
      · replace hF := hF.1 hc5
        refine Ok.seq ?_
        refine Ok.region ?_
        refine Ok.batch 1 [(4, .pointer (some ⟨b2, 0, none⟩)), (23, .agg #[.int .i64 0, .int .i64 0, .string ⟨⟨([] : List UInt8)⟩⟩])] (by kernel_rfl) ?_
        refine Ok.op rfl (OpOk.store (k := 3) (v := .agg #[.int .i64 0, .int .i64 0, .string ⟨⟨([] : List UInt8)⟩⟩]) (H' := [.blk b2 (.cells #[.int .i64 0, .int .i64 0, .string ⟨⟨([] : List UInt8)⟩⟩] 31), .blk b1 (.cells #[.int .i64 ((rightM xv).1), .int .i64 (((rightM xv).2).1), .string ⟨⟨((rightM xv).2).2⟩⟩] 31)]) 0 rfl rfl rfl (by kernel_rfl) (by kernel_rfl) (by kernel_rfl) (by kernel_rfl) (by kernel_rfl) ?_)
        refine Ok.batch 1 [(4, .pointer (some ⟨b2, 0, none⟩)), (5, .string ⟨⟨([107, 105, 110, 100] : List UInt8)⟩⟩)] (by kernel_rfl) ?_
        refine Ok.nil ?_
        refine Ok.thenN ?_
        refine Ok.ret ?_
        refine Ok.blockR ?_
        refine Ok.thenR ?_
        exact Ok.resP (vs := [.agg #[.int .i64 0, .int .i64 0, .string ⟨⟨([] : List UInt8)⟩⟩], .string ⟨⟨([107, 105, 110, 100] : List UInt8)⟩⟩]) [] [] (by decide) rfl (.inl rfl) rfl (.cons (.cellAgg 0 3 #[.int .i64 0, .int .i64 0, .string ⟨⟨([] : List UInt8)⟩⟩] rfl rfl Tryd.underlying31 rfl (by kernel_rfl) (by kernel_rfl) (by kernel_rfl)) (.cons (.tmp rfl) .nil)) (Gext.refl w0 g) ⟨(0, 0, ([] : List UInt8)), ([107, 105, 110, 100] : List UInt8), rfl, rfl, hF⟩
      · replace hF := hF.2 hc5
        refine Ok.skip ?_
        refine Ok.blockN ?_
        refine Ok.thenN ?_
        refine Ok.seq ?_
        refine Ok.region ?_
        refine Ok.batch 1 [(4, .pointer (some ⟨b2, 0, none⟩)), (24, .pointer (some ⟨b1, 1, none⟩))] (by kernel_rfl) ?_
        refine Ok.op rfl (OpOk.step (v := .int .i64 (((rightM xv).2).1)) (Yields.load 1 rfl rfl Tryd.underlying3 rfl (by kernel_rfl)) rfl rfl ?_)
        refine Ok.batch 1 [(4, .pointer (some ⟨b2, 0, none⟩)), (26, .int .i64 (IntKind.wrap .i64 (0 - (((rightM xv).2).1))))] (by kernel_rfl) ?_
        refine Ok.op rfl (OpOk.callG (v := .tuple #[.agg #[.int .i64 (((numM (IntKind.wrap .i64 (0 - (((rightM xv).2).1))) true).1).1), .int .i64 ((((numM (IntKind.wrap .i64 (0 - (((rightM xv).2).1))) true).1).2).1), .string ⟨⟨(((numM (IntKind.wrap .i64 (0 - (((rightM xv).2).1))) true).1).2).2⟩⟩], .string ⟨⟨(numM (IntKind.wrap .i64 (0 - (((rightM xv).2).1))) true).2⟩⟩]) (enters (by kernel_rfl) (fun _ => by kernel_rfl)) (fun W hW => num_c (IntKind.wrap .i64 (0 - (((rightM xv).2).1))) true) rfl ?_)
        refine Ok.batch 2 [(4, .pointer (some ⟨b2, 0, none⟩)), (28, .agg #[.int .i64 (((numM (IntKind.wrap .i64 (0 - (((rightM xv).2).1))) true).1).1), .int .i64 ((((numM (IntKind.wrap .i64 (0 - (((rightM xv).2).1))) true).1).2).1), .string ⟨⟨(((numM (IntKind.wrap .i64 (0 - (((rightM xv).2).1))) true).1).2).2⟩⟩]), (29, .string ⟨⟨(numM (IntKind.wrap .i64 (0 - (((rightM xv).2).1))) true).2⟩⟩)] (by kernel_rfl) ?_
        refine Ok.op rfl (OpOk.store (k := 3) (v := .agg #[.int .i64 (((numM (IntKind.wrap .i64 (0 - (((rightM xv).2).1))) true).1).1), .int .i64 ((((numM (IntKind.wrap .i64 (0 - (((rightM xv).2).1))) true).1).2).1), .string ⟨⟨(((numM (IntKind.wrap .i64 (0 - (((rightM xv).2).1))) true).1).2).2⟩⟩]) (H' := [.blk b2 (.cells #[.int .i64 (((numM (IntKind.wrap .i64 (0 - (((rightM xv).2).1))) true).1).1), .int .i64 ((((numM (IntKind.wrap .i64 (0 - (((rightM xv).2).1))) true).1).2).1), .string ⟨⟨(((numM (IntKind.wrap .i64 (0 - (((rightM xv).2).1))) true).1).2).2⟩⟩] 31), .blk b1 (.cells #[.int .i64 ((rightM xv).1), .int .i64 (((rightM xv).2).1), .string ⟨⟨((rightM xv).2).2⟩⟩] 31)]) 0 rfl rfl rfl (by kernel_rfl) (by kernel_rfl) (by kernel_rfl) (by kernel_rfl) (by kernel_rfl) ?_)
        refine Ok.batch 1 [(4, .pointer (some ⟨b2, 0, none⟩)), (5, .string ⟨⟨(numM (IntKind.wrap .i64 (0 - (((rightM xv).2).1))) true).2⟩⟩)] (by kernel_rfl) ?_
        refine Ok.nil ?_
        refine Ok.thenN ?_
        refine Ok.ret ?_
        exact Ok.resP (vs := [.agg #[.int .i64 (((numM (IntKind.wrap .i64 (0 - (((rightM xv).2).1))) true).1).1), .int .i64 ((((numM (IntKind.wrap .i64 (0 - (((rightM xv).2).1))) true).1).2).1), .string ⟨⟨(((numM (IntKind.wrap .i64 (0 - (((rightM xv).2).1))) true).1).2).2⟩⟩], .string ⟨⟨(numM (IntKind.wrap .i64 (0 - (((rightM xv).2).1))) true).2⟩⟩]) [] [] (by decide) rfl (.inl rfl) rfl (.cons (.cellAgg 0 3 #[.int .i64 (((numM (IntKind.wrap .i64 (0 - (((rightM xv).2).1))) true).1).1), .int .i64 ((((numM (IntKind.wrap .i64 (0 - (((rightM xv).2).1))) true).1).2).1), .string ⟨⟨(((numM (IntKind.wrap .i64 (0 - (((rightM xv).2).1))) true).1).2).2⟩⟩] rfl rfl Tryd.underlying31 rfl (by kernel_rfl) (by kernel_rfl) (by kernel_rfl)) (.cons (.tmp rfl) .nil)) (Gext.refl w0 g) ⟨(((numM (IntKind.wrap .i64 (0 - (((rightM xv).2).1))) true).1).1, (((numM (IntKind.wrap .i64 (0 - (((rightM xv).2).1))) true).1).2).1, (((numM (IntKind.wrap .i64 (0 - (((rightM xv).2).1))) true).1).2).2), ((numM (IntKind.wrap .i64 (0 - (((rightM xv).2).1))) true).2), rfl, rfl, hF⟩
def unaM (xsign : List UInt8) (xv : Int × Int × List UInt8) : (Int × Int × List UInt8) × List UInt8 := (if (xsign == ([33] : List UInt8)) = true then (((truM (!(truthM ((rightM xv).1, ((rightM xv).2).1, ((rightM xv).2).2)))).1, ((truM (!(truthM ((rightM xv).1, ((rightM xv).2).1, ((rightM xv).2).2)))).2).1, ((truM (!(truthM ((rightM xv).1, ((rightM xv).2).1, ((rightM xv).2).2)))).2).2), ([] : List UInt8)) else (if (!(xsign == ([45] : List UInt8))) = true then ((0, 0, ([] : List UInt8)), ([115, 105, 103, 110] : List UInt8)) else (if (((rightM xv).1) != 2) = true then ((0, 0, ([] : List UInt8)), ([107, 105, 110, 100] : List UInt8)) else ((((numM (IntKind.wrap .i64 (0 - (((rightM xv).2).1))) true).1).1, (((numM (IntKind.wrap .i64 (0 - (((rightM xv).2).1))) true).1).2).1, (((numM (IntKind.wrap .i64 (0 - (((rightM xv).2).1))) true).1).2).2), (numM (IntKind.wrap .i64 (0 - (((rightM xv).2).1))) true).2))))
set_option linter.unusedSimpArgs false in
set_option linter.unusedVariables false in
theorem unaF_A (xsign : List UInt8) (xv : Int × Int × List UInt8) (P : (Int × Int × List UInt8) × List UInt8 → Prop) (h : P (unaM xsign xv)) : unaF xsign xv (fun k0 k1 => P (k0, k1)) := by
  unfold unaM at h
  unfold unaF
  refine ⟨fun hc0 => ?_, fun hc0 => ?_⟩
  · rw [if_t hc0] at h
    have hd0 := hc0; try simp only [Bool.and_eq_true, Bool.or_eq_true, Bool.and_eq_false_iff, Bool.or_eq_false_iff, Bool.not_eq_true', Bool.not_eq_false', decide_eq_true_eq, decide_eq_false_iff_not, beq_iff_eq, beq_eq_false_iff_ne, ne_eq] at hd0
    exact h
  · rw [if_f hc0] at h
    have hd0 := hc0; try simp only [Bool.and_eq_true, Bool.or_eq_true, Bool.and_eq_false_iff, Bool.or_eq_false_iff, Bool.not_eq_true', Bool.not_eq_false', decide_eq_true_eq, decide_eq_false_iff_not, beq_iff_eq, beq_eq_false_iff_ne, ne_eq] at hd0
    refine ⟨fun hc1 => ?_, fun hc1 => ?_⟩
    · rw [if_t hc1] at h
      have hd1 := hc1; try simp only [Bool.and_eq_true, Bool.or_eq_true, Bool.and_eq_false_iff, Bool.or_eq_false_iff, Bool.not_eq_true', Bool.not_eq_false', decide_eq_true_eq, decide_eq_false_iff_not, beq_iff_eq, beq_eq_false_iff_ne, ne_eq] at hd1
      exact h
    · rw [if_f hc1] at h
      have hd1 := hc1; try simp only [Bool.and_eq_true, Bool.or_eq_true, Bool.and_eq_false_iff, Bool.or_eq_false_iff, Bool.not_eq_true', Bool.not_eq_false', decide_eq_true_eq, decide_eq_false_iff_not, beq_iff_eq, beq_eq_false_iff_ne, ne_eq] at hd1
      refine ⟨fun hc2 => ?_, fun hc2 => ?_⟩
      · rw [if_t hc2] at h
        exact h
      · rw [if_f hc2] at h
        exact h
theorem una_F (xsign : List UInt8) (xv : Int × Int × List UInt8) : unaF xsign xv (fun k0 k1 => (k0, k1) = unaM xsign xv) :=
  unaF_A xsign xv (fun z => z = unaM xsign xv) rfl
set_option linter.unusedVariables false in
theorem una_c {g : Ghost} (xsign : List UInt8) (xv : Int × Int × List UInt8)  : CallsG Tryd.prog 17 #[.string ⟨⟨xsign⟩⟩, .agg #[.int .i64 xv.1, .int .i64 xv.2.1, .string ⟨⟨xv.2.2⟩⟩]] g (.tuple #[.agg #[.int .i64 ((unaM xsign xv).1).1, .int .i64 ((unaM xsign xv).1).2.1, .string ⟨⟨((unaM xsign xv).1).2.2⟩⟩], .string ⟨⟨((unaM xsign xv).2)⟩⟩]) :=
  (una_ok xsign xv _ (una_F xsign xv)).gives (by rintro g' H' v _ ⟨r0, r1, rfl, rfl, hK⟩; obtain ⟨rfl, rfl⟩ : r0 = (unaM xsign xv).1 ∧ r1 = (unaM xsign xv).2 := ⟨congrArg (fun z => z.1) hK, congrArg (fun z => z.2) hK⟩; rfl)
def u64P (x y : Int) : Prop := (0 ≤ x ∧ x < 18446744073709551616) ∧ 0 ≤ y ∧ y < 18446744073709551616
def mulS (x y : Int) : Int × Int := (x * y / 18446744073709551616, x * y % 18446744073709551616)
theorem mul_c {g : Ghost} (x y : Int) (hp : u64P x y) : CallsG Tryd.prog 188 #[.int .u64 x, .int .u64 y] g (.tuple #[.int .u64 (mulS x y).1, .int .u64 (mulS x y).2]) := fun W hW => by
  obtain ⟨a, rfl⟩ : ∃ a : Nat, x = a := ⟨x.toNat, by have := hp.1; omega⟩
  obtain ⟨b, rfl⟩ : ∃ b : Nat, y = b := ⟨y.toNat, by have := hp.2; omega⟩
  refine (Tryd.bits_Mul64 a b (by have := hp.1; omega) (by have := hp.2; omega) W).mono fun e W' ⟨he, hw⟩ => ?_
  subst hw
  exact ⟨by rw [he]; rfl, Go.RowKit.Below.refl _ _⟩
theorem cmp_c {g : Ghost} (a b : List UInt8) : CallsG Tryd.prog 65 #[.string ⟨⟨a⟩⟩, .string ⟨⟨b⟩⟩] g (.int .i64 (Lib.compareBytes a b)) := fun W hW =>
  (Tryd.strings_Compare ⟨⟨a⟩⟩ ⟨⟨b⟩⟩ W).mono fun e W' ⟨he, hw⟩ => ⟨he, by subst hw; exact Go.RowKit.Below.refl _ _⟩
def numB (x : Int) : Prop := -9007199254740992 ≤ x ∧ x ≤ 9007199254740992
def prodP (a b : Int) : Prop := numB a ∧ numB b
theorem wrap_u64P (a b : Int) : u64P (IntKind.wrap .u64 a) (IntKind.wrap .u64 b) := by
  unfold u64P
  rw [IntKind.wrap_u64, IntKind.wrap_u64]
  omega
def prodF (xa : Int) (xb : Int) (K : Int → Bool → Prop) : Prop :=
  u64P (IntKind.wrap .u64 (if xa < (IntKind.wrap .i64 (0 - xa)) then (IntKind.wrap .i64 (0 - xa)) else xa)) (IntKind.wrap .u64 (if xb < (IntKind.wrap .i64 (0 - xb)) then (IntKind.wrap .i64 (0 - xb)) else xb)) ∧ ((((((mulS (IntKind.wrap .u64 (if xa < (IntKind.wrap .i64 (0 - xa)) then (IntKind.wrap .i64 (0 - xa)) else xa)) (IntKind.wrap .u64 (if xb < (IntKind.wrap .i64 (0 - xb)) then (IntKind.wrap .i64 (0 - xb)) else xb))).1) != 0) || (decide (((mulS (IntKind.wrap .u64 (if xa < (IntKind.wrap .i64 (0 - xa)) then (IntKind.wrap .i64 (0 - xa)) else xa)) (IntKind.wrap .u64 (if xb < (IntKind.wrap .i64 (0 - xb)) then (IntKind.wrap .i64 (0 - xb)) else xb))).2) > 9007199254740992)))) = true → K 0 false) ∧ ((((((mulS (IntKind.wrap .u64 (if xa < (IntKind.wrap .i64 (0 - xa)) then (IntKind.wrap .i64 (0 - xa)) else xa)) (IntKind.wrap .u64 (if xb < (IntKind.wrap .i64 (0 - xb)) then (IntKind.wrap .i64 (0 - xb)) else xb))).1) != 0) || (decide (((mulS (IntKind.wrap .u64 (if xa < (IntKind.wrap .i64 (0 - xa)) then (IntKind.wrap .i64 (0 - xa)) else xa)) (IntKind.wrap .u64 (if xb < (IntKind.wrap .i64 (0 - xb)) then (IntKind.wrap .i64 (0 - xb)) else xb))).2) > 9007199254740992)))) = false → ((!(decide (xa < 0) == decide (xb < 0))) = true → K (IntKind.wrap .i64 (0 - (IntKind.wrap .i64 ((mulS (IntKind.wrap .u64 (if xa < (IntKind.wrap .i64 (0 - xa)) then (IntKind.wrap .i64 (0 - xa)) else xa)) (IntKind.wrap .u64 (if xb < (IntKind.wrap .i64 (0 - xb)) then (IntKind.wrap .i64 (0 - xb)) else xb))).2)))) true) ∧ ((!(decide (xa < 0) == decide (xb < 0))) = false → K (IntKind.wrap .i64 ((mulS (IntKind.wrap .u64 (if xa < (IntKind.wrap .i64 (0 - xa)) then (IntKind.wrap .i64 (0 - xa)) else xa)) (IntKind.wrap .u64 (if xb < (IntKind.wrap .i64 (0 - xb)) then (IntKind.wrap .i64 (0 - xb)) else xb))).2)) true))
set_option maxHeartbeats 4000000 in
set_option maxRecDepth 100000 in
set_option linter.unusedVariables false in
theorem prod_ok {g : Ghost} (xa : Int) (xb : Int) (K : Int → Bool → Prop)
    (hF : prodF xa xb K) : CallsH Tryd.prog 130 #[.int .i64 xa, .int .i64 xb] g [] (fun g' H' v => ∃ (r0 : Int), ∃ (r1 : Bool), v = .tuple #[.int .i64 r0, .bool r1] ∧ H' = [] ∧ K r0 r1) := by
  refine CallsH.enter 38 [(0, .int .i64 xa), (1, .int .i64 xb)] Tryd.func130 rfl (by kernel_rfl) (by kernel_rfl) (by kernel_rfl) fun w0 => ?_
  refine Ok.seq ?_
  refine Ok.region ?_
  refine Ok.batch 2 [(0, .int .i64 xa), (1, .int .i64 xb)] (by kernel_rfl) ?_
  refine Ok.nil ?_
  refine Ok.thenN ?_
  refine Ok.seq ?_
  refine Ok.region ?_
  refine Ok.batch 10 [(0, .int .i64 xa), (1, .int .i64 xb), (13, .int .u64 (IntKind.wrap .u64 (if xa < (IntKind.wrap .i64 (0 - xa)) then (IntKind.wrap .i64 (0 - xa)) else xa))), (18, .int .u64 (IntKind.wrap .u64 (if xb < (IntKind.wrap .i64 (0 - xb)) then (IntKind.wrap .i64 (0 - xb)) else xb)))] (by kernel_rfl) ?_
  obtain ⟨hp1, hF⟩ := hF
  refine Ok.op rfl (OpOk.callG (v := .tuple #[.int .u64 ((mulS (IntKind.wrap .u64 (if xa < (IntKind.wrap .i64 (0 - xa)) then (IntKind.wrap .i64 (0 - xa)) else xa)) (IntKind.wrap .u64 (if xb < (IntKind.wrap .i64 (0 - xb)) then (IntKind.wrap .i64 (0 - xb)) else xb))).1), .int .u64 ((mulS (IntKind.wrap .u64 (if xa < (IntKind.wrap .i64 (0 - xa)) then (IntKind.wrap .i64 (0 - xa)) else xa)) (IntKind.wrap .u64 (if xb < (IntKind.wrap .i64 (0 - xb)) then (IntKind.wrap .i64 (0 - xb)) else xb))).2)]) (enters (by kernel_rfl) (fun _ => by kernel_rfl)) (fun W hW => mul_c (IntKind.wrap .u64 (if xa < (IntKind.wrap .i64 (0 - xa)) then (IntKind.wrap .i64 (0 - xa)) else xa)) (IntKind.wrap .u64 (if xb < (IntKind.wrap .i64 (0 - xb)) then (IntKind.wrap .i64 (0 - xb)) else xb)) hp1) rfl ?_)
  refine Ok.batch 5 [(0, .int .i64 xa), (1, .int .i64 xb), (6, .int .u64 ((mulS (IntKind.wrap .u64 (if xa < (IntKind.wrap .i64 (0 - xa)) then (IntKind.wrap .i64 (0 - xa)) else xa)) (IntKind.wrap .u64 (if xb < (IntKind.wrap .i64 (0 - xb)) then (IntKind.wrap .i64 (0 - xb)) else xb))).1)), (7, .int .u64 ((mulS (IntKind.wrap .u64 (if xa < (IntKind.wrap .i64 (0 - xa)) then (IntKind.wrap .i64 (0 - xa)) else xa)) (IntKind.wrap .u64 (if xb < (IntKind.wrap .i64 (0 - xb)) then (IntKind.wrap .i64 (0 - xb)) else xb))).2))] (by kernel_rfl) ?_
  refine Ok.nil ?_
  refine Ok.thenN ?_
  refine Ok.seq ?_
  refine Ok.seq ?_
  refine Ok.region ?_
  refine Ok.batch 3 [(0, .int .i64 xa), (1, .int .i64 xb), (7, .int .u64 ((mulS (IntKind.wrap .u64 (if xa < (IntKind.wrap .i64 (0 - xa)) then (IntKind.wrap .i64 (0 - xa)) else xa)) (IntKind.wrap .u64 (if xb < (IntKind.wrap .i64 (0 - xb)) then (IntKind.wrap .i64 (0 - xb)) else xb))).2)), (24, .bool (((mulS (IntKind.wrap .u64 (if xa < (IntKind.wrap .i64 (0 - xa)) then (IntKind.wrap .i64 (0 - xa)) else xa)) (IntKind.wrap .u64 (if xb < (IntKind.wrap .i64 (0 - xb)) then (IntKind.wrap .i64 (0 - xb)) else xb))).1) != 0))] (by kernel_rfl) ?_
  refine Ok.midway 3 [(0, .int .i64 xa), (1, .int .i64 xb), (7, .int .u64 ((mulS (IntKind.wrap .u64 (if xa < (IntKind.wrap .i64 (0 - xa)) then (IntKind.wrap .i64 (0 - xa)) else xa)) (IntKind.wrap .u64 (if xb < (IntKind.wrap .i64 (0 - xb)) then (IntKind.wrap .i64 (0 - xb)) else xb))).2)), (27, .bool ((((mulS (IntKind.wrap .u64 (if xa < (IntKind.wrap .i64 (0 - xa)) then (IntKind.wrap .i64 (0 - xa)) else xa)) (IntKind.wrap .u64 (if xb < (IntKind.wrap .i64 (0 - xb)) then (IntKind.wrap .i64 (0 - xb)) else xb))).1) != 0) || (decide (((mulS (IntKind.wrap .u64 (if xa < (IntKind.wrap .i64 (0 - xa)) then (IntKind.wrap .i64 (0 - xa)) else xa)) (IntKind.wrap .u64 (if xb < (IntKind.wrap .i64 (0 - xb)) then (IntKind.wrap .i64 (0 - xb)) else xb))).2) > 9007199254740992))))] (fun hR2 => ?_) ?_
  · refine Ok.boolAt 24 ((((mulS (IntKind.wrap .u64 (if xa < (IntKind.wrap .i64 (0 - xa)) then (IntKind.wrap .i64 (0 - xa)) else xa)) (IntKind.wrap .u64 (if xb < (IntKind.wrap .i64 (0 - xb)) then (IntKind.wrap .i64 (0 - xb)) else xb))).1) != 0)) rfl (fun hc3 => ?_) (fun hc3 => ?_)
    · skip
      refine Ok.batch 3 [(0, .int .i64 xa), (1, .int .i64 xb), (7, .int .u64 ((mulS (IntKind.wrap .u64 (if xa < (IntKind.wrap .i64 (0 - xa)) then (IntKind.wrap .i64 (0 - xa)) else xa)) (IntKind.wrap .u64 (if xb < (IntKind.wrap .i64 (0 - xb)) then (IntKind.wrap .i64 (0 - xb)) else xb))).2)), (27, .bool true)] (by kernel_rfl) ?_
      refine Ok.reval 27 rfl (show (.bool true : Value) = .bool ((((mulS (IntKind.wrap .u64 (if xa < (IntKind.wrap .i64 (0 - xa)) then (IntKind.wrap .i64 (0 - xa)) else xa)) (IntKind.wrap .u64 (if xb < (IntKind.wrap .i64 (0 - xb)) then (IntKind.wrap .i64 (0 - xb)) else xb))).1) != 0) || (decide (((mulS (IntKind.wrap .u64 (if xa < (IntKind.wrap .i64 (0 - xa)) then (IntKind.wrap .i64 (0 - xa)) else xa)) (IntKind.wrap .u64 (if xb < (IntKind.wrap .i64 (0 - xb)) then (IntKind.wrap .i64 (0 - xb)) else xb))).2) > 9007199254740992))) from congrArg Value.bool (mor_t hc3)) ?_
      refine Ok.batch 0 [(0, .int .i64 xa), (1, .int .i64 xb), (7, .int .u64 ((mulS (IntKind.wrap .u64 (if xa < (IntKind.wrap .i64 (0 - xa)) then (IntKind.wrap .i64 (0 - xa)) else xa)) (IntKind.wrap .u64 (if xb < (IntKind.wrap .i64 (0 - xb)) then (IntKind.wrap .i64 (0 - xb)) else xb))).2)), (27, .bool ((((mulS (IntKind.wrap .u64 (if xa < (IntKind.wrap .i64 (0 - xa)) then (IntKind.wrap .i64 (0 - xa)) else xa)) (IntKind.wrap .u64 (if xb < (IntKind.wrap .i64 (0 - xb)) then (IntKind.wrap .i64 (0 - xb)) else xb))).1) != 0) || (decide (((mulS (IntKind.wrap .u64 (if xa < (IntKind.wrap .i64 (0 - xa)) then (IntKind.wrap .i64 (0 - xa)) else xa)) (IntKind.wrap .u64 (if xb < (IntKind.wrap .i64 (0 - xb)) then (IntKind.wrap .i64 (0 - xb)) else xb))).2) > 9007199254740992))))] (by kernel_rfl) ?_
      exact hR2
    · skip
      refine Ok.batch 3 [(0, .int .i64 xa), (1, .int .i64 xb), (7, .int .u64 ((mulS (IntKind.wrap .u64 (if xa < (IntKind.wrap .i64 (0 - xa)) then (IntKind.wrap .i64 (0 - xa)) else xa)) (IntKind.wrap .u64 (if xb < (IntKind.wrap .i64 (0 - xb)) then (IntKind.wrap .i64 (0 - xb)) else xb))).2)), (27, .bool (decide (((mulS (IntKind.wrap .u64 (if xa < (IntKind.wrap .i64 (0 - xa)) then (IntKind.wrap .i64 (0 - xa)) else xa)) (IntKind.wrap .u64 (if xb < (IntKind.wrap .i64 (0 - xb)) then (IntKind.wrap .i64 (0 - xb)) else xb))).2) > 9007199254740992)))] (by kernel_rfl) ?_
      refine Ok.reval 27 rfl (show (.bool (decide (((mulS (IntKind.wrap .u64 (if xa < (IntKind.wrap .i64 (0 - xa)) then (IntKind.wrap .i64 (0 - xa)) else xa)) (IntKind.wrap .u64 (if xb < (IntKind.wrap .i64 (0 - xb)) then (IntKind.wrap .i64 (0 - xb)) else xb))).2) > 9007199254740992)) : Value) = .bool ((((mulS (IntKind.wrap .u64 (if xa < (IntKind.wrap .i64 (0 - xa)) then (IntKind.wrap .i64 (0 - xa)) else xa)) (IntKind.wrap .u64 (if xb < (IntKind.wrap .i64 (0 - xb)) then (IntKind.wrap .i64 (0 - xb)) else xb))).1) != 0) || (decide (((mulS (IntKind.wrap .u64 (if xa < (IntKind.wrap .i64 (0 - xa)) then (IntKind.wrap .i64 (0 - xa)) else xa)) (IntKind.wrap .u64 (if xb < (IntKind.wrap .i64 (0 - xb)) then (IntKind.wrap .i64 (0 - xb)) else xb))).2) > 9007199254740992))) from congrArg Value.bool (mor_f hc3)) ?_
      refine Ok.batch 0 [(0, .int .i64 xa), (1, .int .i64 xb), (7, .int .u64 ((mulS (IntKind.wrap .u64 (if xa < (IntKind.wrap .i64 (0 - xa)) then (IntKind.wrap .i64 (0 - xa)) else xa)) (IntKind.wrap .u64 (if xb < (IntKind.wrap .i64 (0 - xb)) then (IntKind.wrap .i64 (0 - xb)) else xb))).2)), (27, .bool ((((mulS (IntKind.wrap .u64 (if xa < (IntKind.wrap .i64 (0 - xa)) then (IntKind.wrap .i64 (0 - xa)) else xa)) (IntKind.wrap .u64 (if xb < (IntKind.wrap .i64 (0 - xb)) then (IntKind.wrap .i64 (0 - xb)) else xb))).1) != 0) || (decide (((mulS (IntKind.wrap .u64 (if xa < (IntKind.wrap .i64 (0 - xa)) then (IntKind.wrap .i64 (0 - xa)) else xa)) (IntKind.wrap .u64 (if xb < (IntKind.wrap .i64 (0 - xb)) then (IntKind.wrap .i64 (0 - xb)) else xb))).2) > 9007199254740992))))] (by kernel_rfl) ?_
      exact hR2
  refine Ok.nil ?_
  refine Ok.thenN ?_
  refine Ok.cond (b := ((((mulS (IntKind.wrap .u64 (if xa < (IntKind.wrap .i64 (0 - xa)) then (IntKind.wrap .i64 (0 - xa)) else xa)) (IntKind.wrap .u64 (if xb < (IntKind.wrap .i64 (0 - xb)) then (IntKind.wrap .i64 (0 - xb)) else xb))).1) != 0) || (decide (((mulS (IntKind.wrap .u64 (if xa < (IntKind.wrap .i64 (0 - xa)) then (IntKind.wrap .i64 (0 - xa)) else xa)) (IntKind.wrap .u64 (if xb < (IntKind.wrap .i64 (0 - xb)) then (IntKind.wrap .i64 (0 - xb)) else xb))).2) > 9007199254740992)))) rfl (fun hc4 => ?_) (fun hc4 => ?_)
  · replace hF := hF.1 hc4
    refine Ok.seq ?_
    refine Ok.region ?_
    refine Ok.batch 2 [(4, .int .i64 0), (5, .bool false)] (by kernel_rfl) ?_
    refine Ok.nil ?_
    refine Ok.thenN ?_
    refine Ok.ret ?_
    refine Ok.thenR ?_
    exact Ok.resH (vs := [.int .i64 0, .bool false]) (.inl rfl) rfl (.cons (.tmp rfl) (.cons (.tmp rfl) .nil)) (Gext.refl w0 g) ⟨0, false, rfl, rfl, hF⟩
  · replace hF := hF.2 hc4
    refine Ok.skip ?_
    refine Ok.thenN ?_
    refine Ok.seq ?_
    refine Ok.seq ?_
    refine Ok.region ?_
    refine Ok.batch 5 [(7, .int .u64 ((mulS (IntKind.wrap .u64 (if xa < (IntKind.wrap .i64 (0 - xa)) then (IntKind.wrap .i64 (0 - xa)) else xa)) (IntKind.wrap .u64 (if xb < (IntKind.wrap .i64 (0 - xb)) then (IntKind.wrap .i64 (0 - xb)) else xb))).2)), (32, .bool (!(decide (xa < 0) == decide (xb < 0))))] (by kernel_rfl) ?_
    refine Ok.nil ?_
    refine Ok.thenN ?_
    refine Ok.cond (b := !(decide (xa < 0) == decide (xb < 0))) rfl (fun hc5 => ?_) (fun hc5 => ?_)
    · replace hF := hF.1 hc5
      refine Ok.seq ?_
      refine Ok.region ?_
      refine Ok.batch 5 [(4, .int .i64 (IntKind.wrap .i64 (0 - (IntKind.wrap .i64 ((mulS (IntKind.wrap .u64 (if xa < (IntKind.wrap .i64 (0 - xa)) then (IntKind.wrap .i64 (0 - xa)) else xa)) (IntKind.wrap .u64 (if xb < (IntKind.wrap .i64 (0 - xb)) then (IntKind.wrap .i64 (0 - xb)) else xb))).2))))), (5, .bool true)] (by kernel_rfl) ?_
      refine Ok.nil ?_
      refine Ok.thenN ?_
      refine Ok.ret ?_
      refine Ok.thenR ?_
      exact Ok.resH (vs := [.int .i64 (IntKind.wrap .i64 (0 - (IntKind.wrap .i64 ((mulS (IntKind.wrap .u64 (if xa < (IntKind.wrap .i64 (0 - xa)) then (IntKind.wrap .i64 (0 - xa)) else xa)) (IntKind.wrap .u64 (if xb < (IntKind.wrap .i64 (0 - xb)) then (IntKind.wrap .i64 (0 - xb)) else xb))).2)))), .bool true]) (.inl rfl) rfl (.cons (.tmp rfl) (.cons (.tmp rfl) .nil)) (Gext.refl w0 g) ⟨(IntKind.wrap .i64 (0 - (IntKind.wrap .i64 ((mulS (IntKind.wrap .u64 (if xa < (IntKind.wrap .i64 (0 - xa)) then (IntKind.wrap .i64 (0 - xa)) else xa)) (IntKind.wrap .u64 (if xb < (IntKind.wrap .i64 (0 - xb)) then (IntKind.wrap .i64 (0 - xb)) else xb))).2)))), true, rfl, rfl, hF⟩
    · replace hF := hF.2 hc5
      refine Ok.skip ?_
      refine Ok.thenN ?_
      refine Ok.seq ?_
      refine Ok.region ?_
      refine Ok.batch 4 [(4, .int .i64 (IntKind.wrap .i64 ((mulS (IntKind.wrap .u64 (if xa < (IntKind.wrap .i64 (0 - xa)) then (IntKind.wrap .i64 (0 - xa)) else xa)) (IntKind.wrap .u64 (if xb < (IntKind.wrap .i64 (0 - xb)) then (IntKind.wrap .i64 (0 - xb)) else xb))).2))), (5, .bool true)] (by kernel_rfl) ?_
      refine Ok.nil ?_
      refine Ok.thenN ?_
      refine Ok.ret ?_
      exact Ok.resH (vs := [.int .i64 (IntKind.wrap .i64 ((mulS (IntKind.wrap .u64 (if xa < (IntKind.wrap .i64 (0 - xa)) then (IntKind.wrap .i64 (0 - xa)) else xa)) (IntKind.wrap .u64 (if xb < (IntKind.wrap .i64 (0 - xb)) then (IntKind.wrap .i64 (0 - xb)) else xb))).2)), .bool true]) (.inl rfl) rfl (.cons (.tmp rfl) (.cons (.tmp rfl) .nil)) (Gext.refl w0 g) ⟨(IntKind.wrap .i64 ((mulS (IntKind.wrap .u64 (if xa < (IntKind.wrap .i64 (0 - xa)) then (IntKind.wrap .i64 (0 - xa)) else xa)) (IntKind.wrap .u64 (if xb < (IntKind.wrap .i64 (0 - xb)) then (IntKind.wrap .i64 (0 - xb)) else xb))).2)), true, rfl, rfl, hF⟩
def prodM (xa : Int) (xb : Int) : Int × Bool := (if ((((mulS (IntKind.wrap .u64 (if xa < (IntKind.wrap .i64 (0 - xa)) then (IntKind.wrap .i64 (0 - xa)) else xa)) (IntKind.wrap .u64 (if xb < (IntKind.wrap .i64 (0 - xb)) then (IntKind.wrap .i64 (0 - xb)) else xb))).1) != 0) || (decide (((mulS (IntKind.wrap .u64 (if xa < (IntKind.wrap .i64 (0 - xa)) then (IntKind.wrap .i64 (0 - xa)) else xa)) (IntKind.wrap .u64 (if xb < (IntKind.wrap .i64 (0 - xb)) then (IntKind.wrap .i64 (0 - xb)) else xb))).2) > 9007199254740992))) = true then (0, false) else (if (!(decide (xa < 0) == decide (xb < 0))) = true then (IntKind.wrap .i64 (0 - (IntKind.wrap .i64 ((mulS (IntKind.wrap .u64 (if xa < (IntKind.wrap .i64 (0 - xa)) then (IntKind.wrap .i64 (0 - xa)) else xa)) (IntKind.wrap .u64 (if xb < (IntKind.wrap .i64 (0 - xb)) then (IntKind.wrap .i64 (0 - xb)) else xb))).2))), true) else (IntKind.wrap .i64 ((mulS (IntKind.wrap .u64 (if xa < (IntKind.wrap .i64 (0 - xa)) then (IntKind.wrap .i64 (0 - xa)) else xa)) (IntKind.wrap .u64 (if xb < (IntKind.wrap .i64 (0 - xb)) then (IntKind.wrap .i64 (0 - xb)) else xb))).2), true)))
set_option linter.unusedSimpArgs false in
set_option linter.unusedVariables false in
theorem prodF_A (xa : Int) (xb : Int) (hp : prodP xa xb) (P : Int × Bool → Prop) (h : P (prodM xa xb)) : prodF xa xb (fun k0 k1 => P (k0, k1)) := by
  unfold prodM at h
  unfold prodF
  refine ⟨?_, ?_⟩
  · first | exact wrap_u64P _ _ | omega | assumption | exact trivial | (simp; omega) | (simp at *; omega)
  refine ⟨fun hc0 => ?_, fun hc0 => ?_⟩
  · rw [if_t hc0] at h
    have hd0 := hc0; try simp only [Bool.and_eq_true, Bool.or_eq_true, Bool.and_eq_false_iff, Bool.or_eq_false_iff, Bool.not_eq_true', Bool.not_eq_false', decide_eq_true_eq, decide_eq_false_iff_not, beq_iff_eq, beq_eq_false_iff_ne, ne_eq] at hd0
    exact h
  · rw [if_f hc0] at h
    have hd0 := hc0; try simp only [Bool.and_eq_true, Bool.or_eq_true, Bool.and_eq_false_iff, Bool.or_eq_false_iff, Bool.not_eq_true', Bool.not_eq_false', decide_eq_true_eq, decide_eq_false_iff_not, beq_iff_eq, beq_eq_false_iff_ne, ne_eq] at hd0
    refine ⟨fun hc1 => ?_, fun hc1 => ?_⟩
    · rw [if_t hc1] at h
      have hd1 := hc1; try simp only [Bool.and_eq_true, Bool.or_eq_true, Bool.and_eq_false_iff, Bool.or_eq_false_iff, Bool.not_eq_true', Bool.not_eq_false', decide_eq_true_eq, decide_eq_false_iff_not, beq_iff_eq, beq_eq_false_iff_ne, ne_eq] at hd1
      exact h
    · rw [if_f hc1] at h
      have hd1 := hc1; try simp only [Bool.and_eq_true, Bool.or_eq_true, Bool.and_eq_false_iff, Bool.or_eq_false_iff, Bool.not_eq_true', Bool.not_eq_false', decide_eq_true_eq, decide_eq_false_iff_not, beq_iff_eq, beq_eq_false_iff_ne, ne_eq] at hd1
      exact h
theorem prod_F (xa : Int) (xb : Int) (hp : prodP xa xb) : prodF xa xb (fun k0 k1 => (k0, k1) = prodM xa xb) :=
  prodF_A xa xb hp (fun z => z = prodM xa xb) rfl
set_option linter.unusedVariables false in
theorem prod_c {g : Ghost} (xa : Int) (xb : Int)  (hp : prodP xa xb) : CallsG Tryd.prog 130 #[.int .i64 xa, .int .i64 xb] g (.tuple #[.int .i64 ((prodM xa xb).1), .bool ((prodM xa xb).2)]) :=
  (prod_ok xa xb _ (prod_F xa xb hp)).gives (by rintro g' H' v _ ⟨r0, r1, rfl, rfl, hK⟩; obtain ⟨rfl, rfl⟩ : r0 = (prodM xa xb).1 ∧ r1 = (prodM xa xb).2 := ⟨congrArg (fun z => z.1) hK, congrArg (fun z => z.2) hK⟩; rfl)
theorem abs_wrap {a : Int} (h : numB a) : IntKind.wrap .u64 (if a < (IntKind.wrap .i64 (0 - a)) then (IntKind.wrap .i64 (0 - a)) else a) = if a < 0 then -a else a := by
  unfold numB at h
  rw [w64 (by omega)]
  by_cases h0 : a < 0
  · rw [if_pos h0, if_pos (by omega), IntWalk.u64_in _ (by omega)]; omega
  · rw [if_neg h0, if_neg (by omega), IntWalk.u64_in _ (by omega)]
def prodS (a b : Int) : Int × Bool := if -9007199254740992 ≤ a * b ∧ a * b ≤ 9007199254740992 then (a * b, true) else (0, false)
theorem prod_eq {a b : Int} (h : prodP a b) : prodM a b = prodS a b := by
  unfold prodM
  rw [abs_wrap h.1, abs_wrap h.2]
  unfold prodP numB at h
  have key : ∃ m : Int, (if a < 0 then -a else a) * (if b < 0 then -b else b) = m ∧ 0 ≤ m ∧ m ≤ 9007199254740992 * 9007199254740992 ∧ ((¬ ((decide (a < 0)) = (decide (b < 0))) ∧ a * b = -m) ∨ ((decide (a < 0)) = (decide (b < 0)) ∧ a * b = m)) := by
    refine ⟨_, rfl, Int.mul_nonneg (by split <;> omega) (by split <;> omega), Int.mul_le_mul (by split <;> omega) (by split <;> omega) (by split <;> omega) (by omega), ?_⟩
    by_cases ha : a < 0
    · by_cases hb : b < 0
      · rw [if_pos ha, if_pos hb, Int.neg_mul_neg]; exact .inr ⟨by simp [ha, hb], rfl⟩
      · rw [if_pos ha, if_neg hb, Int.neg_mul, Int.neg_neg]; exact .inl ⟨by simp [ha, hb], rfl⟩
    · by_cases hb : b < 0
      · rw [if_neg ha, if_pos hb, Int.mul_neg, Int.neg_neg]; exact .inl ⟨by simp [ha, hb], rfl⟩
      · rw [if_neg ha, if_neg hb]; exact .inr ⟨by simp [ha, hb], rfl⟩
  obtain ⟨m, e, h0, hm, hs⟩ := key
  unfold mulS
  rw [e]
  have e1 : m / 18446744073709551616 = 0 ∨ 9007199254740992 < m := by omega
  unfold prodS
  simp only
  by_cases hf : m ≤ 9007199254740992
  · have e2 : m / 18446744073709551616 = 0 := by omega
    have e3 : m % 18446744073709551616 = m := by omega
    rw [e2, e3, w64 (x := m) (by omega), w64 (x := 0 - m) (by omega), if_f (by simp; omega)]
    rcases hs with ⟨h1, h2⟩ | ⟨h1, h2⟩
    · rw [if_t (by simp at h1 ⊢; omega), if_pos (by omega), h2, Int.zero_sub]
    · rw [if_f (by simp at h1 ⊢; omega), if_pos (by omega), h2]
  · rw [if_t (by simp; omega), if_neg (by omega)]
def reckP (_ : List UInt8) (a b : Int) : Prop := prodP a b
def reckF (xsign : List UInt8) (xa : Int) (xb : Int) (K : (Int × Int × List UInt8) → (List UInt8) → Prop) : Prop :=
  (((xsign == ([43] : List UInt8))) = true → K (((numM (IntKind.wrap .i64 (xa + xb)) true).1).1, (((numM (IntKind.wrap .i64 (xa + xb)) true).1).2).1, (((numM (IntKind.wrap .i64 (xa + xb)) true).1).2).2) ((numM (IntKind.wrap .i64 (xa + xb)) true).2)) ∧ (((xsign == ([43] : List UInt8))) = false → (((xsign == ([45] : List UInt8))) = true → K (((numM (IntKind.wrap .i64 (xa - xb)) true).1).1, (((numM (IntKind.wrap .i64 (xa - xb)) true).1).2).1, (((numM (IntKind.wrap .i64 (xa - xb)) true).1).2).2) ((numM (IntKind.wrap .i64 (xa - xb)) true).2)) ∧ (((xsign == ([45] : List UInt8))) = false → (((xsign == ([42] : List UInt8))) = true → prodP xa xb ∧ K (((numM ((prodM xa xb).1) ((prodM xa xb).2)).1).1, (((numM ((prodM xa xb).1) ((prodM xa xb).2)).1).2).1, (((numM ((prodM xa xb).1) ((prodM xa xb).2)).1).2).2) ((numM ((prodM xa xb).1) ((prodM xa xb).2)).2)) ∧ (((xsign == ([42] : List UInt8))) = false → (((xb == 0)) = true → K (0, 0, ([] : List UInt8)) ([122, 101, 114, 111] : List UInt8)) ∧ (((xb == 0)) = false → (((xsign == ([47] : List UInt8))) = true → xb ≠ 0 ∧ K (((numM (IntKind.wrap .i64 (Int.tdiv xa xb)) true).1).1, (((numM (IntKind.wrap .i64 (Int.tdiv xa xb)) true).1).2).1, (((numM (IntKind.wrap .i64 (Int.tdiv xa xb)) true).1).2).2) ((numM (IntKind.wrap .i64 (Int.tdiv xa xb)) true).2)) ∧ (((xsign == ([47] : List UInt8))) = false → xb ≠ 0 ∧ K (((numM (Int.tmod xa xb) true).1).1, (((numM (Int.tmod xa xb) true).1).2).1, (((numM (Int.tmod xa xb) true).1).2).2) ((numM (Int.tmod xa xb) true).2))))))
set_option maxHeartbeats 4000000 in
set_option maxRecDepth 100000 in
set_option linter.unusedVariables false in
theorem reck_ok {g : Ghost} (xsign : List UInt8) (xa : Int) (xb : Int) (K : (Int × Int × List UInt8) → (List UInt8) → Prop)
    (hF : reckF xsign xa xb K) : CallsH Tryd.prog 61 #[.string ⟨⟨xsign⟩⟩, .int .i64 xa, .int .i64 xb] g [] (fun g' H' v => ∃ (r0 : Int × Int × List UInt8), ∃ (r1 : List UInt8), v = .tuple #[.agg #[.int .i64 r0.1, .int .i64 r0.2.1, .string ⟨⟨r0.2.2⟩⟩], .string ⟨⟨r1⟩⟩] ∧ H' = [] ∧ K r0 r1) := by
  refine CallsH.enter 52 [(0, .string ⟨⟨xsign⟩⟩), (1, .int .i64 xa), (2, .int .i64 xb)] Tryd.func61 rfl (by kernel_rfl) (by kernel_rfl) (by kernel_rfl) fun w0 => ?_
  refine Ok.seq ?_
  refine Ok.region ?_
  refine Ok.op rfl (OpOk.alloc (z := .agg #[.int .i64 0, .int .i64 0, .string ⟨⟨([] : List UInt8)⟩⟩]) (cs := #[.int .i64 0, .int .i64 0, .string ⟨⟨([] : List UInt8)⟩⟩]) (by kernel_rfl) (by kernel_rfl) rfl fun b1 => ?_)
  refine Ok.batch 1 [(0, .string ⟨⟨xsign⟩⟩), (1, .int .i64 xa), (2, .int .i64 xb), (6, .pointer (some ⟨b1, 0, none⟩))] (by kernel_rfl) ?_
  refine Ok.nil ?_
  refine Ok.thenN ?_
  refine Ok.seq ?_
  refine Ok.seq ?_
  refine Ok.region ?_
  refine Ok.batch 1 [(0, .string ⟨⟨xsign⟩⟩), (1, .int .i64 xa), (2, .int .i64 xb), (6, .pointer (some ⟨b1, 0, none⟩)), (8, .string ⟨⟨xsign⟩⟩)] (by kernel_rfl) ?_
  refine Ok.nil ?_
  refine Ok.thenN ?_
  refine Ok.block ?_
  refine Ok.seq ?_
  refine Ok.region ?_
  refine Ok.op rfl (OpOk.step (v := .bool (xsign == ([43] : List UInt8))) (Yields.strCmp (f := .eql) (a := xsign) (b := ([43] : List UInt8)) (by kernel_rfl) (by kernel_rfl) rfl) rfl rfl ?_)
  refine Ok.batch 1 [(0, .string ⟨⟨xsign⟩⟩), (1, .int .i64 xa), (2, .int .i64 xb), (6, .pointer (some ⟨b1, 0, none⟩)), (8, .string ⟨⟨xsign⟩⟩), (9, .bool (xsign == ([43] : List UInt8)))] (by kernel_rfl) ?_
  refine Ok.nil ?_
  refine Ok.thenN ?_
  refine Ok.cond (b := (xsign == ([43] : List UInt8))) rfl (fun hc2 => ?_) (fun hc2 => ?_)
  · replace hF := hF.1 hc2
    refine Ok.seq ?_
    refine Ok.region ?_
    refine Ok.batch 3 [(6, .pointer (some ⟨b1, 0, none⟩)), (13, .int .i64 (IntKind.wrap .i64 (xa + xb)))] (by kernel_rfl) ?_
    refine Ok.op rfl (OpOk.callG (v := .tuple #[.agg #[.int .i64 (((numM (IntKind.wrap .i64 (xa + xb)) true).1).1), .int .i64 ((((numM (IntKind.wrap .i64 (xa + xb)) true).1).2).1), .string ⟨⟨(((numM (IntKind.wrap .i64 (xa + xb)) true).1).2).2⟩⟩], .string ⟨⟨(numM (IntKind.wrap .i64 (xa + xb)) true).2⟩⟩]) (enters (by kernel_rfl) (fun _ => by kernel_rfl)) (fun W hW => num_c (IntKind.wrap .i64 (xa + xb)) true) rfl ?_)
    refine Ok.batch 2 [(6, .pointer (some ⟨b1, 0, none⟩)), (15, .agg #[.int .i64 (((numM (IntKind.wrap .i64 (xa + xb)) true).1).1), .int .i64 ((((numM (IntKind.wrap .i64 (xa + xb)) true).1).2).1), .string ⟨⟨(((numM (IntKind.wrap .i64 (xa + xb)) true).1).2).2⟩⟩]), (16, .string ⟨⟨(numM (IntKind.wrap .i64 (xa + xb)) true).2⟩⟩)] (by kernel_rfl) ?_
    refine Ok.op rfl (OpOk.store (k := 3) (v := .agg #[.int .i64 (((numM (IntKind.wrap .i64 (xa + xb)) true).1).1), .int .i64 ((((numM (IntKind.wrap .i64 (xa + xb)) true).1).2).1), .string ⟨⟨(((numM (IntKind.wrap .i64 (xa + xb)) true).1).2).2⟩⟩]) (H' := [.blk b1 (.cells #[.int .i64 (((numM (IntKind.wrap .i64 (xa + xb)) true).1).1), .int .i64 ((((numM (IntKind.wrap .i64 (xa + xb)) true).1).2).1), .string ⟨⟨(((numM (IntKind.wrap .i64 (xa + xb)) true).1).2).2⟩⟩] 31)]) 0 rfl rfl rfl (by kernel_rfl) (by kernel_rfl) (by kernel_rfl) (by kernel_rfl) (by kernel_rfl) ?_)
    refine Ok.batch 1 [(6, .pointer (some ⟨b1, 0, none⟩)), (7, .string ⟨⟨(numM (IntKind.wrap .i64 (xa + xb)) true).2⟩⟩)] (by kernel_rfl) ?_
    refine Ok.nil ?_
    refine Ok.thenN ?_
    refine Ok.ret ?_
    refine Ok.blockR ?_
    refine Ok.thenR ?_
    exact Ok.resP (vs := [.agg #[.int .i64 (((numM (IntKind.wrap .i64 (xa + xb)) true).1).1), .int .i64 ((((numM (IntKind.wrap .i64 (xa + xb)) true).1).2).1), .string ⟨⟨(((numM (IntKind.wrap .i64 (xa + xb)) true).1).2).2⟩⟩], .string ⟨⟨(numM (IntKind.wrap .i64 (xa + xb)) true).2⟩⟩]) [] [] (by decide) rfl (.inl rfl) rfl (.cons (.cellAgg 0 3 #[.int .i64 (((numM (IntKind.wrap .i64 (xa + xb)) true).1).1), .int .i64 ((((numM (IntKind.wrap .i64 (xa + xb)) true).1).2).1), .string ⟨⟨(((numM (IntKind.wrap .i64 (xa + xb)) true).1).2).2⟩⟩] rfl rfl Tryd.underlying31 rfl (by kernel_rfl) (by kernel_rfl) (by kernel_rfl)) (.cons (.tmp rfl) .nil)) (Gext.refl w0 g) ⟨(((numM (IntKind.wrap .i64 (xa + xb)) true).1).1, (((numM (IntKind.wrap .i64 (xa + xb)) true).1).2).1, (((numM (IntKind.wrap .i64 (xa + xb)) true).1).2).2), ((numM (IntKind.wrap .i64 (xa + xb)) true).2), rfl, rfl, hF⟩
  · replace hF := hF.2 hc2
    refine Ok.seq ?_
    refine Ok.region ?_
    refine Ok.op rfl (OpOk.step (v := .bool (xsign == ([45] : List UInt8))) (Yields.strCmp (f := .eql) (a := xsign) (b := ([45] : List UInt8)) (by kernel_rfl) (by kernel_rfl) rfl) rfl rfl ?_)
    refine Ok.batch 1 [(0, .string ⟨⟨xsign⟩⟩), (1, .int .i64 xa), (2, .int .i64 xb), (6, .pointer (some ⟨b1, 0, none⟩)), (8, .string ⟨⟨xsign⟩⟩), (17, .bool (xsign == ([45] : List UInt8)))] (by kernel_rfl) ?_
    refine Ok.nil ?_
    refine Ok.thenN ?_
    refine Ok.cond (b := (xsign == ([45] : List UInt8))) rfl (fun hc3 => ?_) (fun hc3 => ?_)
    · replace hF := hF.1 hc3
      refine Ok.seq ?_
      refine Ok.region ?_
      refine Ok.batch 3 [(6, .pointer (some ⟨b1, 0, none⟩)), (21, .int .i64 (IntKind.wrap .i64 (xa - xb)))] (by kernel_rfl) ?_
      refine Ok.op rfl (OpOk.callG (v := .tuple #[.agg #[.int .i64 (((numM (IntKind.wrap .i64 (xa - xb)) true).1).1), .int .i64 ((((numM (IntKind.wrap .i64 (xa - xb)) true).1).2).1), .string ⟨⟨(((numM (IntKind.wrap .i64 (xa - xb)) true).1).2).2⟩⟩], .string ⟨⟨(numM (IntKind.wrap .i64 (xa - xb)) true).2⟩⟩]) (enters (by kernel_rfl) (fun _ => by kernel_rfl)) (fun W hW => num_c (IntKind.wrap .i64 (xa - xb)) true) rfl ?_)
      refine Ok.batch 2 [(6, .pointer (some ⟨b1, 0, none⟩)), (23, .agg #[.int .i64 (((numM (IntKind.wrap .i64 (xa - xb)) true).1).1), .int .i64 ((((numM (IntKind.wrap .i64 (xa - xb)) true).1).2).1), .string ⟨⟨(((numM (IntKind.wrap .i64 (xa - xb)) true).1).2).2⟩⟩]), (24, .string ⟨⟨(numM (IntKind.wrap .i64 (xa - xb)) true).2⟩⟩)] (by kernel_rfl) ?_
      refine Ok.op rfl (OpOk.store (k := 3) (v := .agg #[.int .i64 (((numM (IntKind.wrap .i64 (xa - xb)) true).1).1), .int .i64 ((((numM (IntKind.wrap .i64 (xa - xb)) true).1).2).1), .string ⟨⟨(((numM (IntKind.wrap .i64 (xa - xb)) true).1).2).2⟩⟩]) (H' := [.blk b1 (.cells #[.int .i64 (((numM (IntKind.wrap .i64 (xa - xb)) true).1).1), .int .i64 ((((numM (IntKind.wrap .i64 (xa - xb)) true).1).2).1), .string ⟨⟨(((numM (IntKind.wrap .i64 (xa - xb)) true).1).2).2⟩⟩] 31)]) 0 rfl rfl rfl (by kernel_rfl) (by kernel_rfl) (by kernel_rfl) (by kernel_rfl) (by kernel_rfl) ?_)
      refine Ok.batch 1 [(6, .pointer (some ⟨b1, 0, none⟩)), (7, .string ⟨⟨(numM (IntKind.wrap .i64 (xa - xb)) true).2⟩⟩)] (by kernel_rfl) ?_
      refine Ok.nil ?_
      refine Ok.thenN ?_
      refine Ok.ret ?_
      refine Ok.blockR ?_
      refine Ok.thenR ?_
      exact Ok.resP (vs := [.agg #[.int .i64 (((numM (IntKind.wrap .i64 (xa - xb)) true).1).1), .int .i64 ((((numM (IntKind.wrap .i64 (xa - xb)) true).1).2).1), .string ⟨⟨(((numM (IntKind.wrap .i64 (xa - xb)) true).1).2).2⟩⟩], .string ⟨⟨(numM (IntKind.wrap .i64 (xa - xb)) true).2⟩⟩]) [] [] (by decide) rfl (.inl rfl) rfl (.cons (.cellAgg 0 3 #[.int .i64 (((numM (IntKind.wrap .i64 (xa - xb)) true).1).1), .int .i64 ((((numM (IntKind.wrap .i64 (xa - xb)) true).1).2).1), .string ⟨⟨(((numM (IntKind.wrap .i64 (xa - xb)) true).1).2).2⟩⟩] rfl rfl Tryd.underlying31 rfl (by kernel_rfl) (by kernel_rfl) (by kernel_rfl)) (.cons (.tmp rfl) .nil)) (Gext.refl w0 g) ⟨(((numM (IntKind.wrap .i64 (xa - xb)) true).1).1, (((numM (IntKind.wrap .i64 (xa - xb)) true).1).2).1, (((numM (IntKind.wrap .i64 (xa - xb)) true).1).2).2), ((numM (IntKind.wrap .i64 (xa - xb)) true).2), rfl, rfl, hF⟩
    · replace hF := hF.2 hc3
      refine Ok.seq ?_
      refine Ok.region ?_
      refine Ok.op rfl (OpOk.step (v := .bool (xsign == ([42] : List UInt8))) (Yields.strCmp (f := .eql) (a := xsign) (b := ([42] : List UInt8)) (by kernel_rfl) (by kernel_rfl) rfl) rfl rfl ?_)
      refine Ok.batch 1 [(0, .string ⟨⟨xsign⟩⟩), (1, .int .i64 xa), (2, .int .i64 xb), (6, .pointer (some ⟨b1, 0, none⟩)), (25, .bool (xsign == ([42] : List UInt8)))] (by kernel_rfl) ?_
      refine Ok.nil ?_
      refine Ok.thenN ?_
      refine Ok.cond (b := (xsign == ([42] : List UInt8))) rfl (fun hc4 => ?_) (fun hc4 => ?_)
      · replace hF := hF.1 hc4
        refine Ok.seq ?_
        refine Ok.region ?_
        refine Ok.batch 2 [(6, .pointer (some ⟨b1, 0, none⟩)), (27, .int .i64 xa), (28, .int .i64 xb)] (by kernel_rfl) ?_
        obtain ⟨hp5, hF⟩ := hF
        refine Ok.op rfl (OpOk.callG (v := .tuple #[.int .i64 ((prodM xa xb).1), .bool ((prodM xa xb).2)]) (enters (by kernel_rfl) (fun _ => by kernel_rfl)) (fun W hW => prod_c xa xb hp5) rfl ?_)
        refine Ok.batch 2 [(6, .pointer (some ⟨b1, 0, none⟩)), (30, .int .i64 ((prodM xa xb).1)), (31, .bool ((prodM xa xb).2))] (by kernel_rfl) ?_
        refine Ok.op rfl (OpOk.callG (v := .tuple #[.agg #[.int .i64 (((numM ((prodM xa xb).1) ((prodM xa xb).2)).1).1), .int .i64 ((((numM ((prodM xa xb).1) ((prodM xa xb).2)).1).2).1), .string ⟨⟨(((numM ((prodM xa xb).1) ((prodM xa xb).2)).1).2).2⟩⟩], .string ⟨⟨(numM ((prodM xa xb).1) ((prodM xa xb).2)).2⟩⟩]) (enters (by kernel_rfl) (fun _ => by kernel_rfl)) (fun W hW => num_c ((prodM xa xb).1) ((prodM xa xb).2)) rfl ?_)
        refine Ok.batch 2 [(6, .pointer (some ⟨b1, 0, none⟩)), (33, .agg #[.int .i64 (((numM ((prodM xa xb).1) ((prodM xa xb).2)).1).1), .int .i64 ((((numM ((prodM xa xb).1) ((prodM xa xb).2)).1).2).1), .string ⟨⟨(((numM ((prodM xa xb).1) ((prodM xa xb).2)).1).2).2⟩⟩]), (34, .string ⟨⟨(numM ((prodM xa xb).1) ((prodM xa xb).2)).2⟩⟩)] (by kernel_rfl) ?_
        refine Ok.op rfl (OpOk.store (k := 3) (v := .agg #[.int .i64 (((numM ((prodM xa xb).1) ((prodM xa xb).2)).1).1), .int .i64 ((((numM ((prodM xa xb).1) ((prodM xa xb).2)).1).2).1), .string ⟨⟨(((numM ((prodM xa xb).1) ((prodM xa xb).2)).1).2).2⟩⟩]) (H' := [.blk b1 (.cells #[.int .i64 (((numM ((prodM xa xb).1) ((prodM xa xb).2)).1).1), .int .i64 ((((numM ((prodM xa xb).1) ((prodM xa xb).2)).1).2).1), .string ⟨⟨(((numM ((prodM xa xb).1) ((prodM xa xb).2)).1).2).2⟩⟩] 31)]) 0 rfl rfl rfl (by kernel_rfl) (by kernel_rfl) (by kernel_rfl) (by kernel_rfl) (by kernel_rfl) ?_)
        refine Ok.batch 1 [(6, .pointer (some ⟨b1, 0, none⟩)), (7, .string ⟨⟨(numM ((prodM xa xb).1) ((prodM xa xb).2)).2⟩⟩)] (by kernel_rfl) ?_
        refine Ok.nil ?_
        refine Ok.thenN ?_
        refine Ok.ret ?_
        refine Ok.blockR ?_
        refine Ok.thenR ?_
        exact Ok.resP (vs := [.agg #[.int .i64 (((numM ((prodM xa xb).1) ((prodM xa xb).2)).1).1), .int .i64 ((((numM ((prodM xa xb).1) ((prodM xa xb).2)).1).2).1), .string ⟨⟨(((numM ((prodM xa xb).1) ((prodM xa xb).2)).1).2).2⟩⟩], .string ⟨⟨(numM ((prodM xa xb).1) ((prodM xa xb).2)).2⟩⟩]) [] [] (by decide) rfl (.inl rfl) rfl (.cons (.cellAgg 0 3 #[.int .i64 (((numM ((prodM xa xb).1) ((prodM xa xb).2)).1).1), .int .i64 ((((numM ((prodM xa xb).1) ((prodM xa xb).2)).1).2).1), .string ⟨⟨(((numM ((prodM xa xb).1) ((prodM xa xb).2)).1).2).2⟩⟩] rfl rfl Tryd.underlying31 rfl (by kernel_rfl) (by kernel_rfl) (by kernel_rfl)) (.cons (.tmp rfl) .nil)) (Gext.refl w0 g) ⟨(((numM ((prodM xa xb).1) ((prodM xa xb).2)).1).1, (((numM ((prodM xa xb).1) ((prodM xa xb).2)).1).2).1, (((numM ((prodM xa xb).1) ((prodM xa xb).2)).1).2).2), ((numM ((prodM xa xb).1) ((prodM xa xb).2)).2), rfl, rfl, hF⟩
      · replace hF := hF.2 hc4
        refine Ok.skip ?_
        refine Ok.blockN ?_
        refine Ok.thenN ?_
        refine Ok.seq ?_
        refine Ok.seq ?_
        refine Ok.region ?_
        refine Ok.batch 2 [(0, .string ⟨⟨xsign⟩⟩), (1, .int .i64 xa), (2, .int .i64 xb), (6, .pointer (some ⟨b1, 0, none⟩)), (36, .bool (xb == 0))] (by kernel_rfl) ?_
        refine Ok.nil ?_
        refine Ok.thenN ?_
        refine Ok.cond (b := (xb == 0)) rfl (fun hc6 => ?_) (fun hc6 => ?_)
        · replace hF := hF.1 hc6
          refine Ok.seq ?_
          refine Ok.region ?_
          refine Ok.batch 1 [(6, .pointer (some ⟨b1, 0, none⟩)), (37, .agg #[.int .i64 0, .int .i64 0, .string ⟨⟨([] : List UInt8)⟩⟩])] (by kernel_rfl) ?_
          refine Ok.op rfl (OpOk.store (k := 3) (v := .agg #[.int .i64 0, .int .i64 0, .string ⟨⟨([] : List UInt8)⟩⟩]) (H' := [.blk b1 (.cells #[.int .i64 0, .int .i64 0, .string ⟨⟨([] : List UInt8)⟩⟩] 31)]) 0 rfl rfl rfl (by kernel_rfl) (by kernel_rfl) (by kernel_rfl) (by kernel_rfl) (by kernel_rfl) ?_)
          refine Ok.batch 1 [(6, .pointer (some ⟨b1, 0, none⟩)), (7, .string ⟨⟨([122, 101, 114, 111] : List UInt8)⟩⟩)] (by kernel_rfl) ?_
          refine Ok.nil ?_
          refine Ok.thenN ?_
          refine Ok.ret ?_
          refine Ok.thenR ?_
          exact Ok.resP (vs := [.agg #[.int .i64 0, .int .i64 0, .string ⟨⟨([] : List UInt8)⟩⟩], .string ⟨⟨([122, 101, 114, 111] : List UInt8)⟩⟩]) [] [] (by decide) rfl (.inl rfl) rfl (.cons (.cellAgg 0 3 #[.int .i64 0, .int .i64 0, .string ⟨⟨([] : List UInt8)⟩⟩] rfl rfl Tryd.underlying31 rfl (by kernel_rfl) (by kernel_rfl) (by kernel_rfl)) (.cons (.tmp rfl) .nil)) (Gext.refl w0 g) ⟨(0, 0, ([] : List UInt8)), ([122, 101, 114, 111] : List UInt8), rfl, rfl, hF⟩
        · replace hF := hF.2 hc6
          refine Ok.skip ?_
          refine Ok.thenN ?_
          refine Ok.seq ?_
          refine Ok.seq ?_
          refine Ok.region ?_
          refine Ok.batch 1 [(1, .int .i64 xa), (2, .int .i64 xb), (6, .pointer (some ⟨b1, 0, none⟩)), (38, .string ⟨⟨xsign⟩⟩)] (by kernel_rfl) ?_
          refine Ok.op rfl (OpOk.step (v := .bool (xsign == ([47] : List UInt8))) (Yields.strCmp (f := .eql) (a := xsign) (b := ([47] : List UInt8)) (by kernel_rfl) (by kernel_rfl) rfl) rfl rfl ?_)
          refine Ok.nil ?_
          refine Ok.thenN ?_
          refine Ok.cond (b := (xsign == ([47] : List UInt8))) rfl (fun hc7 => ?_) (fun hc7 => ?_)
          · replace hF := hF.1 hc7
            refine Ok.seq ?_
            refine Ok.region ?_
            refine Ok.batch 2 [(6, .pointer (some ⟨b1, 0, none⟩)), (40, .int .i64 xa), (41, .int .i64 xb)] (by kernel_rfl) ?_
            obtain ⟨hv, hF⟩ := hF
            refine Ok.op rfl (OpOk.step (v := .int .i64 (IntKind.wrap .i64 (Int.tdiv xa xb))) (Yields.quo rfl rfl hv) rfl rfl ?_)
            refine Ok.op rfl (OpOk.callG (v := .tuple #[.agg #[.int .i64 (((numM (IntKind.wrap .i64 (Int.tdiv xa xb)) true).1).1), .int .i64 ((((numM (IntKind.wrap .i64 (Int.tdiv xa xb)) true).1).2).1), .string ⟨⟨(((numM (IntKind.wrap .i64 (Int.tdiv xa xb)) true).1).2).2⟩⟩], .string ⟨⟨(numM (IntKind.wrap .i64 (Int.tdiv xa xb)) true).2⟩⟩]) (enters (by kernel_rfl) (fun _ => by kernel_rfl)) (fun W hW => num_c (IntKind.wrap .i64 (Int.tdiv xa xb)) true) rfl ?_)
            refine Ok.batch 2 [(6, .pointer (some ⟨b1, 0, none⟩)), (44, .agg #[.int .i64 (((numM (IntKind.wrap .i64 (Int.tdiv xa xb)) true).1).1), .int .i64 ((((numM (IntKind.wrap .i64 (Int.tdiv xa xb)) true).1).2).1), .string ⟨⟨(((numM (IntKind.wrap .i64 (Int.tdiv xa xb)) true).1).2).2⟩⟩]), (45, .string ⟨⟨(numM (IntKind.wrap .i64 (Int.tdiv xa xb)) true).2⟩⟩)] (by kernel_rfl) ?_
            refine Ok.op rfl (OpOk.store (k := 3) (v := .agg #[.int .i64 (((numM (IntKind.wrap .i64 (Int.tdiv xa xb)) true).1).1), .int .i64 ((((numM (IntKind.wrap .i64 (Int.tdiv xa xb)) true).1).2).1), .string ⟨⟨(((numM (IntKind.wrap .i64 (Int.tdiv xa xb)) true).1).2).2⟩⟩]) (H' := [.blk b1 (.cells #[.int .i64 (((numM (IntKind.wrap .i64 (Int.tdiv xa xb)) true).1).1), .int .i64 ((((numM (IntKind.wrap .i64 (Int.tdiv xa xb)) true).1).2).1), .string ⟨⟨(((numM (IntKind.wrap .i64 (Int.tdiv xa xb)) true).1).2).2⟩⟩] 31)]) 0 rfl rfl rfl (by kernel_rfl) (by kernel_rfl) (by kernel_rfl) (by kernel_rfl) (by kernel_rfl) ?_)
            refine Ok.batch 1 [(6, .pointer (some ⟨b1, 0, none⟩)), (7, .string ⟨⟨(numM (IntKind.wrap .i64 (Int.tdiv xa xb)) true).2⟩⟩)] (by kernel_rfl) ?_
            refine Ok.nil ?_
            refine Ok.thenN ?_
            refine Ok.ret ?_
            refine Ok.thenR ?_
            exact Ok.resP (vs := [.agg #[.int .i64 (((numM (IntKind.wrap .i64 (Int.tdiv xa xb)) true).1).1), .int .i64 ((((numM (IntKind.wrap .i64 (Int.tdiv xa xb)) true).1).2).1), .string ⟨⟨(((numM (IntKind.wrap .i64 (Int.tdiv xa xb)) true).1).2).2⟩⟩], .string ⟨⟨(numM (IntKind.wrap .i64 (Int.tdiv xa xb)) true).2⟩⟩]) [] [] (by decide) rfl (.inl rfl) rfl (.cons (.cellAgg 0 3 #[.int .i64 (((numM (IntKind.wrap .i64 (Int.tdiv xa xb)) true).1).1), .int .i64 ((((numM (IntKind.wrap .i64 (Int.tdiv xa xb)) true).1).2).1), .string ⟨⟨(((numM (IntKind.wrap .i64 (Int.tdiv xa xb)) true).1).2).2⟩⟩] rfl rfl Tryd.underlying31 rfl (by kernel_rfl) (by kernel_rfl) (by kernel_rfl)) (.cons (.tmp rfl) .nil)) (Gext.refl w0 g) ⟨(((numM (IntKind.wrap .i64 (Int.tdiv xa xb)) true).1).1, (((numM (IntKind.wrap .i64 (Int.tdiv xa xb)) true).1).2).1, (((numM (IntKind.wrap .i64 (Int.tdiv xa xb)) true).1).2).2), ((numM (IntKind.wrap .i64 (Int.tdiv xa xb)) true).2), rfl, rfl, hF⟩
          · replace hF := hF.2 hc7
            refine Ok.skip ?_
            refine Ok.thenN ?_
            refine Ok.seq ?_
            refine Ok.region ?_
            refine Ok.batch 2 [(6, .pointer (some ⟨b1, 0, none⟩)), (46, .int .i64 xa), (47, .int .i64 xb)] (by kernel_rfl) ?_
            obtain ⟨hv, hF⟩ := hF
            refine Ok.op rfl (OpOk.step (v := .int .i64 (Int.tmod xa xb)) (Yields.rem rfl rfl hv) rfl rfl ?_)
            refine Ok.op rfl (OpOk.callG (v := .tuple #[.agg #[.int .i64 (((numM (Int.tmod xa xb) true).1).1), .int .i64 ((((numM (Int.tmod xa xb) true).1).2).1), .string ⟨⟨(((numM (Int.tmod xa xb) true).1).2).2⟩⟩], .string ⟨⟨(numM (Int.tmod xa xb) true).2⟩⟩]) (enters (by kernel_rfl) (fun _ => by kernel_rfl)) (fun W hW => num_c (Int.tmod xa xb) true) rfl ?_)
            refine Ok.batch 2 [(6, .pointer (some ⟨b1, 0, none⟩)), (50, .agg #[.int .i64 (((numM (Int.tmod xa xb) true).1).1), .int .i64 ((((numM (Int.tmod xa xb) true).1).2).1), .string ⟨⟨(((numM (Int.tmod xa xb) true).1).2).2⟩⟩]), (51, .string ⟨⟨(numM (Int.tmod xa xb) true).2⟩⟩)] (by kernel_rfl) ?_
            refine Ok.op rfl (OpOk.store (k := 3) (v := .agg #[.int .i64 (((numM (Int.tmod xa xb) true).1).1), .int .i64 ((((numM (Int.tmod xa xb) true).1).2).1), .string ⟨⟨(((numM (Int.tmod xa xb) true).1).2).2⟩⟩]) (H' := [.blk b1 (.cells #[.int .i64 (((numM (Int.tmod xa xb) true).1).1), .int .i64 ((((numM (Int.tmod xa xb) true).1).2).1), .string ⟨⟨(((numM (Int.tmod xa xb) true).1).2).2⟩⟩] 31)]) 0 rfl rfl rfl (by kernel_rfl) (by kernel_rfl) (by kernel_rfl) (by kernel_rfl) (by kernel_rfl) ?_)
            refine Ok.batch 1 [(6, .pointer (some ⟨b1, 0, none⟩)), (7, .string ⟨⟨(numM (Int.tmod xa xb) true).2⟩⟩)] (by kernel_rfl) ?_
            refine Ok.nil ?_
            refine Ok.thenN ?_
            refine Ok.ret ?_
            exact Ok.resP (vs := [.agg #[.int .i64 (((numM (Int.tmod xa xb) true).1).1), .int .i64 ((((numM (Int.tmod xa xb) true).1).2).1), .string ⟨⟨(((numM (Int.tmod xa xb) true).1).2).2⟩⟩], .string ⟨⟨(numM (Int.tmod xa xb) true).2⟩⟩]) [] [] (by decide) rfl (.inl rfl) rfl (.cons (.cellAgg 0 3 #[.int .i64 (((numM (Int.tmod xa xb) true).1).1), .int .i64 ((((numM (Int.tmod xa xb) true).1).2).1), .string ⟨⟨(((numM (Int.tmod xa xb) true).1).2).2⟩⟩] rfl rfl Tryd.underlying31 rfl (by kernel_rfl) (by kernel_rfl) (by kernel_rfl)) (.cons (.tmp rfl) .nil)) (Gext.refl w0 g) ⟨(((numM (Int.tmod xa xb) true).1).1, (((numM (Int.tmod xa xb) true).1).2).1, (((numM (Int.tmod xa xb) true).1).2).2), ((numM (Int.tmod xa xb) true).2), rfl, rfl, hF⟩
def reckM (xsign : List UInt8) (xa : Int) (xb : Int) : (Int × Int × List UInt8) × List UInt8 := (if (xsign == ([43] : List UInt8)) = true then ((((numM (IntKind.wrap .i64 (xa + xb)) true).1).1, (((numM (IntKind.wrap .i64 (xa + xb)) true).1).2).1, (((numM (IntKind.wrap .i64 (xa + xb)) true).1).2).2), (numM (IntKind.wrap .i64 (xa + xb)) true).2) else (if (xsign == ([45] : List UInt8)) = true then ((((numM (IntKind.wrap .i64 (xa - xb)) true).1).1, (((numM (IntKind.wrap .i64 (xa - xb)) true).1).2).1, (((numM (IntKind.wrap .i64 (xa - xb)) true).1).2).2), (numM (IntKind.wrap .i64 (xa - xb)) true).2) else (if (xsign == ([42] : List UInt8)) = true then ((((numM ((prodM xa xb).1) ((prodM xa xb).2)).1).1, (((numM ((prodM xa xb).1) ((prodM xa xb).2)).1).2).1, (((numM ((prodM xa xb).1) ((prodM xa xb).2)).1).2).2), (numM ((prodM xa xb).1) ((prodM xa xb).2)).2) else (if (xb == 0) = true then ((0, 0, ([] : List UInt8)), ([122, 101, 114, 111] : List UInt8)) else (if (xsign == ([47] : List UInt8)) = true then ((((numM (IntKind.wrap .i64 (Int.tdiv xa xb)) true).1).1, (((numM (IntKind.wrap .i64 (Int.tdiv xa xb)) true).1).2).1, (((numM (IntKind.wrap .i64 (Int.tdiv xa xb)) true).1).2).2), (numM (IntKind.wrap .i64 (Int.tdiv xa xb)) true).2) else ((((numM (Int.tmod xa xb) true).1).1, (((numM (Int.tmod xa xb) true).1).2).1, (((numM (Int.tmod xa xb) true).1).2).2), (numM (Int.tmod xa xb) true).2))))))
set_option linter.unusedSimpArgs false in
set_option linter.unusedVariables false in
theorem reckF_A (xsign : List UInt8) (xa : Int) (xb : Int) (hp : reckP xsign xa xb) (P : (Int × Int × List UInt8) × List UInt8 → Prop) (h : P (reckM xsign xa xb)) : reckF xsign xa xb (fun k0 k1 => P (k0, k1)) := by
  unfold reckM at h
  unfold reckF
  refine ⟨fun hc0 => ?_, fun hc0 => ?_⟩
  · rw [if_t hc0] at h
    have hd0 := hc0; try simp only [Bool.and_eq_true, Bool.or_eq_true, Bool.and_eq_false_iff, Bool.or_eq_false_iff, Bool.not_eq_true', Bool.not_eq_false', decide_eq_true_eq, decide_eq_false_iff_not, beq_iff_eq, beq_eq_false_iff_ne, ne_eq] at hd0
    exact h
  · rw [if_f hc0] at h
    have hd0 := hc0; try simp only [Bool.and_eq_true, Bool.or_eq_true, Bool.and_eq_false_iff, Bool.or_eq_false_iff, Bool.not_eq_true', Bool.not_eq_false', decide_eq_true_eq, decide_eq_false_iff_not, beq_iff_eq, beq_eq_false_iff_ne, ne_eq] at hd0
    refine ⟨fun hc1 => ?_, fun hc1 => ?_⟩
    · rw [if_t hc1] at h
      have hd1 := hc1; try simp only [Bool.and_eq_true, Bool.or_eq_true, Bool.and_eq_false_iff, Bool.or_eq_false_iff, Bool.not_eq_true', Bool.not_eq_false', decide_eq_true_eq, decide_eq_false_iff_not, beq_iff_eq, beq_eq_false_iff_ne, ne_eq] at hd1
      exact h
    · rw [if_f hc1] at h
      have hd1 := hc1; try simp only [Bool.and_eq_true, Bool.or_eq_true, Bool.and_eq_false_iff, Bool.or_eq_false_iff, Bool.not_eq_true', Bool.not_eq_false', decide_eq_true_eq, decide_eq_false_iff_not, beq_iff_eq, beq_eq_false_iff_ne, ne_eq] at hd1
      refine ⟨fun hc2 => ?_, fun hc2 => ?_⟩
      · rw [if_t hc2] at h
        have hd2 := hc2; try simp only [Bool.and_eq_true, Bool.or_eq_true, Bool.and_eq_false_iff, Bool.or_eq_false_iff, Bool.not_eq_true', Bool.not_eq_false', decide_eq_true_eq, decide_eq_false_iff_not, beq_iff_eq, beq_eq_false_iff_ne, ne_eq] at hd2
        refine ⟨?_, ?_⟩
        · first | (have := hp; unfold reckP at this; exact this) | omega | assumption | exact trivial | (simp; omega) | (simp at *; omega)
        exact h
      · rw [if_f hc2] at h
        have hd2 := hc2; try simp only [Bool.and_eq_true, Bool.or_eq_true, Bool.and_eq_false_iff, Bool.or_eq_false_iff, Bool.not_eq_true', Bool.not_eq_false', decide_eq_true_eq, decide_eq_false_iff_not, beq_iff_eq, beq_eq_false_iff_ne, ne_eq] at hd2
        refine ⟨fun hc3 => ?_, fun hc3 => ?_⟩
        · rw [if_t hc3] at h
          have hd3 := hc3; try simp only [Bool.and_eq_true, Bool.or_eq_true, Bool.and_eq_false_iff, Bool.or_eq_false_iff, Bool.not_eq_true', Bool.not_eq_false', decide_eq_true_eq, decide_eq_false_iff_not, beq_iff_eq, beq_eq_false_iff_ne, ne_eq] at hd3
          exact h
        · rw [if_f hc3] at h
          have hd3 := hc3; try simp only [Bool.and_eq_true, Bool.or_eq_true, Bool.and_eq_false_iff, Bool.or_eq_false_iff, Bool.not_eq_true', Bool.not_eq_false', decide_eq_true_eq, decide_eq_false_iff_not, beq_iff_eq, beq_eq_false_iff_ne, ne_eq] at hd3
          refine ⟨fun hc4 => ?_, fun hc4 => ?_⟩
          · rw [if_t hc4] at h
            have hd4 := hc4; try simp only [Bool.and_eq_true, Bool.or_eq_true, Bool.and_eq_false_iff, Bool.or_eq_false_iff, Bool.not_eq_true', Bool.not_eq_false', decide_eq_true_eq, decide_eq_false_iff_not, beq_iff_eq, beq_eq_false_iff_ne, ne_eq] at hd4
            refine ⟨?_, ?_⟩
            · first | (have := hp; unfold reckP at this; exact this) | omega | assumption | exact trivial | (simp; omega) | (simp at *; omega)
            exact h
          · rw [if_f hc4] at h
            have hd4 := hc4; try simp only [Bool.and_eq_true, Bool.or_eq_true, Bool.and_eq_false_iff, Bool.or_eq_false_iff, Bool.not_eq_true', Bool.not_eq_false', decide_eq_true_eq, decide_eq_false_iff_not, beq_iff_eq, beq_eq_false_iff_ne, ne_eq] at hd4
            refine ⟨?_, ?_⟩
            · first | (have := hp; unfold reckP at this; exact this) | omega | assumption | exact trivial | (simp; omega) | (simp at *; omega)
            exact h
theorem reck_F (xsign : List UInt8) (xa : Int) (xb : Int) (hp : reckP xsign xa xb) : reckF xsign xa xb (fun k0 k1 => (k0, k1) = reckM xsign xa xb) :=
  reckF_A xsign xa xb hp (fun z => z = reckM xsign xa xb) rfl
set_option linter.unusedVariables false in
theorem reck_c {g : Ghost} (xsign : List UInt8) (xa : Int) (xb : Int)  (hp : reckP xsign xa xb) : CallsG Tryd.prog 61 #[.string ⟨⟨xsign⟩⟩, .int .i64 xa, .int .i64 xb] g (.tuple #[.agg #[.int .i64 ((reckM xsign xa xb).1).1, .int .i64 ((reckM xsign xa xb).1).2.1, .string ⟨⟨((reckM xsign xa xb).1).2.2⟩⟩], .string ⟨⟨((reckM xsign xa xb).2)⟩⟩]) :=
  (reck_ok xsign xa xb _ (reck_F xsign xa xb hp)).gives (by rintro g' H' v _ ⟨r0, r1, rfl, rfl, hK⟩; obtain ⟨rfl, rfl⟩ : r0 = (reckM xsign xa xb).1 ∧ r1 = (reckM xsign xa xb).2 := ⟨congrArg (fun z => z.1) hK, congrArg (fun z => z.2) hK⟩; rfl)
def boolOfj5 (xis : Bool) (K : (Int × Int × List UInt8) → (List UInt8) → Prop) : Prop :=
  K (1, (if xis = true then 1 else 0), ([] : List UInt8)) ([] : List UInt8)
def boolOfF (xis : Bool) (K : (Int × Int × List UInt8) → (List UInt8) → Prop) : Prop :=
  ((xis) = true → boolOfj5 xis K) ∧ ((xis) = false → boolOfj5 xis K)
set_option maxHeartbeats 4000000 in
set_option maxRecDepth 100000 in
set_option linter.unusedVariables false in
theorem boolOf_ok {g : Ghost} (xis : Bool) (K : (Int × Int × List UInt8) → (List UInt8) → Prop)
    (hF : boolOfF xis K) : CallsH Tryd.prog 67 #[.bool xis] g [] (fun g' H' v => ∃ (r0 : Int × Int × List UInt8), ∃ (r1 : List UInt8), v = .tuple #[.agg #[.int .i64 r0.1, .int .i64 r0.2.1, .string ⟨⟨r0.2.2⟩⟩], .string ⟨⟨r1⟩⟩] ∧ H' = [] ∧ K r0 r1) := by
  refine CallsH.enter 9 [(0, .bool xis)] Tryd.func67 rfl (by kernel_rfl) (by kernel_rfl) (by kernel_rfl) fun w0 => ?_
  refine Ok.seq ?_
  refine Ok.region ?_
  refine Ok.op rfl (OpOk.alloc (z := .agg #[.int .i64 0, .int .i64 0, .string ⟨⟨([] : List UInt8)⟩⟩]) (cs := #[.int .i64 0, .int .i64 0, .string ⟨⟨([] : List UInt8)⟩⟩]) (by kernel_rfl) (by kernel_rfl) rfl fun b1 => ?_)
  refine Ok.batch 1 [(0, .bool xis), (2, .pointer (some ⟨b1, 0, none⟩))] (by kernel_rfl) ?_
  refine Ok.nil ?_
  refine Ok.thenN ?_
  refine Ok.seq ?_
  refine Ok.region ?_
  refine Ok.batch 1 [(0, .bool xis), (2, .pointer (some ⟨b1, 0, none⟩)), (5, .agg #[.int .i64 1, .int .i64 0, .string ⟨⟨([] : List UInt8)⟩⟩])] (by kernel_rfl) ?_
  refine Ok.op rfl (OpOk.alloc (z := .agg #[.int .i64 0, .int .i64 0, .string ⟨⟨([] : List UInt8)⟩⟩]) (cs := #[.int .i64 0, .int .i64 0, .string ⟨⟨([] : List UInt8)⟩⟩]) (by kernel_rfl) (by kernel_rfl) rfl fun b2 => ?_)
  refine Ok.op rfl (OpOk.store (k := 3) (v := .agg #[.int .i64 1, .int .i64 0, .string ⟨⟨([] : List UInt8)⟩⟩]) (H' := [.blk b2 (.cells #[.int .i64 1, .int .i64 0, .string ⟨⟨([] : List UInt8)⟩⟩] 31), .blk b1 (.cells #[.int .i64 0, .int .i64 0, .string ⟨⟨([] : List UInt8)⟩⟩] 31)]) 0 rfl rfl rfl (by kernel_rfl) (by kernel_rfl) (by kernel_rfl) (by kernel_rfl) (by kernel_rfl) ?_)
  refine Ok.nil ?_
  refine Ok.thenN ?_
  refine Ok.cut (fun a W => StA 9 [(2, .pointer (some ⟨b1, 0, none⟩)), (4, .pointer (some ⟨b2, 0, none⟩))] a ∧ StW w0 [.blk b2 (.cells #[.int .i64 1, .int .i64 (if xis = true then 1 else 0), .string ⟨⟨([] : List UInt8)⟩⟩] 31), .blk b1 (.cells #[.int .i64 0, .int .i64 0, .string ⟨⟨([] : List UInt8)⟩⟩] 31)] g W ∧ boolOfj5 xis K) ?_ ?_
  ·
    refine Ok.seq ?_
    refine Ok.region ?_
    refine Ok.batch 1 [(2, .pointer (some ⟨b1, 0, none⟩)), (4, .pointer (some ⟨b2, 0, none⟩)), (6, .bool xis)] (by kernel_rfl) ?_
    refine Ok.nil ?_
    refine Ok.thenN ?_
    refine Ok.cond (b := xis) rfl (fun hc3 => ?_) (fun hc3 => ?_)
    · replace hF := hF.1 hc3
      refine Ok.region ?_
      refine Ok.batch 1 [(2, .pointer (some ⟨b1, 0, none⟩)), (4, .pointer (some ⟨b2, 0, none⟩)), (7, .pointer (some ⟨b2, 1, none⟩))] (by kernel_rfl) ?_
      refine Ok.op rfl (OpOk.store (k := 1) (v := .int .i64 1) (H' := [.blk b2 (.cells #[.int .i64 1, .int .i64 1, .string ⟨⟨([] : List UInt8)⟩⟩] 31), .blk b1 (.cells #[.int .i64 0, .int .i64 0, .string ⟨⟨([] : List UInt8)⟩⟩] 31)]) 0 rfl rfl rfl (by kernel_rfl) (by kernel_rfl) (by kernel_rfl) (by kernel_rfl) (by kernel_rfl) ?_)
      refine Ok.nil ?_
      refine Ok.thenN ?_
      refine Ok.heapEq (H' := [.blk b2 (.cells #[.int .i64 1, .int .i64 (if xis = true then 1 else 0), .string ⟨⟨([] : List UInt8)⟩⟩] 31), .blk b1 (.cells #[.int .i64 0, .int .i64 0, .string ⟨⟨([] : List UInt8)⟩⟩] 31)]) (econs (congrArg (fun l : List Value => Ent.blk b2 (.cells ⟨l⟩ 31)) (lcons (rfl) (lcons (congrArg (Value.int .i64) ((if_t hc3).symm)) (lcons (rfl) rfl)))) (econs (rfl) rfl)) ?_
      exact fun a W hA hW => ⟨hA.sub (by kernel_rfl), hW, hF⟩
    · replace hF := hF.2 hc3
      refine Ok.skip ?_
      refine Ok.thenN ?_
      refine Ok.heapEq (H' := [.blk b2 (.cells #[.int .i64 1, .int .i64 (if xis = true then 1 else 0), .string ⟨⟨([] : List UInt8)⟩⟩] 31), .blk b1 (.cells #[.int .i64 0, .int .i64 0, .string ⟨⟨([] : List UInt8)⟩⟩] 31)]) (econs (congrArg (fun l : List Value => Ent.blk b2 (.cells ⟨l⟩ 31)) (lcons (rfl) (lcons (congrArg (Value.int .i64) ((if_f hc3).symm)) (lcons (rfl) rfl)))) (econs (rfl) rfl)) ?_
      exact fun a W hA hW => ⟨hA.sub (by kernel_rfl), hW, hF⟩
  ·
    rintro a W ⟨hA, hW, hF⟩
    refine (?_ : Ok _ _ _ _ _ _) a W hA hW
    clear hA hW
    refine Ok.seq ?_
    refine Ok.region ?_
    refine Ok.op rfl (OpOk.step (v := .agg #[.int .i64 1, .int .i64 (if xis = true then 1 else 0), .string ⟨⟨([] : List UInt8)⟩⟩]) (Yields.loadAgg 0 3 #[.int .i64 1, .int .i64 (if xis = true then 1 else 0), .string ⟨⟨([] : List UInt8)⟩⟩] rfl rfl Tryd.underlying31 rfl (by kernel_rfl) (by kernel_rfl) (by kernel_rfl)) rfl rfl ?_)
    refine Ok.op rfl (OpOk.store (k := 3) (v := .agg #[.int .i64 1, .int .i64 (if xis = true then 1 else 0), .string ⟨⟨([] : List UInt8)⟩⟩]) (H' := [.blk b2 (.cells #[.int .i64 1, .int .i64 (if xis = true then 1 else 0), .string ⟨⟨([] : List UInt8)⟩⟩] 31), .blk b1 (.cells #[.int .i64 1, .int .i64 (if xis = true then 1 else 0), .string ⟨⟨([] : List UInt8)⟩⟩] 31)]) 1 rfl rfl rfl (by kernel_rfl) (by kernel_rfl) (by kernel_rfl) (by kernel_rfl) (by kernel_rfl) ?_)
    refine Ok.batch 1 [(2, .pointer (some ⟨b1, 0, none⟩)), (3, .string ⟨⟨([] : List UInt8)⟩⟩)] (by kernel_rfl) ?_
    refine Ok.nil ?_
    refine Ok.thenN ?_
    refine Ok.ret ?_
    exact Ok.resP (vs := [.agg #[.int .i64 1, .int .i64 (if xis = true then 1 else 0), .string ⟨⟨([] : List UInt8)⟩⟩], .string ⟨⟨([] : List UInt8)⟩⟩]) [] [] (by decide) rfl (.inl rfl) rfl (.cons (.cellAgg 1 3 #[.int .i64 1, .int .i64 (if xis = true then 1 else 0), .string ⟨⟨([] : List UInt8)⟩⟩] rfl rfl Tryd.underlying31 rfl (by kernel_rfl) (by kernel_rfl) (by kernel_rfl)) (.cons (.tmp rfl) .nil)) (Gext.refl w0 g) ⟨(1, (if xis = true then 1 else 0), ([] : List UInt8)), ([] : List UInt8), rfl, rfl, hF⟩
def boolOfj5M (xis : Bool) : (Int × Int × List UInt8) × List UInt8 := ((1, (if xis = true then 1 else 0), ([] : List UInt8)), ([] : List UInt8))
set_option linter.unusedSimpArgs false in
set_option linter.unusedVariables false in
theorem boolOfj5_A (xis : Bool) (P : (Int × Int × List UInt8) × List UInt8 → Prop) (h : P (boolOfj5M xis)) : boolOfj5 xis (fun k0 k1 => P (k0, k1)) := by
  unfold boolOfj5M at h
  unfold boolOfj5
  exact h
def boolOfM (xis : Bool) : (Int × Int × List UInt8) × List UInt8 := (boolOfj5M xis)
set_option linter.unusedSimpArgs false in
set_option linter.unusedVariables false in
theorem boolOfF_A (xis : Bool) (P : (Int × Int × List UInt8) × List UInt8 → Prop) (h : P (boolOfM xis)) : boolOfF xis (fun k0 k1 => P (k0, k1)) := by
  unfold boolOfM at h
  unfold boolOfF
  refine ⟨fun hc0 => ?_, fun hc0 => ?_⟩
  · skip
    exact boolOfj5_A xis _ h
  · skip
    exact boolOfj5_A xis _ h
theorem boolOf_F (xis : Bool) : boolOfF xis (fun k0 k1 => (k0, k1) = boolOfM xis) :=
  boolOfF_A xis (fun z => z = boolOfM xis) rfl
set_option linter.unusedVariables false in
theorem boolOf_c {g : Ghost} (xis : Bool)  : CallsG Tryd.prog 67 #[.bool xis] g (.tuple #[.agg #[.int .i64 ((boolOfM xis).1).1, .int .i64 ((boolOfM xis).1).2.1, .string ⟨⟨((boolOfM xis).1).2.2⟩⟩], .string ⟨⟨((boolOfM xis).2)⟩⟩]) :=
  (boolOf_ok xis _ (boolOf_F xis)).gives (by rintro g' H' v _ ⟨r0, r1, rfl, rfl, hK⟩; obtain ⟨rfl, rfl⟩ : r0 = (boolOfM xis).1 ∧ r1 = (boolOfM xis).2 := ⟨congrArg (fun z => z.1) hK, congrArg (fun z => z.2) hK⟩; rfl)
def numOfF (xn : Int) (K : (Int × Int × List UInt8) → (List UInt8) → Prop) : Prop :=
  (((btwM xn (-9007199254740992) 9007199254740992)) = true → K (2, xn, ([] : List UInt8)) ([] : List UInt8)) ∧ (((btwM xn (-9007199254740992) 9007199254740992)) = false → K (0, 0, ([] : List UInt8)) ([114, 97, 110, 103, 101] : List UInt8))
set_option maxHeartbeats 4000000 in
set_option maxRecDepth 100000 in
set_option linter.unusedVariables false in
theorem numOf_ok {g : Ghost} (xn : Int) (K : (Int × Int × List UInt8) → (List UInt8) → Prop)
    (hF : numOfF xn K) : CallsH Tryd.prog 69 #[.int .i64 xn] g [] (fun g' H' v => ∃ (r0 : Int × Int × List UInt8), ∃ (r1 : List UInt8), v = .tuple #[.agg #[.int .i64 r0.1, .int .i64 r0.2.1, .string ⟨⟨r0.2.2⟩⟩], .string ⟨⟨r1⟩⟩] ∧ H' = [] ∧ K r0 r1) := by
  refine CallsH.enter 9 [(0, .int .i64 xn)] Tryd.func69 rfl (by kernel_rfl) (by kernel_rfl) (by kernel_rfl) fun w0 => ?_
  refine Ok.seq ?_
  refine Ok.region ?_
  refine Ok.op rfl (OpOk.alloc (z := .agg #[.int .i64 0, .int .i64 0, .string ⟨⟨([] : List UInt8)⟩⟩]) (cs := #[.int .i64 0, .int .i64 0, .string ⟨⟨([] : List UInt8)⟩⟩]) (by kernel_rfl) (by kernel_rfl) rfl fun b1 => ?_)
  refine Ok.batch 1 [(0, .int .i64 xn), (2, .pointer (some ⟨b1, 0, none⟩))] (by kernel_rfl) ?_
  refine Ok.nil ?_
  refine Ok.thenN ?_
  refine Ok.seq ?_
  refine Ok.seq ?_
  refine Ok.region ?_
  refine Ok.batch 1 [(0, .int .i64 xn), (2, .pointer (some ⟨b1, 0, none⟩)), (4, .int .i64 xn)] (by kernel_rfl) ?_
  refine Ok.op rfl (OpOk.callG (v := .bool (btwM xn (-9007199254740992) 9007199254740992)) (enters (by kernel_rfl) (fun _ => by kernel_rfl)) (fun W hW => btw_c xn (-9007199254740992) 9007199254740992) rfl ?_)
  refine Ok.nil ?_
  refine Ok.thenN ?_
  refine Ok.cond (b := (btwM xn (-9007199254740992) 9007199254740992)) rfl (fun hc2 => ?_) (fun hc2 => ?_)
  · replace hF := hF.1 hc2
    refine Ok.seq ?_
    refine Ok.region ?_
    refine Ok.batch 2 [(2, .pointer (some ⟨b1, 0, none⟩)), (7, .agg #[.int .i64 2, .int .i64 xn, .string ⟨⟨([] : List UInt8)⟩⟩])] (by kernel_rfl) ?_
    refine Ok.op rfl (OpOk.store (k := 3) (v := .agg #[.int .i64 2, .int .i64 xn, .string ⟨⟨([] : List UInt8)⟩⟩]) (H' := [.blk b1 (.cells #[.int .i64 2, .int .i64 xn, .string ⟨⟨([] : List UInt8)⟩⟩] 31)]) 0 rfl rfl rfl (by kernel_rfl) (by kernel_rfl) (by kernel_rfl) (by kernel_rfl) (by kernel_rfl) ?_)
    refine Ok.batch 1 [(2, .pointer (some ⟨b1, 0, none⟩)), (3, .string ⟨⟨([] : List UInt8)⟩⟩)] (by kernel_rfl) ?_
    refine Ok.nil ?_
    refine Ok.thenN ?_
    refine Ok.ret ?_
    refine Ok.thenR ?_
    exact Ok.resP (vs := [.agg #[.int .i64 2, .int .i64 xn, .string ⟨⟨([] : List UInt8)⟩⟩], .string ⟨⟨([] : List UInt8)⟩⟩]) [] [] (by decide) rfl (.inl rfl) rfl (.cons (.cellAgg 0 3 #[.int .i64 2, .int .i64 xn, .string ⟨⟨([] : List UInt8)⟩⟩] rfl rfl Tryd.underlying31 rfl (by kernel_rfl) (by kernel_rfl) (by kernel_rfl)) (.cons (.tmp rfl) .nil)) (Gext.refl w0 g) ⟨(2, xn, ([] : List UInt8)), ([] : List UInt8), rfl, rfl, hF⟩
  · replace hF := hF.2 hc2
    refine Ok.skip ?_
    refine Ok.thenN ?_
    refine Ok.seq ?_
    refine Ok.region ?_
    refine Ok.batch 1 [(2, .pointer (some ⟨b1, 0, none⟩)), (8, .agg #[.int .i64 0, .int .i64 0, .string ⟨⟨([] : List UInt8)⟩⟩])] (by kernel_rfl) ?_
    refine Ok.op rfl (OpOk.store (k := 3) (v := .agg #[.int .i64 0, .int .i64 0, .string ⟨⟨([] : List UInt8)⟩⟩]) (H' := [.blk b1 (.cells #[.int .i64 0, .int .i64 0, .string ⟨⟨([] : List UInt8)⟩⟩] 31)]) 0 rfl rfl rfl (by kernel_rfl) (by kernel_rfl) (by kernel_rfl) (by kernel_rfl) (by kernel_rfl) ?_)
    refine Ok.batch 1 [(2, .pointer (some ⟨b1, 0, none⟩)), (3, .string ⟨⟨([114, 97, 110, 103, 101] : List UInt8)⟩⟩)] (by kernel_rfl) ?_
    refine Ok.nil ?_
    refine Ok.thenN ?_
    refine Ok.ret ?_
    exact Ok.resP (vs := [.agg #[.int .i64 0, .int .i64 0, .string ⟨⟨([] : List UInt8)⟩⟩], .string ⟨⟨([114, 97, 110, 103, 101] : List UInt8)⟩⟩]) [] [] (by decide) rfl (.inl rfl) rfl (.cons (.cellAgg 0 3 #[.int .i64 0, .int .i64 0, .string ⟨⟨([] : List UInt8)⟩⟩] rfl rfl Tryd.underlying31 rfl (by kernel_rfl) (by kernel_rfl) (by kernel_rfl)) (.cons (.tmp rfl) .nil)) (Gext.refl w0 g) ⟨(0, 0, ([] : List UInt8)), ([114, 97, 110, 103, 101] : List UInt8), rfl, rfl, hF⟩
def numOfM (xn : Int) : (Int × Int × List UInt8) × List UInt8 := (if (btwM xn (-9007199254740992) 9007199254740992) = true then ((2, xn, ([] : List UInt8)), ([] : List UInt8)) else ((0, 0, ([] : List UInt8)), ([114, 97, 110, 103, 101] : List UInt8)))
set_option linter.unusedSimpArgs false in
set_option linter.unusedVariables false in
theorem numOfF_A (xn : Int) (P : (Int × Int × List UInt8) × List UInt8 → Prop) (h : P (numOfM xn)) : numOfF xn (fun k0 k1 => P (k0, k1)) := by
  unfold numOfM at h
  unfold numOfF
  refine ⟨fun hc0 => ?_, fun hc0 => ?_⟩
  · rw [if_t hc0] at h
    exact h
  · rw [if_f hc0] at h
    exact h
theorem numOf_F (xn : Int) : numOfF xn (fun k0 k1 => (k0, k1) = numOfM xn) :=
  numOfF_A xn (fun z => z = numOfM xn) rfl
set_option linter.unusedVariables false in
theorem numOf_c {g : Ghost} (xn : Int)  : CallsG Tryd.prog 69 #[.int .i64 xn] g (.tuple #[.agg #[.int .i64 ((numOfM xn).1).1, .int .i64 ((numOfM xn).1).2.1, .string ⟨⟨((numOfM xn).1).2.2⟩⟩], .string ⟨⟨((numOfM xn).2)⟩⟩]) :=
  (numOf_ok xn _ (numOf_F xn)).gives (by rintro g' H' v _ ⟨r0, r1, rfl, rfl, hK⟩; obtain ⟨rfl, rfl⟩ : r0 = (numOfM xn).1 ∧ r1 = (numOfM xn).2 := ⟨congrArg (fun z => z.1) hK, congrArg (fun z => z.2) hK⟩; rfl)
def oneF (xsign : List UInt8) (xv : Int × Int × List UInt8) (K : (Int × Int × List UInt8) → (List UInt8) → Prop) : Prop :=
  (((xsign == ([33] : List UInt8))) = true → K (((boolOfM (!(istM ((takenM xv).1, ((takenM xv).2).1, ((takenM xv).2).2)))).1).1, (((boolOfM (!(istM ((takenM xv).1, ((takenM xv).2).1, ((takenM xv).2).2)))).1).2).1, (((boolOfM (!(istM ((takenM xv).1, ((takenM xv).2).1, ((takenM xv).2).2)))).1).2).2) ((boolOfM (!(istM ((takenM xv).1, ((takenM xv).2).1, ((takenM xv).2).2)))).2)) ∧ (((xsign == ([33] : List UInt8))) = false → ((!(xsign == ([45] : List UInt8))) = true → K (0, 0, ([] : List UInt8)) ([115, 105, 103, 110] : List UInt8)) ∧ ((!(xsign == ([45] : List UInt8))) = false → (((((takenM xv).1) != 2)) = true → K (0, 0, ([] : List UInt8)) ([107, 105, 110, 100] : List UInt8)) ∧ (((((takenM xv).1) != 2)) = false → K (((numOfM (IntKind.wrap .i64 (0 - (((takenM xv).2).1)))).1).1, (((numOfM (IntKind.wrap .i64 (0 - (((takenM xv).2).1)))).1).2).1, (((numOfM (IntKind.wrap .i64 (0 - (((takenM xv).2).1)))).1).2).2) ((numOfM (IntKind.wrap .i64 (0 - (((takenM xv).2).1)))).2))))
set_option maxHeartbeats 4000000 in
set_option maxRecDepth 100000 in
set_option linter.unusedVariables false in
theorem one_ok {g : Ghost} (xsign : List UInt8) (xv : Int × Int × List UInt8) (K : (Int × Int × List UInt8) → (List UInt8) → Prop)
    (hF : oneF xsign xv K) : CallsH Tryd.prog 19 #[.string ⟨⟨xsign⟩⟩, .agg #[.int .i64 xv.1, .int .i64 xv.2.1, .string ⟨⟨xv.2.2⟩⟩]] g [] (fun g' H' v => ∃ (r0 : Int × Int × List UInt8), ∃ (r1 : List UInt8), v = .tuple #[.agg #[.int .i64 r0.1, .int .i64 r0.2.1, .string ⟨⟨r0.2.2⟩⟩], .string ⟨⟨r1⟩⟩] ∧ H' = [] ∧ K r0 r1) := by
  refine CallsH.enter 29 [(0, .string ⟨⟨xsign⟩⟩), (1, .agg #[.int .i64 xv.1, .int .i64 xv.2.1, .string ⟨⟨xv.2.2⟩⟩])] Tryd.func19 rfl (by kernel_rfl) (by kernel_rfl) (by kernel_rfl) fun w0 => ?_
  refine Ok.seq ?_
  refine Ok.region ?_
  refine Ok.op rfl (OpOk.box (v := .agg #[.int .i64 xv.1, .int .i64 xv.2.1, .string ⟨⟨xv.2.2⟩⟩]) (cs := #[.int .i64 xv.1, .int .i64 xv.2.1, .string ⟨⟨xv.2.2⟩⟩]) rfl (by kernel_rfl) rfl fun b1 => ?_)
  refine Ok.op rfl (OpOk.alloc (z := .agg #[.int .i64 0, .int .i64 0, .string ⟨⟨([] : List UInt8)⟩⟩]) (cs := #[.int .i64 0, .int .i64 0, .string ⟨⟨([] : List UInt8)⟩⟩]) (by kernel_rfl) (by kernel_rfl) rfl fun b2 => ?_)
  refine Ok.batch 1 [(0, .string ⟨⟨xsign⟩⟩), (3, .pointer (some ⟨b1, 0, none⟩)), (4, .pointer (some ⟨b2, 0, none⟩))] (by kernel_rfl) ?_
  refine Ok.nil ?_
  refine Ok.thenN ?_
  refine Ok.seq ?_
  refine Ok.region ?_
  refine Ok.op rfl (OpOk.step (v := .agg #[.int .i64 xv.1, .int .i64 xv.2.1, .string ⟨⟨xv.2.2⟩⟩]) (Yields.loadAgg 1 3 #[.int .i64 xv.1, .int .i64 xv.2.1, .string ⟨⟨xv.2.2⟩⟩] rfl rfl Tryd.underlying31 rfl (by kernel_rfl) (by kernel_rfl) (by kernel_rfl)) rfl rfl ?_)
  refine Ok.op rfl (OpOk.callG (v := .agg #[.int .i64 ((takenM xv).1), .int .i64 (((takenM xv).2).1), .string ⟨⟨((takenM xv).2).2⟩⟩]) (enters (by kernel_rfl) (fun _ => by kernel_rfl)) (fun W hW => taken_c xv) rfl ?_)
  refine Ok.op rfl (OpOk.store (k := 3) (v := .agg #[.int .i64 ((takenM xv).1), .int .i64 (((takenM xv).2).1), .string ⟨⟨((takenM xv).2).2⟩⟩]) (H' := [.blk b2 (.cells #[.int .i64 0, .int .i64 0, .string ⟨⟨([] : List UInt8)⟩⟩] 31), .blk b1 (.cells #[.int .i64 ((takenM xv).1), .int .i64 (((takenM xv).2).1), .string ⟨⟨((takenM xv).2).2⟩⟩] 31)]) 1 rfl rfl rfl (by kernel_rfl) (by kernel_rfl) (by kernel_rfl) (by kernel_rfl) (by kernel_rfl) ?_)
  refine Ok.nil ?_
  refine Ok.thenN ?_
  refine Ok.seq ?_
  refine Ok.seq ?_
  refine Ok.region ?_
  refine Ok.batch 1 [(0, .string ⟨⟨xsign⟩⟩), (3, .pointer (some ⟨b1, 0, none⟩)), (4, .pointer (some ⟨b2, 0, none⟩)), (8, .string ⟨⟨xsign⟩⟩)] (by kernel_rfl) ?_
  refine Ok.op rfl (OpOk.step (v := .bool (xsign == ([33] : List UInt8))) (Yields.strCmp (f := .eql) (a := xsign) (b := ([33] : List UInt8)) (by kernel_rfl) (by kernel_rfl) rfl) rfl rfl ?_)
  refine Ok.nil ?_
  refine Ok.thenN ?_
  refine Ok.cond (b := (xsign == ([33] : List UInt8))) rfl (fun hc3 => ?_) (fun hc3 => ?_)
  · replace hF := hF.1 hc3
    refine Ok.seq ?_
    refine Ok.region ?_
    refine Ok.op rfl (OpOk.step (v := .agg #[.int .i64 ((takenM xv).1), .int .i64 (((takenM xv).2).1), .string ⟨⟨((takenM xv).2).2⟩⟩]) (Yields.loadAgg 1 3 #[.int .i64 ((takenM xv).1), .int .i64 (((takenM xv).2).1), .string ⟨⟨((takenM xv).2).2⟩⟩] rfl rfl Tryd.underlying31 rfl (by kernel_rfl) (by kernel_rfl) (by kernel_rfl)) rfl rfl ?_)
    refine Ok.op rfl (OpOk.callG (v := .bool (istM ((takenM xv).1, ((takenM xv).2).1, ((takenM xv).2).2))) (enters (by kernel_rfl) (fun _ => by kernel_rfl)) (fun W hW => ist_c ((takenM xv).1, ((takenM xv).2).1, ((takenM xv).2).2)) rfl ?_)
    refine Ok.batch 1 [(4, .pointer (some ⟨b2, 0, none⟩)), (12, .bool (!(istM ((takenM xv).1, ((takenM xv).2).1, ((takenM xv).2).2))))] (by kernel_rfl) ?_
    refine Ok.op rfl (OpOk.callG (v := .tuple #[.agg #[.int .i64 (((boolOfM (!(istM ((takenM xv).1, ((takenM xv).2).1, ((takenM xv).2).2)))).1).1), .int .i64 ((((boolOfM (!(istM ((takenM xv).1, ((takenM xv).2).1, ((takenM xv).2).2)))).1).2).1), .string ⟨⟨(((boolOfM (!(istM ((takenM xv).1, ((takenM xv).2).1, ((takenM xv).2).2)))).1).2).2⟩⟩], .string ⟨⟨(boolOfM (!(istM ((takenM xv).1, ((takenM xv).2).1, ((takenM xv).2).2)))).2⟩⟩]) (enters (by kernel_rfl) (fun _ => by kernel_rfl)) (fun W hW => boolOf_c (!(istM ((takenM xv).1, ((takenM xv).2).1, ((takenM xv).2).2)))) rfl ?_)
    refine Ok.batch 2 [(4, .pointer (some ⟨b2, 0, none⟩)), (14, .agg #[.int .i64 (((boolOfM (!(istM ((takenM xv).1, ((takenM xv).2).1, ((takenM xv).2).2)))).1).1), .int .i64 ((((boolOfM (!(istM ((takenM xv).1, ((takenM xv).2).1, ((takenM xv).2).2)))).1).2).1), .string ⟨⟨(((boolOfM (!(istM ((takenM xv).1, ((takenM xv).2).1, ((takenM xv).2).2)))).1).2).2⟩⟩]), (15, .string ⟨⟨(boolOfM (!(istM ((takenM xv).1, ((takenM xv).2).1, ((takenM xv).2).2)))).2⟩⟩)] (by kernel_rfl) ?_
    refine Ok.op rfl (OpOk.store (k := 3) (v := .agg #[.int .i64 (((boolOfM (!(istM ((takenM xv).1, ((takenM xv).2).1, ((takenM xv).2).2)))).1).1), .int .i64 ((((boolOfM (!(istM ((takenM xv).1, ((takenM xv).2).1, ((takenM xv).2).2)))).1).2).1), .string ⟨⟨(((boolOfM (!(istM ((takenM xv).1, ((takenM xv).2).1, ((takenM xv).2).2)))).1).2).2⟩⟩]) (H' := [.blk b2 (.cells #[.int .i64 (((boolOfM (!(istM ((takenM xv).1, ((takenM xv).2).1, ((takenM xv).2).2)))).1).1), .int .i64 ((((boolOfM (!(istM ((takenM xv).1, ((takenM xv).2).1, ((takenM xv).2).2)))).1).2).1), .string ⟨⟨(((boolOfM (!(istM ((takenM xv).1, ((takenM xv).2).1, ((takenM xv).2).2)))).1).2).2⟩⟩] 31), .blk b1 (.cells #[.int .i64 ((takenM xv).1), .int .i64 (((takenM xv).2).1), .string ⟨⟨((takenM xv).2).2⟩⟩] 31)]) 0 rfl rfl rfl (by kernel_rfl) (by kernel_rfl) (by kernel_rfl) (by kernel_rfl) (by kernel_rfl) ?_)
    refine Ok.batch 1 [(4, .pointer (some ⟨b2, 0, none⟩)), (5, .string ⟨⟨(boolOfM (!(istM ((takenM xv).1, ((takenM xv).2).1, ((takenM xv).2).2)))).2⟩⟩)] (by kernel_rfl) ?_
    refine Ok.nil ?_
    refine Ok.thenN ?_
    refine Ok.ret ?_
    refine Ok.thenR ?_
    exact Ok.resP (vs := [.agg #[.int .i64 (((boolOfM (!(istM ((takenM xv).1, ((takenM xv).2).1, ((takenM xv).2).2)))).1).1), .int .i64 ((((boolOfM (!(istM ((takenM xv).1, ((takenM xv).2).1, ((takenM xv).2).2)))).1).2).1), .string ⟨⟨(((boolOfM (!(istM ((takenM xv).1, ((takenM xv).2).1, ((takenM xv).2).2)))).1).2).2⟩⟩], .string ⟨⟨(boolOfM (!(istM ((takenM xv).1, ((takenM xv).2).1, ((takenM xv).2).2)))).2⟩⟩]) [] [] (by decide) rfl (.inl rfl) rfl (.cons (.cellAgg 0 3 #[.int .i64 (((boolOfM (!(istM ((takenM xv).1, ((takenM xv).2).1, ((takenM xv).2).2)))).1).1), .int .i64 ((((boolOfM (!(istM ((takenM xv).1, ((takenM xv).2).1, ((takenM xv).2).2)))).1).2).1), .string ⟨⟨(((boolOfM (!(istM ((takenM xv).1, ((takenM xv).2).1, ((takenM xv).2).2)))).1).2).2⟩⟩] rfl rfl Tryd.underlying31 rfl (by kernel_rfl) (by kernel_rfl) (by kernel_rfl)) (.cons (.tmp rfl) .nil)) (Gext.refl w0 g) ⟨(((boolOfM (!(istM ((takenM xv).1, ((takenM xv).2).1, ((takenM xv).2).2)))).1).1, (((boolOfM (!(istM ((takenM xv).1, ((takenM xv).2).1, ((takenM xv).2).2)))).1).2).1, (((boolOfM (!(istM ((takenM xv).1, ((takenM xv).2).1, ((takenM xv).2).2)))).1).2).2), ((boolOfM (!(istM ((takenM xv).1, ((takenM xv).2).1, ((takenM xv).2).2)))).2), rfl, rfl, hF⟩
  · replace hF := hF.2 hc3
    refine Ok.skip ?_
    refine Ok.thenN ?_
    refine Ok.seq ?_
    refine Ok.seq ?_
    refine Ok.region ?_
    refine Ok.batch 1 [(3, .pointer (some ⟨b1, 0, none⟩)), (4, .pointer (some ⟨b2, 0, none⟩)), (16, .string ⟨⟨xsign⟩⟩)] (by kernel_rfl) ?_
    refine Ok.op rfl (OpOk.step (v := .bool (!(xsign == ([45] : List UInt8)))) (Yields.strCmp (f := .neq) (a := xsign) (b := ([45] : List UInt8)) (by kernel_rfl) (by kernel_rfl) rfl) rfl rfl ?_)
    refine Ok.nil ?_
    refine Ok.thenN ?_
    refine Ok.cond (b := !(xsign == ([45] : List UInt8))) rfl (fun hc4 => ?_) (fun hc4 => ?_)
    · replace hF := hF.1 hc4
      refine Ok.seq ?_
      refine Ok.region ?_
      refine Ok.batch 1 [(4, .pointer (some ⟨b2, 0, none⟩)), (18, .agg #[.int .i64 0, .int .i64 0, .string ⟨⟨([] : List UInt8)⟩⟩])] (by kernel_rfl) ?_
      refine Ok.op rfl (OpOk.store (k := 3) (v := .agg #[.int .i64 0, .int .i64 0, .string ⟨⟨([] : List UInt8)⟩⟩]) (H' := [.blk b2 (.cells #[.int .i64 0, .int .i64 0, .string ⟨⟨([] : List UInt8)⟩⟩] 31), .blk b1 (.cells #[.int .i64 ((takenM xv).1), .int .i64 (((takenM xv).2).1), .string ⟨⟨((takenM xv).2).2⟩⟩] 31)]) 0 rfl rfl rfl (by kernel_rfl) (by kernel_rfl) (by kernel_rfl) (by kernel_rfl) (by kernel_rfl) ?_)
      refine Ok.batch 1 [(4, .pointer (some ⟨b2, 0, none⟩)), (5, .string ⟨⟨([115, 105, 103, 110] : List UInt8)⟩⟩)] (by kernel_rfl) ?_
      refine Ok.nil ?_
      refine Ok.thenN ?_
      refine Ok.ret ?_
      refine Ok.thenR ?_
      exact Ok.resP (vs := [.agg #[.int .i64 0, .int .i64 0, .string ⟨⟨([] : List UInt8)⟩⟩], .string ⟨⟨([115, 105, 103, 110] : List UInt8)⟩⟩]) [] [] (by decide) rfl (.inl rfl) rfl (.cons (.cellAgg 0 3 #[.int .i64 0, .int .i64 0, .string ⟨⟨([] : List UInt8)⟩⟩] rfl rfl Tryd.underlying31 rfl (by kernel_rfl) (by kernel_rfl) (by kernel_rfl)) (.cons (.tmp rfl) .nil)) (Gext.refl w0 g) ⟨(0, 0, ([] : List UInt8)), ([115, 105, 103, 110] : List UInt8), rfl, rfl, hF⟩
    · replace hF := hF.2 hc4
      refine Ok.skip ?_
      refine Ok.thenN ?_
      refine Ok.seq ?_
      refine Ok.seq ?_
      refine Ok.region ?_
      refine Ok.batch 1 [(3, .pointer (some ⟨b1, 0, none⟩)), (4, .pointer (some ⟨b2, 0, none⟩)), (19, .pointer (some ⟨b1, 0, none⟩))] (by kernel_rfl) ?_
      refine Ok.op rfl (OpOk.step (v := .int .i64 ((takenM xv).1)) (Yields.load 1 rfl rfl Tryd.underlying3 rfl (by kernel_rfl)) rfl rfl ?_)
      refine Ok.batch 1 [(3, .pointer (some ⟨b1, 0, none⟩)), (4, .pointer (some ⟨b2, 0, none⟩)), (21, .bool (((takenM xv).1) != 2))] (by kernel_rfl) ?_
      refine Ok.nil ?_
      refine Ok.thenN ?_
      refine Ok.cond (b := (((takenM xv).1) != 2)) rfl (fun hc5 => ?_) (fun hc5 => ?_)
      · replace hF := hF.1 hc5
        refine Ok.seq ?_
        refine Ok.region ?_
        refine Ok.batch 1 [(4, .pointer (some ⟨b2, 0, none⟩)), (22, .agg #[.int .i64 0, .int .i64 0, .string ⟨⟨([] : List UInt8)⟩⟩])] (by kernel_rfl) ?_
        refine Ok.op rfl (OpOk.store (k := 3) (v := .agg #[.int .i64 0, .int .i64 0, .string ⟨⟨([] : List UInt8)⟩⟩]) (H' := [.blk b2 (.cells #[.int .i64 0, .int .i64 0, .string ⟨⟨([] : List UInt8)⟩⟩] 31), .blk b1 (.cells #[.int .i64 ((takenM xv).1), .int .i64 (((takenM xv).2).1), .string ⟨⟨((takenM xv).2).2⟩⟩] 31)]) 0 rfl rfl rfl (by kernel_rfl) (by kernel_rfl) (by kernel_rfl) (by kernel_rfl) (by kernel_rfl) ?_)
        refine Ok.batch 1 [(4, .pointer (some ⟨b2, 0, none⟩)), (5, .string ⟨⟨([107, 105, 110, 100] : List UInt8)⟩⟩)] (by kernel_rfl) ?_
        refine Ok.nil ?_
        refine Ok.thenN ?_
        refine Ok.ret ?_
        refine Ok.thenR ?_
        exact Ok.resP (vs := [.agg #[.int .i64 0, .int .i64 0, .string ⟨⟨([] : List UInt8)⟩⟩], .string ⟨⟨([107, 105, 110, 100] : List UInt8)⟩⟩]) [] [] (by decide) rfl (.inl rfl) rfl (.cons (.cellAgg 0 3 #[.int .i64 0, .int .i64 0, .string ⟨⟨([] : List UInt8)⟩⟩] rfl rfl Tryd.underlying31 rfl (by kernel_rfl) (by kernel_rfl) (by kernel_rfl)) (.cons (.tmp rfl) .nil)) (Gext.refl w0 g) ⟨(0, 0, ([] : List UInt8)), ([107, 105, 110, 100] : List UInt8), rfl, rfl, hF⟩
      · replace hF := hF.2 hc5
        refine Ok.skip ?_
        refine Ok.thenN ?_
        refine Ok.seq ?_
        refine Ok.region ?_
        refine Ok.batch 1 [(4, .pointer (some ⟨b2, 0, none⟩)), (23, .pointer (some ⟨b1, 1, none⟩))] (by kernel_rfl) ?_
        refine Ok.op rfl (OpOk.step (v := .int .i64 (((takenM xv).2).1)) (Yields.load 1 rfl rfl Tryd.underlying3 rfl (by kernel_rfl)) rfl rfl ?_)
        refine Ok.batch 1 [(4, .pointer (some ⟨b2, 0, none⟩)), (25, .int .i64 (IntKind.wrap .i64 (0 - (((takenM xv).2).1))))] (by kernel_rfl) ?_
        refine Ok.op rfl (OpOk.callG (v := .tuple #[.agg #[.int .i64 (((numOfM (IntKind.wrap .i64 (0 - (((takenM xv).2).1)))).1).1), .int .i64 ((((numOfM (IntKind.wrap .i64 (0 - (((takenM xv).2).1)))).1).2).1), .string ⟨⟨(((numOfM (IntKind.wrap .i64 (0 - (((takenM xv).2).1)))).1).2).2⟩⟩], .string ⟨⟨(numOfM (IntKind.wrap .i64 (0 - (((takenM xv).2).1)))).2⟩⟩]) (enters (by kernel_rfl) (fun _ => by kernel_rfl)) (fun W hW => numOf_c (IntKind.wrap .i64 (0 - (((takenM xv).2).1)))) rfl ?_)
        refine Ok.batch 2 [(4, .pointer (some ⟨b2, 0, none⟩)), (27, .agg #[.int .i64 (((numOfM (IntKind.wrap .i64 (0 - (((takenM xv).2).1)))).1).1), .int .i64 ((((numOfM (IntKind.wrap .i64 (0 - (((takenM xv).2).1)))).1).2).1), .string ⟨⟨(((numOfM (IntKind.wrap .i64 (0 - (((takenM xv).2).1)))).1).2).2⟩⟩]), (28, .string ⟨⟨(numOfM (IntKind.wrap .i64 (0 - (((takenM xv).2).1)))).2⟩⟩)] (by kernel_rfl) ?_
        refine Ok.op rfl (OpOk.store (k := 3) (v := .agg #[.int .i64 (((numOfM (IntKind.wrap .i64 (0 - (((takenM xv).2).1)))).1).1), .int .i64 ((((numOfM (IntKind.wrap .i64 (0 - (((takenM xv).2).1)))).1).2).1), .string ⟨⟨(((numOfM (IntKind.wrap .i64 (0 - (((takenM xv).2).1)))).1).2).2⟩⟩]) (H' := [.blk b2 (.cells #[.int .i64 (((numOfM (IntKind.wrap .i64 (0 - (((takenM xv).2).1)))).1).1), .int .i64 ((((numOfM (IntKind.wrap .i64 (0 - (((takenM xv).2).1)))).1).2).1), .string ⟨⟨(((numOfM (IntKind.wrap .i64 (0 - (((takenM xv).2).1)))).1).2).2⟩⟩] 31), .blk b1 (.cells #[.int .i64 ((takenM xv).1), .int .i64 (((takenM xv).2).1), .string ⟨⟨((takenM xv).2).2⟩⟩] 31)]) 0 rfl rfl rfl (by kernel_rfl) (by kernel_rfl) (by kernel_rfl) (by kernel_rfl) (by kernel_rfl) ?_)
        refine Ok.batch 1 [(4, .pointer (some ⟨b2, 0, none⟩)), (5, .string ⟨⟨(numOfM (IntKind.wrap .i64 (0 - (((takenM xv).2).1)))).2⟩⟩)] (by kernel_rfl) ?_
        refine Ok.nil ?_
        refine Ok.thenN ?_
        refine Ok.ret ?_
        exact Ok.resP (vs := [.agg #[.int .i64 (((numOfM (IntKind.wrap .i64 (0 - (((takenM xv).2).1)))).1).1), .int .i64 ((((numOfM (IntKind.wrap .i64 (0 - (((takenM xv).2).1)))).1).2).1), .string ⟨⟨(((numOfM (IntKind.wrap .i64 (0 - (((takenM xv).2).1)))).1).2).2⟩⟩], .string ⟨⟨(numOfM (IntKind.wrap .i64 (0 - (((takenM xv).2).1)))).2⟩⟩]) [] [] (by decide) rfl (.inl rfl) rfl (.cons (.cellAgg 0 3 #[.int .i64 (((numOfM (IntKind.wrap .i64 (0 - (((takenM xv).2).1)))).1).1), .int .i64 ((((numOfM (IntKind.wrap .i64 (0 - (((takenM xv).2).1)))).1).2).1), .string ⟨⟨(((numOfM (IntKind.wrap .i64 (0 - (((takenM xv).2).1)))).1).2).2⟩⟩] rfl rfl Tryd.underlying31 rfl (by kernel_rfl) (by kernel_rfl) (by kernel_rfl)) (.cons (.tmp rfl) .nil)) (Gext.refl w0 g) ⟨(((numOfM (IntKind.wrap .i64 (0 - (((takenM xv).2).1)))).1).1, (((numOfM (IntKind.wrap .i64 (0 - (((takenM xv).2).1)))).1).2).1, (((numOfM (IntKind.wrap .i64 (0 - (((takenM xv).2).1)))).1).2).2), ((numOfM (IntKind.wrap .i64 (0 - (((takenM xv).2).1)))).2), rfl, rfl, hF⟩
def oneM (xsign : List UInt8) (xv : Int × Int × List UInt8) : (Int × Int × List UInt8) × List UInt8 := (if (xsign == ([33] : List UInt8)) = true then ((((boolOfM (!(istM ((takenM xv).1, ((takenM xv).2).1, ((takenM xv).2).2)))).1).1, (((boolOfM (!(istM ((takenM xv).1, ((takenM xv).2).1, ((takenM xv).2).2)))).1).2).1, (((boolOfM (!(istM ((takenM xv).1, ((takenM xv).2).1, ((takenM xv).2).2)))).1).2).2), (boolOfM (!(istM ((takenM xv).1, ((takenM xv).2).1, ((takenM xv).2).2)))).2) else (if (!(xsign == ([45] : List UInt8))) = true then ((0, 0, ([] : List UInt8)), ([115, 105, 103, 110] : List UInt8)) else (if (((takenM xv).1) != 2) = true then ((0, 0, ([] : List UInt8)), ([107, 105, 110, 100] : List UInt8)) else ((((numOfM (IntKind.wrap .i64 (0 - (((takenM xv).2).1)))).1).1, (((numOfM (IntKind.wrap .i64 (0 - (((takenM xv).2).1)))).1).2).1, (((numOfM (IntKind.wrap .i64 (0 - (((takenM xv).2).1)))).1).2).2), (numOfM (IntKind.wrap .i64 (0 - (((takenM xv).2).1)))).2))))
set_option linter.unusedSimpArgs false in
set_option linter.unusedVariables false in
theorem oneF_A (xsign : List UInt8) (xv : Int × Int × List UInt8) (P : (Int × Int × List UInt8) × List UInt8 → Prop) (h : P (oneM xsign xv)) : oneF xsign xv (fun k0 k1 => P (k0, k1)) := by
  unfold oneM at h
  unfold oneF
  refine ⟨fun hc0 => ?_, fun hc0 => ?_⟩
  · rw [if_t hc0] at h
    have hd0 := hc0; try simp only [Bool.and_eq_true, Bool.or_eq_true, Bool.and_eq_false_iff, Bool.or_eq_false_iff, Bool.not_eq_true', Bool.not_eq_false', decide_eq_true_eq, decide_eq_false_iff_not, beq_iff_eq, beq_eq_false_iff_ne, ne_eq] at hd0
    exact h
  · rw [if_f hc0] at h
    have hd0 := hc0; try simp only [Bool.and_eq_true, Bool.or_eq_true, Bool.and_eq_false_iff, Bool.or_eq_false_iff, Bool.not_eq_true', Bool.not_eq_false', decide_eq_true_eq, decide_eq_false_iff_not, beq_iff_eq, beq_eq_false_iff_ne, ne_eq] at hd0
    refine ⟨fun hc1 => ?_, fun hc1 => ?_⟩
    · rw [if_t hc1] at h
      have hd1 := hc1; try simp only [Bool.and_eq_true, Bool.or_eq_true, Bool.and_eq_false_iff, Bool.or_eq_false_iff, Bool.not_eq_true', Bool.not_eq_false', decide_eq_true_eq, decide_eq_false_iff_not, beq_iff_eq, beq_eq_false_iff_ne, ne_eq] at hd1
      exact h
    · rw [if_f hc1] at h
      have hd1 := hc1; try simp only [Bool.and_eq_true, Bool.or_eq_true, Bool.and_eq_false_iff, Bool.or_eq_false_iff, Bool.not_eq_true', Bool.not_eq_false', decide_eq_true_eq, decide_eq_false_iff_not, beq_iff_eq, beq_eq_false_iff_ne, ne_eq] at hd1
      refine ⟨fun hc2 => ?_, fun hc2 => ?_⟩
      · rw [if_t hc2] at h
        exact h
      · rw [if_f hc2] at h
        exact h
theorem one_F (xsign : List UInt8) (xv : Int × Int × List UInt8) : oneF xsign xv (fun k0 k1 => (k0, k1) = oneM xsign xv) :=
  oneF_A xsign xv (fun z => z = oneM xsign xv) rfl
set_option linter.unusedVariables false in
theorem one_c {g : Ghost} (xsign : List UInt8) (xv : Int × Int × List UInt8)  : CallsG Tryd.prog 19 #[.string ⟨⟨xsign⟩⟩, .agg #[.int .i64 xv.1, .int .i64 xv.2.1, .string ⟨⟨xv.2.2⟩⟩]] g (.tuple #[.agg #[.int .i64 ((oneM xsign xv).1).1, .int .i64 ((oneM xsign xv).1).2.1, .string ⟨⟨((oneM xsign xv).1).2.2⟩⟩], .string ⟨⟨((oneM xsign xv).2)⟩⟩]) :=
  (one_ok xsign xv _ (one_F xsign xv)).gives (by rintro g' H' v _ ⟨r0, r1, rfl, rfl, hK⟩; obtain ⟨rfl, rfl⟩ : r0 = (oneM xsign xv).1 ∧ r1 = (oneM xsign xv).2 := ⟨congrArg (fun z => z.1) hK, congrArg (fun z => z.2) hK⟩; rfl)
def timesj21 (K : Int → Prop) (x1l13 : Int) (x5l13 : Int) (x6l13 : Int) (C13 : Int → Int → Int → Prop) : Prop :=
  ((decide ((IntKind.wrap .i64 (Int.tdiv x1l13 2)) > 0)) = true → ((!(btwM (IntKind.wrap .i64 (x6l13 + x6l13)) (-1152921504606846976) 1152921504606846976)) = true → K 1152921504606846976) ∧ ((!(btwM (IntKind.wrap .i64 (x6l13 + x6l13)) (-1152921504606846976) 1152921504606846976)) = false → C13 (IntKind.wrap .i64 (Int.tdiv x1l13 2)) (if ((Int.tmod x1l13 2) == 1) = true then IntKind.wrap .i64 (x5l13 + x6l13) else x5l13) (IntKind.wrap .i64 (x6l13 + x6l13)))) ∧ ((decide ((IntKind.wrap .i64 (Int.tdiv x1l13 2)) > 0)) = false → C13 (IntKind.wrap .i64 (Int.tdiv x1l13 2)) (if ((Int.tmod x1l13 2) == 1) = true then IntKind.wrap .i64 (x5l13 + x6l13) else x5l13) x6l13)
def timesl13b (K : Int → Prop) (x1l13 : Int) (x5l13 : Int) (x6l13 : Int) (C13 : Int → Int → Int → Prop) : Prop :=
  ((decide (x1l13 > 0)) = true → ((((Int.tmod x1l13 2) == 1)) = true → ((!(btwM (IntKind.wrap .i64 (x5l13 + x6l13)) (-1152921504606846976) 1152921504606846976)) = true → K 1152921504606846976) ∧ ((!(btwM (IntKind.wrap .i64 (x5l13 + x6l13)) (-1152921504606846976) 1152921504606846976)) = false → timesj21 K x1l13 x5l13 x6l13 C13)) ∧ ((((Int.tmod x1l13 2) == 1)) = false → timesj21 K x1l13 x5l13 x6l13 C13)) ∧ ((decide (x1l13 > 0)) = false → K x5l13)
def timesl13 (K : Int → Prop) : Nat → Int → Int → Int → Prop
  | 0, _, _, _ => False
  | k + 1, x1l13, x5l13, x6l13 => timesl13b K x1l13 x5l13 x6l13 (timesl13 K k)
def timesj3 (xa : Int) (xb : Int) (K : Int → Prop) : Prop :=
  ∃ k, timesl13 K k (if (decide (xb < 0)) = true then IntKind.wrap .i64 (0 - xb) else xb) 0 (if (decide (xb < 0)) = true then IntKind.wrap .i64 (0 - xa) else xa)
def timesF (xa : Int) (xb : Int) (K : Int → Prop) : Prop :=
  ((decide (xb < 0)) = true → timesj3 xa xb K) ∧ ((decide (xb < 0)) = false → timesj3 xa xb K)
set_option maxHeartbeats 4000000 in
set_option maxRecDepth 100000 in
set_option linter.unusedVariables false in
theorem times_ok {g : Ghost} (xa : Int) (xb : Int) (K : Int → Prop)
    (hF : timesF xa xb K) : CallsH Tryd.prog 71 #[.int .i64 xa, .int .i64 xb] g [] (fun g' H' v => ∃ (r0 : Int), v = .int .i64 r0 ∧ H' = [] ∧ K r0) := by
  refine CallsH.enter 36 [(0, .int .i64 xa), (1, .int .i64 xb)] Tryd.func71 rfl (by kernel_rfl) (by kernel_rfl) (by kernel_rfl) fun w0 => ?_
  refine Ok.seq ?_
  refine Ok.region ?_
  refine Ok.batch 1 [(0, .int .i64 xa), (1, .int .i64 xb)] (by kernel_rfl) ?_
  refine Ok.nil ?_
  refine Ok.thenN ?_
  refine Ok.cut (fun a W => StA 36 [(0, .int .i64 (if (decide (xb < 0)) = true then IntKind.wrap .i64 (0 - xa) else xa)), (1, .int .i64 (if (decide (xb < 0)) = true then IntKind.wrap .i64 (0 - xb) else xb))] a ∧ StW w0 [] g W ∧ timesj3 xa xb K) ?_ ?_
  ·
    refine Ok.seq ?_
    refine Ok.region ?_
    refine Ok.batch 2 [(0, .int .i64 xa), (1, .int .i64 xb), (8, .bool (decide (xb < 0)))] (by kernel_rfl) ?_
    refine Ok.nil ?_
    refine Ok.thenN ?_
    refine Ok.cond (b := decide (xb < 0)) rfl (fun hc6 => ?_) (fun hc6 => ?_)
    · replace hF := hF.1 hc6
      refine Ok.region ?_
      refine Ok.batch 6 [(0, .int .i64 (IntKind.wrap .i64 (0 - xa))), (1, .int .i64 (IntKind.wrap .i64 (0 - xb)))] (by kernel_rfl) ?_
      refine Ok.nil ?_
      refine Ok.thenN ?_
      refine Ok.reval 0 rfl (show (.int .i64 (IntKind.wrap .i64 (0 - xa)) : Value) = .int .i64 (if (decide (xb < 0)) = true then IntKind.wrap .i64 (0 - xa) else xa) from congrArg (Value.int .i64) ((if_t hc6).symm)) ?_
      refine Ok.reval 1 rfl (show (.int .i64 (IntKind.wrap .i64 (0 - xb)) : Value) = .int .i64 (if (decide (xb < 0)) = true then IntKind.wrap .i64 (0 - xb) else xb) from congrArg (Value.int .i64) ((if_t hc6).symm)) ?_
      exact fun a W hA hW => ⟨hA.sub (by kernel_rfl), hW, hF⟩
    · replace hF := hF.2 hc6
      refine Ok.skip ?_
      refine Ok.thenN ?_
      refine Ok.reval 0 rfl (show (.int .i64 xa : Value) = .int .i64 (if (decide (xb < 0)) = true then IntKind.wrap .i64 (0 - xa) else xa) from congrArg (Value.int .i64) ((if_f hc6).symm)) ?_
      refine Ok.reval 1 rfl (show (.int .i64 xb : Value) = .int .i64 (if (decide (xb < 0)) = true then IntKind.wrap .i64 (0 - xb) else xb) from congrArg (Value.int .i64) ((if_f hc6).symm)) ?_
      exact fun a W hA hW => ⟨hA.sub (by kernel_rfl), hW, hF⟩
  ·
    rintro a W ⟨hA, hW, hF⟩
    refine (?_ : Ok _ _ _ _ _ _) a W hA hW
    clear hA hW
    refine Ok.seq ?_
    refine Ok.region ?_
    refine Ok.batch 3 [(1, .int .i64 (if (decide (xb < 0)) = true then IntKind.wrap .i64 (0 - xb) else xb)), (5, .int .i64 0), (6, .int .i64 (if (decide (xb < 0)) = true then IntKind.wrap .i64 (0 - xa) else xa))] (by kernel_rfl) ?_
    refine Ok.nil ?_
    refine Ok.thenN ?_
    refine Ok.seq ?_
    refine Ok.block ?_
    obtain ⟨k, hF⟩ := hF
    refine Ok.loop (fun k a W => ∃ (x1l13 : Int) (x5l13 : Int) (x6l13 : Int), StA 36 [(1, .int .i64 x1l13), (5, .int .i64 x5l13), (6, .int .i64 x6l13)] a ∧ StW w0 [] g W ∧ timesl13 K k x1l13 x5l13 x6l13) k ?_ ?_
    ·
      exact fun a W hA hW => ⟨(if (decide (xb < 0)) = true then IntKind.wrap .i64 (0 - xb) else xb), 0, (if (decide (xb < 0)) = true then IntKind.wrap .i64 (0 - xa) else xa), hA.sub (by kernel_rfl), hW, hF⟩
    ·
      rintro k13 a W ⟨x1l13, x5l13, x6l13, hA, hW, hF⟩
      cases k13 with
      | zero => exact (hF : False).elim
      | succ k13 =>
        refine (?_ : Ok _ _ _ _ _ _) a W hA hW
        clear hA hW
        refine Ok.seq ?_
        refine Ok.seq ?_
        refine Ok.region ?_
        refine Ok.batch 2 [(1, .int .i64 x1l13), (5, .int .i64 x5l13), (6, .int .i64 x6l13), (15, .bool (decide (x1l13 > 0)))] (by kernel_rfl) ?_
        refine Ok.nil ?_
        refine Ok.thenN ?_
        refine Ok.cond (b := decide (x1l13 > 0)) rfl (fun hc1 => ?_) (fun hc1 => ?_)
        · replace hF := hF.1 hc1
          refine Ok.skip ?_
          refine Ok.thenN ?_
          refine Ok.block ?_
          refine Ok.cut (fun a W => StA 36 [(1, .int .i64 x1l13), (5, .int .i64 (if ((Int.tmod x1l13 2) == 1) = true then IntKind.wrap .i64 (x5l13 + x6l13) else x5l13)), (6, .int .i64 x6l13)] a ∧ StW w0 [] g W ∧ timesj21 K x1l13 x5l13 x6l13 (timesl13 K k13)) ?_ ?_
          ·
            refine Ok.seq ?_
            refine Ok.region ?_
            refine Ok.batch 3 [(1, .int .i64 x1l13), (5, .int .i64 x5l13), (6, .int .i64 x6l13), (18, .bool ((Int.tmod x1l13 2) == 1))] (by kernel_rfl) ?_
            refine Ok.nil ?_
            refine Ok.thenN ?_
            refine Ok.cond (b := ((Int.tmod x1l13 2) == 1)) rfl (fun hc4 => ?_) (fun hc4 => ?_)
            · replace hF := hF.1 hc4
              refine Ok.seq ?_
              refine Ok.region ?_
              refine Ok.batch 4 [(1, .int .i64 x1l13), (5, .int .i64 (IntKind.wrap .i64 (x5l13 + x6l13))), (6, .int .i64 x6l13)] (by kernel_rfl) ?_
              refine Ok.nil ?_
              refine Ok.thenN ?_
              refine Ok.seq ?_
              refine Ok.region ?_
              refine Ok.batch 1 [(1, .int .i64 x1l13), (5, .int .i64 (IntKind.wrap .i64 (x5l13 + x6l13))), (6, .int .i64 x6l13), (22, .int .i64 (IntKind.wrap .i64 (x5l13 + x6l13)))] (by kernel_rfl) ?_
              refine Ok.op rfl (OpOk.callG (v := .bool (btwM (IntKind.wrap .i64 (x5l13 + x6l13)) (-1152921504606846976) 1152921504606846976)) (enters (by kernel_rfl) (fun _ => by kernel_rfl)) (fun W hW => btw_c (IntKind.wrap .i64 (x5l13 + x6l13)) (-1152921504606846976) 1152921504606846976) rfl ?_)
              refine Ok.batch 1 [(1, .int .i64 x1l13), (5, .int .i64 (IntKind.wrap .i64 (x5l13 + x6l13))), (6, .int .i64 x6l13), (24, .bool (!(btwM (IntKind.wrap .i64 (x5l13 + x6l13)) (-1152921504606846976) 1152921504606846976)))] (by kernel_rfl) ?_
              refine Ok.nil ?_
              refine Ok.thenN ?_
              refine Ok.cond (b := !(btwM (IntKind.wrap .i64 (x5l13 + x6l13)) (-1152921504606846976) 1152921504606846976)) rfl (fun hc5 => ?_) (fun hc5 => ?_)
              · replace hF := hF.1 hc5
                refine Ok.seq ?_
                refine Ok.region ?_
                refine Ok.batch 1 [(4, .int .i64 1152921504606846976)] (by kernel_rfl) ?_
                refine Ok.nil ?_
                refine Ok.thenN ?_
                refine Ok.ret ?_
                refine Ok.thenR ?_
                refine Ok.blockR ?_
                refine Ok.thenR ?_
                refine Ok.blockR ?_
                refine Ok.thenR ?_
                exact Ok.resH (vs := [.int .i64 1152921504606846976]) (.inl rfl) rfl (.cons (.tmp rfl) .nil) (Gext.refl w0 g) ⟨1152921504606846976, rfl, rfl, hF⟩
              · replace hF := hF.2 hc5
                refine Ok.skip ?_
                refine Ok.thenN ?_
                refine Ok.reval 5 rfl (show (.int .i64 (IntKind.wrap .i64 (x5l13 + x6l13)) : Value) = .int .i64 (if ((Int.tmod x1l13 2) == 1) = true then IntKind.wrap .i64 (x5l13 + x6l13) else x5l13) from congrArg (Value.int .i64) ((if_t hc4).symm)) ?_
                exact fun a W hA hW => ⟨hA.sub (by kernel_rfl), hW, hF⟩
            · replace hF := hF.2 hc4
              refine Ok.skip ?_
              refine Ok.thenN ?_
              refine Ok.reval 5 rfl (show (.int .i64 x5l13 : Value) = .int .i64 (if ((Int.tmod x1l13 2) == 1) = true then IntKind.wrap .i64 (x5l13 + x6l13) else x5l13) from congrArg (Value.int .i64) ((if_f hc4).symm)) ?_
              exact fun a W hA hW => ⟨hA.sub (by kernel_rfl), hW, hF⟩
          ·
            rintro a W ⟨hA, hW, hF⟩
            refine (?_ : Ok _ _ _ _ _ _) a W hA hW
            clear hA hW
            refine Ok.seq ?_
            refine Ok.region ?_
            refine Ok.batch 3 [(1, .int .i64 (IntKind.wrap .i64 (Int.tdiv x1l13 2))), (5, .int .i64 (if ((Int.tmod x1l13 2) == 1) = true then IntKind.wrap .i64 (x5l13 + x6l13) else x5l13)), (6, .int .i64 x6l13)] (by kernel_rfl) ?_
            refine Ok.nil ?_
            refine Ok.thenN ?_
            refine Ok.seq ?_
            refine Ok.region ?_
            refine Ok.batch 2 [(1, .int .i64 (IntKind.wrap .i64 (Int.tdiv x1l13 2))), (5, .int .i64 (if ((Int.tmod x1l13 2) == 1) = true then IntKind.wrap .i64 (x5l13 + x6l13) else x5l13)), (6, .int .i64 x6l13), (28, .bool (decide ((IntKind.wrap .i64 (Int.tdiv x1l13 2)) > 0)))] (by kernel_rfl) ?_
            refine Ok.nil ?_
            refine Ok.thenN ?_
            refine Ok.cond (b := decide ((IntKind.wrap .i64 (Int.tdiv x1l13 2)) > 0)) rfl (fun hc2 => ?_) (fun hc2 => ?_)
            · replace hF := hF.1 hc2
              refine Ok.seq ?_
              refine Ok.region ?_
              refine Ok.batch 4 [(1, .int .i64 (IntKind.wrap .i64 (Int.tdiv x1l13 2))), (5, .int .i64 (if ((Int.tmod x1l13 2) == 1) = true then IntKind.wrap .i64 (x5l13 + x6l13) else x5l13)), (6, .int .i64 (IntKind.wrap .i64 (x6l13 + x6l13)))] (by kernel_rfl) ?_
              refine Ok.nil ?_
              refine Ok.thenN ?_
              refine Ok.seq ?_
              refine Ok.region ?_
              refine Ok.batch 1 [(1, .int .i64 (IntKind.wrap .i64 (Int.tdiv x1l13 2))), (5, .int .i64 (if ((Int.tmod x1l13 2) == 1) = true then IntKind.wrap .i64 (x5l13 + x6l13) else x5l13)), (6, .int .i64 (IntKind.wrap .i64 (x6l13 + x6l13))), (32, .int .i64 (IntKind.wrap .i64 (x6l13 + x6l13)))] (by kernel_rfl) ?_
              refine Ok.op rfl (OpOk.callG (v := .bool (btwM (IntKind.wrap .i64 (x6l13 + x6l13)) (-1152921504606846976) 1152921504606846976)) (enters (by kernel_rfl) (fun _ => by kernel_rfl)) (fun W hW => btw_c (IntKind.wrap .i64 (x6l13 + x6l13)) (-1152921504606846976) 1152921504606846976) rfl ?_)
              refine Ok.batch 1 [(1, .int .i64 (IntKind.wrap .i64 (Int.tdiv x1l13 2))), (5, .int .i64 (if ((Int.tmod x1l13 2) == 1) = true then IntKind.wrap .i64 (x5l13 + x6l13) else x5l13)), (6, .int .i64 (IntKind.wrap .i64 (x6l13 + x6l13))), (34, .bool (!(btwM (IntKind.wrap .i64 (x6l13 + x6l13)) (-1152921504606846976) 1152921504606846976)))] (by kernel_rfl) ?_
              refine Ok.nil ?_
              refine Ok.thenN ?_
              refine Ok.cond (b := !(btwM (IntKind.wrap .i64 (x6l13 + x6l13)) (-1152921504606846976) 1152921504606846976)) rfl (fun hc3 => ?_) (fun hc3 => ?_)
              · replace hF := hF.1 hc3
                refine Ok.seq ?_
                refine Ok.region ?_
                refine Ok.batch 1 [(4, .int .i64 1152921504606846976)] (by kernel_rfl) ?_
                refine Ok.nil ?_
                refine Ok.thenN ?_
                refine Ok.ret ?_
                refine Ok.blockR ?_
                refine Ok.thenR ?_
                refine Ok.blockR ?_
                refine Ok.thenR ?_
                exact Ok.resH (vs := [.int .i64 1152921504606846976]) (.inl rfl) rfl (.cons (.tmp rfl) .nil) (Gext.refl w0 g) ⟨1152921504606846976, rfl, rfl, hF⟩
              · replace hF := hF.2 hc3
                refine Ok.skip ?_
                refine Ok.blockN ?_
                refine Ok.thenN ?_
                exact fun a W hA hW => ⟨k13, Nat.lt_succ_self _, IntKind.wrap .i64 (Int.tdiv x1l13 2), (if ((Int.tmod x1l13 2) == 1) = true then IntKind.wrap .i64 (x5l13 + x6l13) else x5l13), IntKind.wrap .i64 (x6l13 + x6l13), hA.sub (by kernel_rfl), hW, hF⟩
            · replace hF := hF.2 hc2
              refine Ok.skip ?_
              refine Ok.blockN ?_
              refine Ok.thenN ?_
              exact fun a W hA hW => ⟨k13, Nat.lt_succ_self _, IntKind.wrap .i64 (Int.tdiv x1l13 2), (if ((Int.tmod x1l13 2) == 1) = true then IntKind.wrap .i64 (x5l13 + x6l13) else x5l13), x6l13, hA.sub (by kernel_rfl), hW, hF⟩
        · replace hF := hF.2 hc1
          refine Ok.exit ?_
          refine Ok.thenE ?_
          refine Ok.thenE ?_
          refine Ok.blockHit ?_
          refine Ok.thenN ?_
          refine Ok.seq ?_
          refine Ok.region ?_
          refine Ok.batch 2 [(4, .int .i64 x5l13)] (by kernel_rfl) ?_
          refine Ok.nil ?_
          refine Ok.thenN ?_
          refine Ok.ret ?_
          exact Ok.resH (vs := [.int .i64 x5l13]) (.inl rfl) rfl (.cons (.tmp rfl) .nil) (Gext.refl w0 g) ⟨x5l13, rfl, rfl, hF⟩
def timesS (a b : Int) : Int := if -1152921504606846976 ≤ a * b ∧ a * b ≤ 1152921504606846976 then a * b else 1152921504606846976
theorem btw_far (x : Int) : btwM x (-1152921504606846976) 1152921504606846976 = decide (-1152921504606846976 ≤ x ∧ x ≤ 1152921504606846976) := by
  unfold btwM
  rw [Bool.eq_iff_iff]; simp
theorem times_loop (P : Int) (K : Int → Prop) (hK : K (if -1152921504606846976 ≤ P ∧ P ≤ 1152921504606846976 then P else 1152921504606846976)) : ∀ (k : Nat) (b o g : Int), 0 ≤ b → b ≤ 9223372036854775807 → b < 2 ^ k →
    (-1152921504606846976 ≤ o ∧ o ≤ 1152921504606846976) → (-1152921504606846976 ≤ g ∧ g ≤ 1152921504606846976) →
    ((0 ≤ o ∧ 0 ≤ g) ∨ (o ≤ 0 ∧ g ≤ 0)) → o + g * b = P → timesl13 K (k + 1) b o g := by
  intro k
  induction k with
  | zero =>
    intro b o g h0 hm h1 ho hg hs hP
    obtain rfl : b = 0 := by simp at h1; omega
    refine ⟨fun h => by simp at h, fun _ => ?_⟩
    rw [Int.mul_zero, Int.add_zero] at hP
    subst hP
    rw [if_pos ho] at hK
    exact hK
  | succ k ih =>
    intro b o g h0 hm h1 ho hg hs hP
    refine ⟨fun h => ?_, fun h => ?_⟩
    · have hb : 0 < b := by simpa using h
      have em : Int.tmod b 2 = b % 2 := Int.tmod_eq_emod_of_nonneg h0
      have ed : IntKind.wrap .i64 (Int.tdiv b 2) = b / 2 := by
        rw [Int.tdiv_eq_ediv_of_nonneg h0, w64 (by omega)]
      have hk : b / 2 < 2 ^ k := by rw [Int.pow_succ] at h1; omega
      have hP2 : o + (if b % 2 = 1 then g else 0) + (g * (b / 2) + g * (b / 2)) = P := by
        rw [← hP, ← Int.mul_add]
        by_cases h2 : b % 2 = 1
        · rw [if_pos h2, show b = (b / 2 + b / 2) + 1 by omega, Int.mul_add g _ 1, show (b / 2 + b / 2 + 1) / 2 = b / 2 by omega]; omega
        · rw [if_neg h2, show b / 2 + b / 2 = b by omega]; omega
      have t0 : (0 ≤ g → 0 ≤ g * (b / 2)) ∧ (g ≤ 0 → g * (b / 2) ≤ 0) := ⟨fun h => Int.mul_nonneg h (by omega), fun h => by
        have := Int.mul_nonneg (show 0 ≤ -g by omega) (show 0 ≤ b / 2 by omega); rw [Int.neg_mul] at this; omega⟩
      have t1 : 1 ≤ b / 2 → (0 ≤ g → g ≤ g * (b / 2)) ∧ (g ≤ 0 → g * (b / 2) ≤ g) := fun h1 => ⟨fun h => by
        have := Int.mul_nonneg h (show 0 ≤ b / 2 - 1 by omega); rw [Int.mul_sub] at this; omega, fun h => by
        have := Int.mul_nonneg (show 0 ≤ -g by omega) (show 0 ≤ b / 2 - 1 by omega); rw [Int.neg_mul, Int.mul_sub] at this; omega⟩
      have t2 : (g + g) * (b / 2) = g * (b / 2) + g * (b / 2) := Int.add_mul _ _ _
      have far : ¬ (-1152921504606846976 ≤ P ∧ P ≤ 1152921504606846976) → K 1152921504606846976 := fun h => by rw [if_neg h] at hK; exact hK
      generalize g * (b / 2) = t at hP2 t0 t1 t2
      have j21 : ∀ o' : Int, o' = o + (if b % 2 = 1 then g else 0) → (-1152921504606846976 ≤ o' ∧ o' ≤ 1152921504606846976) →
          (((decide (IntKind.wrap .i64 (Int.tdiv b 2) > 0)) = true → ((!(btwM (IntKind.wrap .i64 (g + g)) (-1152921504606846976) 1152921504606846976)) = true → K 1152921504606846976) ∧ ((!(btwM (IntKind.wrap .i64 (g + g)) (-1152921504606846976) 1152921504606846976)) = false → timesl13 K (k + 1) (IntKind.wrap .i64 (Int.tdiv b 2)) o' (IntKind.wrap .i64 (g + g)))) ∧ ((decide (IntKind.wrap .i64 (Int.tdiv b 2) > 0)) = false → timesl13 K (k + 1) (IntKind.wrap .i64 (Int.tdiv b 2)) o' g)) := by
        intro o' ho' hb'
        rw [ed, w64 (x := g + g) (by omega), btw_far]
        have hs' : (0 ≤ o' ∧ 0 ≤ g) ∨ (o' ≤ 0 ∧ g ≤ 0) := by split at ho' <;> omega
        rw [← ho'] at hP2
        refine ⟨fun h3 => ⟨fun h4 => ?_, fun h4 => ?_⟩, fun h3 => ?_⟩
        · have h3 := of_decide_eq_true h3
          refine far ?_
          simp at h4
          have := t1 (by omega)
          omega
        · simp at h4
          exact ih _ _ _ (by omega) (by omega) hk hb' (by omega) (by omega) (by rw [t2]; exact hP2)
        · have h3 := of_decide_eq_false h3
          have h5 : b / 2 = 0 := by omega
          refine ih _ _ _ (by omega) (by omega) hk hb' hg hs' ?_
          rw [h5, Int.mul_zero] at t2
          rw [h5, Int.mul_zero]
          omega
      refine ⟨fun h2 => ⟨fun h4 => ?_, fun h4 => ?_⟩, fun h2 => ?_⟩
      · have h2 : b % 2 = 1 := by rw [em] at h2; simpa using h2
        rw [w64 (by omega), btw_far] at h4
        simp at h4
        rw [if_pos h2] at hP2
        refine far ?_
        omega
      · have h2' : b % 2 = 1 := by rw [em] at h2; simpa using h2
        rw [w64 (by omega), btw_far] at h4
        simp at h4
        unfold timesj21
        rw [if_pos h2, w64 (x := o + g) (by omega)]
        exact j21 (o + g) (by rw [if_pos h2']) h4
      · have h2' : ¬ b % 2 = 1 := by rw [em] at h2; simpa using h2
        unfold timesj21
        rw [if_f h2]
        exact j21 o (by rw [if_neg h2']; omega) ho
    · obtain rfl : b = 0 := by simp at h; omega
      rw [Int.mul_zero, Int.add_zero] at hP
      subst hP
      rw [if_pos ho] at hK
      exact hK
theorem times_F (a b : Int) (h : prodP a b) : timesF a b (fun r => r = timesS a b) := by
  unfold prodP numB at h
  refine ⟨fun h0 => ⟨55, ?_⟩, fun h0 => ⟨55, ?_⟩⟩
  · rw [if_t h0, if_t h0, w64 (by omega), w64 (by omega)]
    have h0 := of_decide_eq_true h0
    exact times_loop (a * b) (fun r => r = timesS a b) rfl 54 (0 - b) 0 (0 - a) (by omega) (by omega) (by omega) (by omega) (by omega) (by omega) (by rw [Int.zero_sub, Int.zero_sub, Int.neg_mul_neg]; omega)
  · rw [if_f h0, if_f h0]
    have h0 := of_decide_eq_false h0
    exact times_loop (a * b) (fun r => r = timesS a b) rfl 54 b 0 a (by omega) (by omega) (by omega) (by omega) (by omega) (by omega) (by omega)
set_option linter.unusedVariables false in
theorem times_c {g : Ghost} (xa : Int) (xb : Int)  (hp : prodP xa xb) : CallsG Tryd.prog 71 #[.int .i64 xa, .int .i64 xb] g (.int .i64 (timesS xa xb)) :=
  (times_ok xa xb _ (times_F xa xb hp)).gives (by rintro g' H' v _ ⟨r0, rfl, rfl, hK⟩; subst hK; rfl)
def binP (_ : List UInt8) (a b : JV) : Prop := textP a ∧ textP b
theorem itoa_len {x : Int} (h : i64P x) (h0 : x ≠ -9223372036854775808) : (Lib.itoa x).length ≤ 21 := by
  unfold i64P at h
  unfold Lib.itoa
  by_cases h1 : x < 0
  · rw [if_pos h1]
    have := dig_len (n := -x) (by omega)
    unfold digS at this
    simp only [List.length_cons]
    rw [show x.natAbs = (-x).toNat by omega]
    omega
  · rw [if_neg h1]
    have := dig_len (n := x) (by omega)
    unfold digS at this
    omega
theorem shown_len {v : JV} (h : textP v) : (shownM v).length ≤ 150000000000000 := by
  rw [← shown_text]
  unfold textM
  by_cases h1 : (rightM v).1 = 1
  · rw [if_t (by rw [h1]; rfl)]; rcases right_bool h1 with e | e <;> rw [e] <;> decide
  · rw [if_f (by simpa using h1)]
    by_cases h2 : (rightM v).1 = 2
    · rw [if_t (by rw [h2]; rfl)]
      have := right_num h2
      have := itoa_len (x := (rightM v).2.1) (by unfold i64P; omega) (by omega)
      omega
    · rw [if_f (by simpa using h2)]
      have := right_len h
      repeat' split
      all_goals simp <;> omega
theorem right_textP {v : JV} (h : textP v) : textP (rightM v) := ⟨right_i64 h, right_len h⟩
theorem taken_textP {v : JV} (h : textP v) : textP (takenM v) := by rw [right_taken]; exact right_textP h
theorem text_len {v : JV} (h : textP v) : (textM v).length ≤ 150000000000000 := by rw [shown_text]; exact shown_len h
def binj48 (xsign : List UInt8) (xa : Int × Int × List UInt8) (xb : Int × Int × List UInt8) (K : (Int × Int × List UInt8) → (List UInt8) → Prop) : Prop :=
  ((((xsign == ([43] : List UInt8)) && ((((rightM xa).1) == 3) || (((rightM xb).1) == 3)))) = true → textP ((rightM xa).1, ((rightM xa).2).1, ((rightM xa).2).2) ∧ textP ((rightM xb).1, ((rightM xb).2).1, ((rightM xb).2).2) ∧ (textM ((rightM xa).1, ((rightM xa).2).1, ((rightM xa).2).2)).length + (textM ((rightM xb).1, ((rightM xb).2).1, ((rightM xb).2).2)).length ≤ maxLen ∧ ((decide ((((textM ((rightM xa).1, ((rightM xa).2).1, ((rightM xa).2).2)) ++ (textM ((rightM xb).1, ((rightM xb).2).1, ((rightM xb).2).2))).length : Int) > 2000)) = true → K (0, 0, ([] : List UInt8)) ([108, 97, 114, 103, 101] : List UInt8)) ∧ ((decide ((((textM ((rightM xa).1, ((rightM xa).2).1, ((rightM xa).2).2)) ++ (textM ((rightM xb).1, ((rightM xb).2).1, ((rightM xb).2).2))).length : Int) > 2000)) = false → K (3, 0, (textM ((rightM xa).1, ((rightM xa).2).1, ((rightM xa).2).2)) ++ (textM ((rightM xb).1, ((rightM xb).2).1, ((rightM xb).2).2))) ([] : List UInt8))) ∧ ((((xsign == ([43] : List UInt8)) && ((((rightM xa).1) == 3) || (((rightM xb).1) == 3)))) = false → K (0, 0, ([] : List UInt8)) ([107, 105, 110, 100] : List UInt8))
def binj68 (xsign : List UInt8) (xa : Int × Int × List UInt8) (xb : Int × Int × List UInt8) (K : (Int × Int × List UInt8) → (List UInt8) → Prop) : Prop :=
  ((((xsign == ([60] : List UInt8)) || ((xsign == ([60, 61] : List UInt8)) || ((xsign == ([62] : List UInt8)) || (xsign == ([62, 61] : List UInt8)))))) = true → ((((((rightM xa).1) == 2) && (((rightM xb).1) == 2))) = true → K ((orddM xsign (cmpiM (((rightM xa).2).1) (((rightM xb).2).1))).1, ((orddM xsign (cmpiM (((rightM xa).2).1) (((rightM xb).2).1))).2).1, ((orddM xsign (cmpiM (((rightM xa).2).1) (((rightM xb).2).1))).2).2) ([] : List UInt8)) ∧ ((((((rightM xa).1) == 2) && (((rightM xb).1) == 2))) = false → ((((((rightM xa).1) == 3) && (((rightM xb).1) == 3))) = true → K ((orddM xsign (Lib.compareBytes (((rightM xa).2).2) (((rightM xb).2).2))).1, ((orddM xsign (Lib.compareBytes (((rightM xa).2).2) (((rightM xb).2).2))).2).1, ((orddM xsign (Lib.compareBytes (((rightM xa).2).2) (((rightM xb).2).2))).2).2) ([] : List UInt8)) ∧ ((((((rightM xa).1) == 3) && (((rightM xb).1) == 3))) = false → K (0, 0, ([] : List UInt8)) ([107, 105, 110, 100] : List UInt8)))) ∧ ((((xsign == ([60] : List UInt8)) || ((xsign == ([60, 61] : List UInt8)) || ((xsign == ([62] : List UInt8)) || (xsign == ([62, 61] : List UInt8)))))) = false → K (0, 0, ([] : List UInt8)) ([115, 105, 103, 110] : List UInt8))
def binj21 (xsign : List UInt8) (xa : Int × Int × List UInt8) (xb : Int × Int × List UInt8) (K : (Int × Int × List UInt8) → (List UInt8) → Prop) : Prop :=
  ((((xsign == ([43] : List UInt8)) || ((xsign == ([45] : List UInt8)) || ((xsign == ([42] : List UInt8)) || ((xsign == ([47] : List UInt8)) || (xsign == ([37] : List UInt8))))))) = true → ((((((rightM xa).1) == 2) && (((rightM xb).1) == 2))) = true → reckP xsign (((rightM xa).2).1) (((rightM xb).2).1) ∧ K (((reckM xsign (((rightM xa).2).1) (((rightM xb).2).1)).1).1, (((reckM xsign (((rightM xa).2).1) (((rightM xb).2).1)).1).2).1, (((reckM xsign (((rightM xa).2).1) (((rightM xb).2).1)).1).2).2) ((reckM xsign (((rightM xa).2).1) (((rightM xb).2).1)).2)) ∧ ((((((rightM xa).1) == 2) && (((rightM xb).1) == 2))) = false → (((xsign == ([43] : List UInt8))) = true → (((((rightM xa).1) == 3)) = true → binj48 xsign xa xb K) ∧ (((((rightM xa).1) == 3)) = false → binj48 xsign xa xb K)) ∧ (((xsign == ([43] : List UInt8))) = false → binj48 xsign xa xb K))) ∧ ((((xsign == ([43] : List UInt8)) || ((xsign == ([45] : List UInt8)) || ((xsign == ([42] : List UInt8)) || ((xsign == ([47] : List UInt8)) || (xsign == ([37] : List UInt8))))))) = false → (((xsign == ([60] : List UInt8))) = true → binj68 xsign xa xb K) ∧ (((xsign == ([60] : List UInt8))) = false → (((xsign == ([60, 61] : List UInt8))) = true → binj68 xsign xa xb K) ∧ (((xsign == ([60, 61] : List UInt8))) = false → (((xsign == ([62] : List UInt8))) = true → binj68 xsign xa xb K) ∧ (((xsign == ([62] : List UInt8))) = false → binj68 xsign xa xb K))))
def binj11 (xsign : List UInt8) (xa : Int × Int × List UInt8) (xb : Int × Int × List UInt8) (K : (Int × Int × List UInt8) → (List UInt8) → Prop) : Prop :=
  ((((xsign == ([61, 61] : List UInt8)) || (xsign == ([33, 61] : List UInt8)))) = true → K ((truM (([(((rightM xa).1) == ((rightM xb).1)), ((((rightM xa).2).1) == (((rightM xb).2).1)), ((((rightM xa).2).2) == (((rightM xb).2).2))].all id) == (xsign == ([61, 61] : List UInt8)))).1, ((truM (([(((rightM xa).1) == ((rightM xb).1)), ((((rightM xa).2).1) == (((rightM xb).2).1)), ((((rightM xa).2).2) == (((rightM xb).2).2))].all id) == (xsign == ([61, 61] : List UInt8)))).2).1, ((truM (([(((rightM xa).1) == ((rightM xb).1)), ((((rightM xa).2).1) == (((rightM xb).2).1)), ((((rightM xa).2).2) == (((rightM xb).2).2))].all id) == (xsign == ([61, 61] : List UInt8)))).2).2) ([] : List UInt8)) ∧ ((((xsign == ([61, 61] : List UInt8)) || (xsign == ([33, 61] : List UInt8)))) = false → (((xsign == ([43] : List UInt8))) = true → binj21 xsign xa xb K) ∧ (((xsign == ([43] : List UInt8))) = false → (((xsign == ([45] : List UInt8))) = true → binj21 xsign xa xb K) ∧ (((xsign == ([45] : List UInt8))) = false → (((xsign == ([42] : List UInt8))) = true → binj21 xsign xa xb K) ∧ (((xsign == ([42] : List UInt8))) = false → (((xsign == ([47] : List UInt8))) = true → binj21 xsign xa xb K) ∧ (((xsign == ([47] : List UInt8))) = false → binj21 xsign xa xb K)))))
def binj5 (xsign : List UInt8) (xa : Int × Int × List UInt8) (xb : Int × Int × List UInt8) (K : (Int × Int × List UInt8) → (List UInt8) → Prop) : Prop :=
  (((xsign == ([61, 61] : List UInt8))) = true → binj11 xsign xa xb K) ∧ (((xsign == ([61, 61] : List UInt8))) = false → binj11 xsign xa xb K)
def binF (xsign : List UInt8) (xa : Int × Int × List UInt8) (xb : Int × Int × List UInt8) (K : (Int × Int × List UInt8) → (List UInt8) → Prop) : Prop :=
  (((((rightM xa).1) == 2)) = true → (((((rightM xa).1) == 3)) = true → binj5 xsign xa xb K) ∧ (((((rightM xa).1) == 3)) = false → binj5 xsign xa xb K)) ∧ (((((rightM xa).1) == 2)) = false → (((((rightM xa).1) == 3)) = true → binj5 xsign xa xb K) ∧ (((((rightM xa).1) == 3)) = false → binj5 xsign xa xb K))
set_option maxHeartbeats 4000000 in
set_option maxRecDepth 100000 in
set_option linter.unusedVariables false in
theorem bin_ok {g : Ghost} (xsign : List UInt8) (xa : Int × Int × List UInt8) (xb : Int × Int × List UInt8) (hG5 : GlobL g 5 (.int .u64) DPow) (K : (Int × Int × List UInt8) → (List UInt8) → Prop)
    (hF : binF xsign xa xb K) : CallsH Tryd.prog 18 #[.string ⟨⟨xsign⟩⟩, .agg #[.int .i64 xa.1, .int .i64 xa.2.1, .string ⟨⟨xa.2.2⟩⟩], .agg #[.int .i64 xb.1, .int .i64 xb.2.1, .string ⟨⟨xb.2.2⟩⟩]] g [] (fun g' H' v => ∃ (r0 : Int × Int × List UInt8), ∃ (r1 : List UInt8), v = .tuple #[.agg #[.int .i64 r0.1, .int .i64 r0.2.1, .string ⟨⟨r0.2.2⟩⟩], .string ⟨⟨r1⟩⟩] ∧ H' = [] ∧ K r0 r1) := by
  refine CallsH.enter 108 [(0, .string ⟨⟨xsign⟩⟩), (1, .agg #[.int .i64 xa.1, .int .i64 xa.2.1, .string ⟨⟨xa.2.2⟩⟩]), (2, .agg #[.int .i64 xb.1, .int .i64 xb.2.1, .string ⟨⟨xb.2.2⟩⟩])] Tryd.func18 rfl (by kernel_rfl) (by kernel_rfl) (by kernel_rfl) fun w0 => ?_
  refine Ok.seq ?_
  refine Ok.region ?_
  refine Ok.op rfl (OpOk.box (v := .agg #[.int .i64 xa.1, .int .i64 xa.2.1, .string ⟨⟨xa.2.2⟩⟩]) (cs := #[.int .i64 xa.1, .int .i64 xa.2.1, .string ⟨⟨xa.2.2⟩⟩]) rfl (by kernel_rfl) rfl fun b1 => ?_)
  refine Ok.op rfl (OpOk.box (v := .agg #[.int .i64 xb.1, .int .i64 xb.2.1, .string ⟨⟨xb.2.2⟩⟩]) (cs := #[.int .i64 xb.1, .int .i64 xb.2.1, .string ⟨⟨xb.2.2⟩⟩]) rfl (by kernel_rfl) rfl fun b2 => ?_)
  refine Ok.op rfl (OpOk.alloc (z := .agg #[.int .i64 0, .int .i64 0, .string ⟨⟨([] : List UInt8)⟩⟩]) (cs := #[.int .i64 0, .int .i64 0, .string ⟨⟨([] : List UInt8)⟩⟩]) (by kernel_rfl) (by kernel_rfl) rfl fun b3 => ?_)
  refine Ok.batch 1 [(0, .string ⟨⟨xsign⟩⟩), (4, .pointer (some ⟨b1, 0, none⟩)), (5, .pointer (some ⟨b2, 0, none⟩)), (6, .pointer (some ⟨b3, 0, none⟩))] (by kernel_rfl) ?_
  refine Ok.nil ?_
  refine Ok.thenN ?_
  refine Ok.seq ?_
  refine Ok.mix [0, 1, 2, 3] [.blk b3 (.cells #[.int .i64 0, .int .i64 0, .string ⟨⟨([] : List UInt8)⟩⟩] 31)] [(0, true), (1, true), (2, true), (3, true), (4, false), (5, false)] (by kernel_rfl) (by kernel_rfl) (.cons_cons _ (.cons _ (.cons _ .slnil))) ?_
  refine OkM.head rfl rfl (show _ = [.blk b3 (.cells #[.int .i64 0, .int .i64 0, .string ⟨⟨([] : List UInt8)⟩⟩] 31), .blk b2 (.cells #[.int .i64 xb.1, .int .i64 xb.2.1, .string ⟨⟨xb.2.2⟩⟩] 31), .blk b1 (.cells #[.int .i64 xa.1, .int .i64 xa.2.1, .string ⟨⟨xa.2.2⟩⟩] 31)] from rfl) (OpQ.step (v := .agg #[.int .i64 xa.1, .int .i64 xa.2.1, .string ⟨⟨xa.2.2⟩⟩]) (Yields.loadAgg 2 3 #[.int .i64 xa.1, .int .i64 xa.2.1, .string ⟨⟨xa.2.2⟩⟩] rfl rfl Tryd.underlying31 rfl (by kernel_rfl) (by kernel_rfl) (by kernel_rfl)) rfl rfl ?_)
  refine OkM.head rfl rfl (show _ = [.blk b3 (.cells #[.int .i64 0, .int .i64 0, .string ⟨⟨([] : List UInt8)⟩⟩] 31), .blk b2 (.cells #[.int .i64 xb.1, .int .i64 xb.2.1, .string ⟨⟨xb.2.2⟩⟩] 31), .blk b1 (.cells #[.int .i64 xa.1, .int .i64 xa.2.1, .string ⟨⟨xa.2.2⟩⟩] 31)] from rfl) (OpQ.callG (v := .agg #[.int .i64 ((rightM xa).1), .int .i64 (((rightM xa).2).1), .string ⟨⟨((rightM xa).2).2⟩⟩]) (enters (by kernel_rfl) (fun _ => by kernel_rfl)) (fun W hW => right_c xa) rfl ?_)
  refine OkM.head rfl rfl (show _ = [.blk b3 (.cells #[.int .i64 0, .int .i64 0, .string ⟨⟨([] : List UInt8)⟩⟩] 31), .blk b2 (.cells #[.int .i64 xb.1, .int .i64 xb.2.1, .string ⟨⟨xb.2.2⟩⟩] 31), .blk b1 (.cells #[.int .i64 xa.1, .int .i64 xa.2.1, .string ⟨⟨xa.2.2⟩⟩] 31)] from rfl) (OpQ.step (v := .agg #[.int .i64 xb.1, .int .i64 xb.2.1, .string ⟨⟨xb.2.2⟩⟩]) (Yields.loadAgg 1 3 #[.int .i64 xb.1, .int .i64 xb.2.1, .string ⟨⟨xb.2.2⟩⟩] rfl rfl Tryd.underlying31 rfl (by kernel_rfl) (by kernel_rfl) (by kernel_rfl)) rfl rfl ?_)
  refine OkM.head rfl rfl (show _ = [.blk b3 (.cells #[.int .i64 0, .int .i64 0, .string ⟨⟨([] : List UInt8)⟩⟩] 31), .blk b2 (.cells #[.int .i64 xb.1, .int .i64 xb.2.1, .string ⟨⟨xb.2.2⟩⟩] 31), .blk b1 (.cells #[.int .i64 xa.1, .int .i64 xa.2.1, .string ⟨⟨xa.2.2⟩⟩] 31)] from rfl) (OpQ.callG (v := .agg #[.int .i64 ((rightM xb).1), .int .i64 (((rightM xb).2).1), .string ⟨⟨((rightM xb).2).2⟩⟩]) (enters (by kernel_rfl) (fun _ => by kernel_rfl)) (fun W hW => right_c xb) rfl ?_)
  refine OkM.tail rfl rfl (OpOk.store (k := 3) (v := .agg #[.int .i64 ((rightM xa).1), .int .i64 (((rightM xa).2).1), .string ⟨⟨((rightM xa).2).2⟩⟩]) (H' := [.blk b3 (.cells #[.int .i64 0, .int .i64 0, .string ⟨⟨([] : List UInt8)⟩⟩] 31), .blk b2 (.cells #[.int .i64 xb.1, .int .i64 xb.2.1, .string ⟨⟨xb.2.2⟩⟩] 31), .blk b1 (.cells #[.int .i64 ((rightM xa).1), .int .i64 (((rightM xa).2).1), .string ⟨⟨((rightM xa).2).2⟩⟩] 31)]) 2 rfl rfl rfl (by kernel_rfl) (by kernel_rfl) (by kernel_rfl) (by kernel_rfl) (by kernel_rfl) ?_)
  refine OkM.leaf (Gle.refl _) (.cons_cons _ (.cons _ (.cons _ .slnil))) ?_
  refine OkM.tail rfl rfl (OpOk.store (k := 3) (v := .agg #[.int .i64 ((rightM xb).1), .int .i64 (((rightM xb).2).1), .string ⟨⟨((rightM xb).2).2⟩⟩]) (H' := [.blk b3 (.cells #[.int .i64 0, .int .i64 0, .string ⟨⟨([] : List UInt8)⟩⟩] 31), .blk b2 (.cells #[.int .i64 ((rightM xb).1), .int .i64 (((rightM xb).2).1), .string ⟨⟨((rightM xb).2).2⟩⟩] 31), .blk b1 (.cells #[.int .i64 ((rightM xa).1), .int .i64 (((rightM xa).2).1), .string ⟨⟨((rightM xa).2).2⟩⟩] 31)]) 1 rfl rfl rfl (by kernel_rfl) (by kernel_rfl) (by kernel_rfl) (by kernel_rfl) (by kernel_rfl) ?_)
  refine OkM.leaf (Gle.refl _) (.cons_cons _ (.cons _ (.cons _ .slnil))) ?_
  refine OkM.nil ?_
  refine Ok.thenN ?_
  refine Ok.cut (fun a W => StA 108 [(0, .string ⟨⟨xsign⟩⟩), (4, .pointer (some ⟨b1, 0, none⟩)), (5, .pointer (some ⟨b2, 0, none⟩)), (6, .pointer (some ⟨b3, 0, none⟩)), (8, .bool ((((rightM xa).1) == 2) && (((rightM xb).1) == 2))), (9, .bool ((((rightM xa).1) == 3) && (((rightM xb).1) == 3)))] a ∧ StW w0 [.blk b3 (.cells #[.int .i64 0, .int .i64 0, .string ⟨⟨([] : List UInt8)⟩⟩] 31), .blk b2 (.cells #[.int .i64 ((rightM xb).1), .int .i64 (((rightM xb).2).1), .string ⟨⟨((rightM xb).2).2⟩⟩] 31), .blk b1 (.cells #[.int .i64 ((rightM xa).1), .int .i64 (((rightM xa).2).1), .string ⟨⟨((rightM xa).2).2⟩⟩] 31)] g W ∧ binj5 xsign xa xb K) ?_ ?_
  ·
    refine Ok.quiet' (by kernel_rfl) (by kernel_rfl) ?_
    refine OkQ.batch 1 [(0, .string ⟨⟨xsign⟩⟩), (4, .pointer (some ⟨b1, 0, none⟩)), (5, .pointer (some ⟨b2, 0, none⟩)), (6, .pointer (some ⟨b3, 0, none⟩)), (15, .pointer (some ⟨b1, 0, none⟩))] (by kernel_rfl) ?_
    refine OkQ.op rfl (OpQ.step (v := .int .i64 ((rightM xa).1)) (Yields.load 2 rfl rfl Tryd.underlying3 rfl (by kernel_rfl)) rfl rfl ?_)
    refine OkQ.batch 2 [(0, .string ⟨⟨xsign⟩⟩), (4, .pointer (some ⟨b1, 0, none⟩)), (5, .pointer (some ⟨b2, 0, none⟩)), (6, .pointer (some ⟨b3, 0, none⟩)), (18, .bool (((rightM xa).1) == 2))] (by kernel_rfl) ?_
    refine OkQ.boolAt 18 ((((rightM xa).1) == 2)) rfl (fun hc25 => ?_) (fun hc25 => ?_)
    · replace hF := hF.1 hc25
      refine OkQ.batch 1 [(0, .string ⟨⟨xsign⟩⟩), (4, .pointer (some ⟨b1, 0, none⟩)), (5, .pointer (some ⟨b2, 0, none⟩)), (6, .pointer (some ⟨b3, 0, none⟩)), (18, .bool true), (19, .pointer (some ⟨b2, 0, none⟩))] (by kernel_rfl) ?_
      refine OkQ.opYes (j := 3) (d := 18) (want := true) (b := true) rfl (by kernel_rfl) (by kernel_rfl) rfl (OpQ.step (v := .int .i64 ((rightM xb).1)) (Yields.load 1 rfl rfl Tryd.underlying3 rfl (by kernel_rfl)) rfl rfl ?_)
      refine OkQ.batch 3 [(0, .string ⟨⟨xsign⟩⟩), (4, .pointer (some ⟨b1, 0, none⟩)), (5, .pointer (some ⟨b2, 0, none⟩)), (6, .pointer (some ⟨b3, 0, none⟩)), (22, .bool (((rightM xb).1) == 2)), (23, .pointer (some ⟨b1, 0, none⟩))] (by kernel_rfl) ?_
      refine OkQ.op rfl (OpQ.step (v := .int .i64 ((rightM xa).1)) (Yields.load 2 rfl rfl Tryd.underlying3 rfl (by kernel_rfl)) rfl rfl ?_)
      refine OkQ.batch 2 [(0, .string ⟨⟨xsign⟩⟩), (4, .pointer (some ⟨b1, 0, none⟩)), (5, .pointer (some ⟨b2, 0, none⟩)), (6, .pointer (some ⟨b3, 0, none⟩)), (22, .bool (((rightM xb).1) == 2)), (26, .bool (((rightM xa).1) == 3))] (by kernel_rfl) ?_
      refine OkQ.boolAt 26 ((((rightM xa).1) == 3)) rfl (fun hc26 => ?_) (fun hc26 => ?_)
      · replace hF := hF.1 hc26
        refine OkQ.batch 1 [(0, .string ⟨⟨xsign⟩⟩), (4, .pointer (some ⟨b1, 0, none⟩)), (5, .pointer (some ⟨b2, 0, none⟩)), (6, .pointer (some ⟨b3, 0, none⟩)), (22, .bool (((rightM xb).1) == 2)), (26, .bool true), (27, .pointer (some ⟨b2, 0, none⟩))] (by kernel_rfl) ?_
        refine OkQ.opYes (j := 11) (d := 26) (want := true) (b := true) rfl (by kernel_rfl) (by kernel_rfl) rfl (OpQ.step (v := .int .i64 ((rightM xb).1)) (Yields.load 1 rfl rfl Tryd.underlying3 rfl (by kernel_rfl)) rfl rfl ?_)
        refine OkQ.batch 4 [(0, .string ⟨⟨xsign⟩⟩), (4, .pointer (some ⟨b1, 0, none⟩)), (5, .pointer (some ⟨b2, 0, none⟩)), (6, .pointer (some ⟨b3, 0, none⟩)), (8, .bool (((rightM xb).1) == 2)), (9, .bool (((rightM xb).1) == 3))] (by kernel_rfl) ?_
        refine OkQ.nil ?_
        refine Ok.thenN ?_
        refine Ok.reval 8 rfl (show (.bool (((rightM xb).1) == 2) : Value) = .bool ((((rightM xa).1) == 2) && (((rightM xb).1) == 2)) from congrArg (Value.bool) (mand_t hc25)) ?_
        refine Ok.reval 9 rfl (show (.bool (((rightM xb).1) == 3) : Value) = .bool ((((rightM xa).1) == 3) && (((rightM xb).1) == 3)) from congrArg (Value.bool) (mand_t hc26)) ?_
        exact fun a W hA hW => ⟨hA.sub (by kernel_rfl), hW, hF⟩
      · replace hF := hF.2 hc26
        refine OkQ.batch 6 [(0, .string ⟨⟨xsign⟩⟩), (4, .pointer (some ⟨b1, 0, none⟩)), (5, .pointer (some ⟨b2, 0, none⟩)), (6, .pointer (some ⟨b3, 0, none⟩)), (8, .bool (((rightM xb).1) == 2)), (9, .bool false)] (by kernel_rfl) ?_
        refine OkQ.nil ?_
        refine Ok.thenN ?_
        refine Ok.reval 8 rfl (show (.bool (((rightM xb).1) == 2) : Value) = .bool ((((rightM xa).1) == 2) && (((rightM xb).1) == 2)) from congrArg (Value.bool) (mand_t hc25)) ?_
        refine Ok.reval 9 rfl (show (.bool false : Value) = .bool ((((rightM xa).1) == 3) && (((rightM xb).1) == 3)) from congrArg (Value.bool) (mand_f hc26)) ?_
        exact fun a W hA hW => ⟨hA.sub (by kernel_rfl), hW, hF⟩
    · replace hF := hF.2 hc25
      refine OkQ.batch 5 [(0, .string ⟨⟨xsign⟩⟩), (4, .pointer (some ⟨b1, 0, none⟩)), (5, .pointer (some ⟨b2, 0, none⟩)), (6, .pointer (some ⟨b3, 0, none⟩)), (22, .bool false), (23, .pointer (some ⟨b1, 0, none⟩))] (by kernel_rfl) ?_
      refine OkQ.op rfl (OpQ.step (v := .int .i64 ((rightM xa).1)) (Yields.load 2 rfl rfl Tryd.underlying3 rfl (by kernel_rfl)) rfl rfl ?_)
      refine OkQ.batch 2 [(0, .string ⟨⟨xsign⟩⟩), (4, .pointer (some ⟨b1, 0, none⟩)), (5, .pointer (some ⟨b2, 0, none⟩)), (6, .pointer (some ⟨b3, 0, none⟩)), (22, .bool false), (26, .bool (((rightM xa).1) == 3))] (by kernel_rfl) ?_
      refine OkQ.boolAt 26 ((((rightM xa).1) == 3)) rfl (fun hc27 => ?_) (fun hc27 => ?_)
      · replace hF := hF.1 hc27
        refine OkQ.batch 1 [(0, .string ⟨⟨xsign⟩⟩), (4, .pointer (some ⟨b1, 0, none⟩)), (5, .pointer (some ⟨b2, 0, none⟩)), (6, .pointer (some ⟨b3, 0, none⟩)), (22, .bool false), (26, .bool true), (27, .pointer (some ⟨b2, 0, none⟩))] (by kernel_rfl) ?_
        refine OkQ.opYes (j := 11) (d := 26) (want := true) (b := true) rfl (by kernel_rfl) (by kernel_rfl) rfl (OpQ.step (v := .int .i64 ((rightM xb).1)) (Yields.load 1 rfl rfl Tryd.underlying3 rfl (by kernel_rfl)) rfl rfl ?_)
        refine OkQ.batch 4 [(0, .string ⟨⟨xsign⟩⟩), (4, .pointer (some ⟨b1, 0, none⟩)), (5, .pointer (some ⟨b2, 0, none⟩)), (6, .pointer (some ⟨b3, 0, none⟩)), (8, .bool false), (9, .bool (((rightM xb).1) == 3))] (by kernel_rfl) ?_
        refine OkQ.nil ?_
        refine Ok.thenN ?_
        refine Ok.reval 8 rfl (show (.bool false : Value) = .bool ((((rightM xa).1) == 2) && (((rightM xb).1) == 2)) from congrArg (Value.bool) (mand_f hc25)) ?_
        refine Ok.reval 9 rfl (show (.bool (((rightM xb).1) == 3) : Value) = .bool ((((rightM xa).1) == 3) && (((rightM xb).1) == 3)) from congrArg (Value.bool) (mand_t hc27)) ?_
        exact fun a W hA hW => ⟨hA.sub (by kernel_rfl), hW, hF⟩
      · replace hF := hF.2 hc27
        refine OkQ.batch 6 [(0, .string ⟨⟨xsign⟩⟩), (4, .pointer (some ⟨b1, 0, none⟩)), (5, .pointer (some ⟨b2, 0, none⟩)), (6, .pointer (some ⟨b3, 0, none⟩)), (8, .bool false), (9, .bool false)] (by kernel_rfl) ?_
        refine OkQ.nil ?_
        refine Ok.thenN ?_
        refine Ok.reval 8 rfl (show (.bool false : Value) = .bool ((((rightM xa).1) == 2) && (((rightM xb).1) == 2)) from congrArg (Value.bool) (mand_f hc25)) ?_
        refine Ok.reval 9 rfl (show (.bool false : Value) = .bool ((((rightM xa).1) == 3) && (((rightM xb).1) == 3)) from congrArg (Value.bool) (mand_f hc27)) ?_
        exact fun a W hA hW => ⟨hA.sub (by kernel_rfl), hW, hF⟩
  ·
    rintro a W ⟨hA, hW, hF⟩
    refine (?_ : Ok _ _ _ _ _ _) a W hA hW
    clear hA hW
    refine Ok.seq ?_
    refine Ok.seq ?_
    refine Ok.region ?_
    refine Ok.batch 1 [(0, .string ⟨⟨xsign⟩⟩), (4, .pointer (some ⟨b1, 0, none⟩)), (5, .pointer (some ⟨b2, 0, none⟩)), (6, .pointer (some ⟨b3, 0, none⟩)), (8, .bool ((((rightM xa).1) == 2) && (((rightM xb).1) == 2))), (9, .bool ((((rightM xa).1) == 3) && (((rightM xb).1) == 3))), (31, .string ⟨⟨xsign⟩⟩)] (by kernel_rfl) ?_
    refine Ok.nil ?_
    refine Ok.thenN ?_
    refine Ok.block ?_
    refine Ok.cut (fun a W => StA 108 [(0, .string ⟨⟨xsign⟩⟩), (4, .pointer (some ⟨b1, 0, none⟩)), (5, .pointer (some ⟨b2, 0, none⟩)), (6, .pointer (some ⟨b3, 0, none⟩)), (8, .bool ((((rightM xa).1) == 2) && (((rightM xb).1) == 2))), (9, .bool ((((rightM xa).1) == 3) && (((rightM xb).1) == 3))), (31, .string ⟨⟨xsign⟩⟩), (32, .bool ((xsign == ([61, 61] : List UInt8)) || (xsign == ([33, 61] : List UInt8))))] a ∧ StW w0 [.blk b3 (.cells #[.int .i64 0, .int .i64 0, .string ⟨⟨([] : List UInt8)⟩⟩] 31), .blk b2 (.cells #[.int .i64 ((rightM xb).1), .int .i64 (((rightM xb).2).1), .string ⟨⟨((rightM xb).2).2⟩⟩] 31), .blk b1 (.cells #[.int .i64 ((rightM xa).1), .int .i64 (((rightM xa).2).1), .string ⟨⟨((rightM xa).2).2⟩⟩] 31)] g W ∧ binj11 xsign xa xb K) ?_ ?_
    ·
      refine Ok.seq ?_
      refine Ok.region ?_
      refine Ok.op rfl (OpOk.step (v := .bool (xsign == ([61, 61] : List UInt8))) (Yields.strCmp (f := .eql) (a := xsign) (b := ([61, 61] : List UInt8)) (by kernel_rfl) (by kernel_rfl) rfl) rfl rfl ?_)
      refine Ok.batch 1 [(0, .string ⟨⟨xsign⟩⟩), (4, .pointer (some ⟨b1, 0, none⟩)), (5, .pointer (some ⟨b2, 0, none⟩)), (6, .pointer (some ⟨b3, 0, none⟩)), (8, .bool ((((rightM xa).1) == 2) && (((rightM xb).1) == 2))), (9, .bool ((((rightM xa).1) == 3) && (((rightM xb).1) == 3))), (31, .string ⟨⟨xsign⟩⟩), (32, .bool (xsign == ([61, 61] : List UInt8)))] (by kernel_rfl) ?_
      refine Ok.nil ?_
      refine Ok.thenN ?_
      refine Ok.cond (b := (xsign == ([61, 61] : List UInt8))) rfl (fun hc24 => ?_) (fun hc24 => ?_)
      · replace hF := hF.1 hc24
        refine Ok.skip ?_
        refine Ok.thenN ?_
        refine Ok.reval 32 rfl (show (.bool (xsign == ([61, 61] : List UInt8)) : Value) = .bool ((xsign == ([61, 61] : List UInt8)) || (xsign == ([33, 61] : List UInt8))) from congrArg (Value.bool) ((Eq.trans (hc24) (mor_t hc24)))) ?_
        exact fun a W hA hW => ⟨hA.sub (by kernel_rfl), hW, hF⟩
      · replace hF := hF.2 hc24
        refine Ok.region ?_
        refine Ok.op rfl (OpOk.step (v := .bool (xsign == ([33, 61] : List UInt8))) (Yields.strCmp (f := .eql) (a := xsign) (b := ([33, 61] : List UInt8)) (by kernel_rfl) (by kernel_rfl) rfl) rfl rfl ?_)
        refine Ok.batch 1 [(0, .string ⟨⟨xsign⟩⟩), (4, .pointer (some ⟨b1, 0, none⟩)), (5, .pointer (some ⟨b2, 0, none⟩)), (6, .pointer (some ⟨b3, 0, none⟩)), (8, .bool ((((rightM xa).1) == 2) && (((rightM xb).1) == 2))), (9, .bool ((((rightM xa).1) == 3) && (((rightM xb).1) == 3))), (31, .string ⟨⟨xsign⟩⟩), (32, .bool (xsign == ([33, 61] : List UInt8)))] (by kernel_rfl) ?_
        refine Ok.nil ?_
        refine Ok.thenN ?_
        refine Ok.reval 32 rfl (show (.bool (xsign == ([33, 61] : List UInt8)) : Value) = .bool ((xsign == ([61, 61] : List UInt8)) || (xsign == ([33, 61] : List UInt8))) from congrArg (Value.bool) (mor_f hc24)) ?_
        exact fun a W hA hW => ⟨hA.sub (by kernel_rfl), hW, hF⟩
    ·
      rintro a W ⟨hA, hW, hF⟩
      refine (?_ : Ok _ _ _ _ _ _) a W hA hW
      clear hA hW
      refine Ok.cond (b := ((xsign == ([61, 61] : List UInt8)) || (xsign == ([33, 61] : List UInt8)))) rfl (fun hc4 => ?_) (fun hc4 => ?_)
      · replace hF := hF.1 hc4
        refine Ok.seq ?_
        refine Ok.region ?_
        refine Ok.op rfl (OpOk.step (v := .agg #[.int .i64 ((rightM xa).1), .int .i64 (((rightM xa).2).1), .string ⟨⟨((rightM xa).2).2⟩⟩]) (Yields.loadAgg 2 3 #[.int .i64 ((rightM xa).1), .int .i64 (((rightM xa).2).1), .string ⟨⟨((rightM xa).2).2⟩⟩] rfl rfl Tryd.underlying31 rfl (by kernel_rfl) (by kernel_rfl) (by kernel_rfl)) rfl rfl ?_)
        refine Ok.op rfl (OpOk.step (v := .agg #[.int .i64 ((rightM xb).1), .int .i64 (((rightM xb).2).1), .string ⟨⟨((rightM xb).2).2⟩⟩]) (Yields.loadAgg 1 3 #[.int .i64 ((rightM xb).1), .int .i64 (((rightM xb).2).1), .string ⟨⟨((rightM xb).2).2⟩⟩] rfl rfl Tryd.underlying31 rfl (by kernel_rfl) (by kernel_rfl) (by kernel_rfl)) rfl rfl ?_)
        refine Ok.op rfl (OpOk.step (v := .bool ([(((rightM xa).1) == ((rightM xb).1)), ((((rightM xa).2).1) == (((rightM xb).2).1)), ((((rightM xa).2).2) == (((rightM xb).2).2))].all id)) (Yields.eqAgg (k := 2) rfl rfl (.struct (k := 1) Tryd.underlying31 (by kernel_rfl) ⟨by decide, ⟨.int .i64 ((rightM xa).1), .int .i64 ((rightM xb).1), fun _ => by kernel_rfl, fun _ => by kernel_rfl, EqR.mono (k := 1) (.int Tryd.underlying3) (by decide)⟩, ⟨by decide, ⟨.int .i64 (((rightM xa).2).1), .int .i64 (((rightM xb).2).1), fun _ => by kernel_rfl, fun _ => by kernel_rfl, EqR.mono (k := 1) (.int Tryd.underlying3) (by decide)⟩, ⟨by decide, ⟨.string ⟨⟨((rightM xa).2).2⟩⟩, .string ⟨⟨((rightM xb).2).2⟩⟩, fun _ => by kernel_rfl, fun _ => by kernel_rfl, EqR.mono (k := 1) (.str Tryd.underlying9) (by decide)⟩, trivial⟩⟩⟩) rfl (by kernel_rfl)) rfl rfl ?_)
        refine Ok.batch 1 [(6, .pointer (some ⟨b3, 0, none⟩)), (37, .bool ([(((rightM xa).1) == ((rightM xb).1)), ((((rightM xa).2).1) == (((rightM xb).2).1)), ((((rightM xa).2).2) == (((rightM xb).2).2))].all id)), (38, .string ⟨⟨xsign⟩⟩)] (by kernel_rfl) ?_
        refine Ok.op rfl (OpOk.step (v := .bool (xsign == ([61, 61] : List UInt8))) (Yields.strCmp (f := .eql) (a := xsign) (b := ([61, 61] : List UInt8)) (by kernel_rfl) (by kernel_rfl) rfl) rfl rfl ?_)
        refine Ok.batch 1 [(6, .pointer (some ⟨b3, 0, none⟩)), (40, .bool (([(((rightM xa).1) == ((rightM xb).1)), ((((rightM xa).2).1) == (((rightM xb).2).1)), ((((rightM xa).2).2) == (((rightM xb).2).2))].all id) == (xsign == ([61, 61] : List UInt8))))] (by kernel_rfl) ?_
        refine Ok.op rfl (OpOk.callG (v := .agg #[.int .i64 ((truM (([(((rightM xa).1) == ((rightM xb).1)), ((((rightM xa).2).1) == (((rightM xb).2).1)), ((((rightM xa).2).2) == (((rightM xb).2).2))].all id) == (xsign == ([61, 61] : List UInt8)))).1), .int .i64 (((truM (([(((rightM xa).1) == ((rightM xb).1)), ((((rightM xa).2).1) == (((rightM xb).2).1)), ((((rightM xa).2).2) == (((rightM xb).2).2))].all id) == (xsign == ([61, 61] : List UInt8)))).2).1), .string ⟨⟨((truM (([(((rightM xa).1) == ((rightM xb).1)), ((((rightM xa).2).1) == (((rightM xb).2).1)), ((((rightM xa).2).2) == (((rightM xb).2).2))].all id) == (xsign == ([61, 61] : List UInt8)))).2).2⟩⟩]) (enters (by kernel_rfl) (fun _ => by kernel_rfl)) (fun W hW => tru_c (([(((rightM xa).1) == ((rightM xb).1)), ((((rightM xa).2).1) == (((rightM xb).2).1)), ((((rightM xa).2).2) == (((rightM xb).2).2))].all id) == (xsign == ([61, 61] : List UInt8)))) rfl ?_)
        refine Ok.op rfl (OpOk.store (k := 3) (v := .agg #[.int .i64 ((truM (([(((rightM xa).1) == ((rightM xb).1)), ((((rightM xa).2).1) == (((rightM xb).2).1)), ((((rightM xa).2).2) == (((rightM xb).2).2))].all id) == (xsign == ([61, 61] : List UInt8)))).1), .int .i64 (((truM (([(((rightM xa).1) == ((rightM xb).1)), ((((rightM xa).2).1) == (((rightM xb).2).1)), ((((rightM xa).2).2) == (((rightM xb).2).2))].all id) == (xsign == ([61, 61] : List UInt8)))).2).1), .string ⟨⟨((truM (([(((rightM xa).1) == ((rightM xb).1)), ((((rightM xa).2).1) == (((rightM xb).2).1)), ((((rightM xa).2).2) == (((rightM xb).2).2))].all id) == (xsign == ([61, 61] : List UInt8)))).2).2⟩⟩]) (H' := [.blk b3 (.cells #[.int .i64 ((truM (([(((rightM xa).1) == ((rightM xb).1)), ((((rightM xa).2).1) == (((rightM xb).2).1)), ((((rightM xa).2).2) == (((rightM xb).2).2))].all id) == (xsign == ([61, 61] : List UInt8)))).1), .int .i64 (((truM (([(((rightM xa).1) == ((rightM xb).1)), ((((rightM xa).2).1) == (((rightM xb).2).1)), ((((rightM xa).2).2) == (((rightM xb).2).2))].all id) == (xsign == ([61, 61] : List UInt8)))).2).1), .string ⟨⟨((truM (([(((rightM xa).1) == ((rightM xb).1)), ((((rightM xa).2).1) == (((rightM xb).2).1)), ((((rightM xa).2).2) == (((rightM xb).2).2))].all id) == (xsign == ([61, 61] : List UInt8)))).2).2⟩⟩] 31), .blk b2 (.cells #[.int .i64 ((rightM xb).1), .int .i64 (((rightM xb).2).1), .string ⟨⟨((rightM xb).2).2⟩⟩] 31), .blk b1 (.cells #[.int .i64 ((rightM xa).1), .int .i64 (((rightM xa).2).1), .string ⟨⟨((rightM xa).2).2⟩⟩] 31)]) 0 rfl rfl rfl (by kernel_rfl) (by kernel_rfl) (by kernel_rfl) (by kernel_rfl) (by kernel_rfl) ?_)
        refine Ok.batch 1 [(6, .pointer (some ⟨b3, 0, none⟩)), (7, .string ⟨⟨([] : List UInt8)⟩⟩)] (by kernel_rfl) ?_
        refine Ok.nil ?_
        refine Ok.thenN ?_
        refine Ok.ret ?_
        refine Ok.blockR ?_
        refine Ok.thenR ?_
        exact Ok.resP (vs := [.agg #[.int .i64 ((truM (([(((rightM xa).1) == ((rightM xb).1)), ((((rightM xa).2).1) == (((rightM xb).2).1)), ((((rightM xa).2).2) == (((rightM xb).2).2))].all id) == (xsign == ([61, 61] : List UInt8)))).1), .int .i64 (((truM (([(((rightM xa).1) == ((rightM xb).1)), ((((rightM xa).2).1) == (((rightM xb).2).1)), ((((rightM xa).2).2) == (((rightM xb).2).2))].all id) == (xsign == ([61, 61] : List UInt8)))).2).1), .string ⟨⟨((truM (([(((rightM xa).1) == ((rightM xb).1)), ((((rightM xa).2).1) == (((rightM xb).2).1)), ((((rightM xa).2).2) == (((rightM xb).2).2))].all id) == (xsign == ([61, 61] : List UInt8)))).2).2⟩⟩], .string ⟨⟨([] : List UInt8)⟩⟩]) [] [] (by decide) rfl (.inl rfl) rfl (.cons (.cellAgg 0 3 #[.int .i64 ((truM (([(((rightM xa).1) == ((rightM xb).1)), ((((rightM xa).2).1) == (((rightM xb).2).1)), ((((rightM xa).2).2) == (((rightM xb).2).2))].all id) == (xsign == ([61, 61] : List UInt8)))).1), .int .i64 (((truM (([(((rightM xa).1) == ((rightM xb).1)), ((((rightM xa).2).1) == (((rightM xb).2).1)), ((((rightM xa).2).2) == (((rightM xb).2).2))].all id) == (xsign == ([61, 61] : List UInt8)))).2).1), .string ⟨⟨((truM (([(((rightM xa).1) == ((rightM xb).1)), ((((rightM xa).2).1) == (((rightM xb).2).1)), ((((rightM xa).2).2) == (((rightM xb).2).2))].all id) == (xsign == ([61, 61] : List UInt8)))).2).2⟩⟩] rfl rfl Tryd.underlying31 rfl (by kernel_rfl) (by kernel_rfl) (by kernel_rfl)) (.cons (.tmp rfl) .nil)) (Gext.refl w0 g) ⟨((truM (([(((rightM xa).1) == ((rightM xb).1)), ((((rightM xa).2).1) == (((rightM xb).2).1)), ((((rightM xa).2).2) == (((rightM xb).2).2))].all id) == (xsign == ([61, 61] : List UInt8)))).1, ((truM (([(((rightM xa).1) == ((rightM xb).1)), ((((rightM xa).2).1) == (((rightM xb).2).1)), ((((rightM xa).2).2) == (((rightM xb).2).2))].all id) == (xsign == ([61, 61] : List UInt8)))).2).1, ((truM (([(((rightM xa).1) == ((rightM xb).1)), ((((rightM xa).2).1) == (((rightM xb).2).1)), ((((rightM xa).2).2) == (((rightM xb).2).2))].all id) == (xsign == ([61, 61] : List UInt8)))).2).2), ([] : List UInt8), rfl, rfl, hF⟩
      · replace hF := hF.2 hc4
        refine Ok.cut (fun a W => StA 108 [(0, .string ⟨⟨xsign⟩⟩), (4, .pointer (some ⟨b1, 0, none⟩)), (5, .pointer (some ⟨b2, 0, none⟩)), (6, .pointer (some ⟨b3, 0, none⟩)), (8, .bool ((((rightM xa).1) == 2) && (((rightM xb).1) == 2))), (9, .bool ((((rightM xa).1) == 3) && (((rightM xb).1) == 3))), (31, .string ⟨⟨xsign⟩⟩), (42, .bool ((xsign == ([43] : List UInt8)) || ((xsign == ([45] : List UInt8)) || ((xsign == ([42] : List UInt8)) || ((xsign == ([47] : List UInt8)) || (xsign == ([37] : List UInt8)))))))] a ∧ StW w0 [.blk b3 (.cells #[.int .i64 0, .int .i64 0, .string ⟨⟨([] : List UInt8)⟩⟩] 31), .blk b2 (.cells #[.int .i64 ((rightM xb).1), .int .i64 (((rightM xb).2).1), .string ⟨⟨((rightM xb).2).2⟩⟩] 31), .blk b1 (.cells #[.int .i64 ((rightM xa).1), .int .i64 (((rightM xa).2).1), .string ⟨⟨((rightM xa).2).2⟩⟩] 31)] g W ∧ binj21 xsign xa xb K) ?_ ?_
        ·
          refine Ok.seq ?_
          refine Ok.region ?_
          refine Ok.op rfl (OpOk.step (v := .bool (xsign == ([43] : List UInt8))) (Yields.strCmp (f := .eql) (a := xsign) (b := ([43] : List UInt8)) (by kernel_rfl) (by kernel_rfl) rfl) rfl rfl ?_)
          refine Ok.batch 1 [(0, .string ⟨⟨xsign⟩⟩), (4, .pointer (some ⟨b1, 0, none⟩)), (5, .pointer (some ⟨b2, 0, none⟩)), (6, .pointer (some ⟨b3, 0, none⟩)), (8, .bool ((((rightM xa).1) == 2) && (((rightM xb).1) == 2))), (9, .bool ((((rightM xa).1) == 3) && (((rightM xb).1) == 3))), (31, .string ⟨⟨xsign⟩⟩), (42, .bool (xsign == ([43] : List UInt8)))] (by kernel_rfl) ?_
          refine Ok.nil ?_
          refine Ok.thenN ?_
          refine Ok.cond (b := (xsign == ([43] : List UInt8))) rfl (fun hc20 => ?_) (fun hc20 => ?_)
          · replace hF := hF.1 hc20
            refine Ok.skip ?_
            refine Ok.thenN ?_
            refine Ok.reval 42 rfl (show (.bool (xsign == ([43] : List UInt8)) : Value) = .bool ((xsign == ([43] : List UInt8)) || ((xsign == ([45] : List UInt8)) || ((xsign == ([42] : List UInt8)) || ((xsign == ([47] : List UInt8)) || (xsign == ([37] : List UInt8)))))) from congrArg (Value.bool) ((Eq.trans (hc20) (mor_t hc20)))) ?_
            exact fun a W hA hW => ⟨hA.sub (by kernel_rfl), hW, hF⟩
          · replace hF := hF.2 hc20
            refine Ok.seq ?_
            refine Ok.region ?_
            refine Ok.op rfl (OpOk.step (v := .bool (xsign == ([45] : List UInt8))) (Yields.strCmp (f := .eql) (a := xsign) (b := ([45] : List UInt8)) (by kernel_rfl) (by kernel_rfl) rfl) rfl rfl ?_)
            refine Ok.batch 1 [(0, .string ⟨⟨xsign⟩⟩), (4, .pointer (some ⟨b1, 0, none⟩)), (5, .pointer (some ⟨b2, 0, none⟩)), (6, .pointer (some ⟨b3, 0, none⟩)), (8, .bool ((((rightM xa).1) == 2) && (((rightM xb).1) == 2))), (9, .bool ((((rightM xa).1) == 3) && (((rightM xb).1) == 3))), (31, .string ⟨⟨xsign⟩⟩), (42, .bool (xsign == ([45] : List UInt8)))] (by kernel_rfl) ?_
            refine Ok.nil ?_
            refine Ok.thenN ?_
            refine Ok.cond (b := (xsign == ([45] : List UInt8))) rfl (fun hc21 => ?_) (fun hc21 => ?_)
            · replace hF := hF.1 hc21
              refine Ok.skip ?_
              refine Ok.thenN ?_
              refine Ok.reval 42 rfl (show (.bool (xsign == ([45] : List UInt8)) : Value) = .bool ((xsign == ([43] : List UInt8)) || ((xsign == ([45] : List UInt8)) || ((xsign == ([42] : List UInt8)) || ((xsign == ([47] : List UInt8)) || (xsign == ([37] : List UInt8)))))) from congrArg (Value.bool) ((Eq.trans ((Eq.trans (hc21) (mor_t hc21))) (mor_f hc20)))) ?_
              exact fun a W hA hW => ⟨hA.sub (by kernel_rfl), hW, hF⟩
            · replace hF := hF.2 hc21
              refine Ok.seq ?_
              refine Ok.region ?_
              refine Ok.op rfl (OpOk.step (v := .bool (xsign == ([42] : List UInt8))) (Yields.strCmp (f := .eql) (a := xsign) (b := ([42] : List UInt8)) (by kernel_rfl) (by kernel_rfl) rfl) rfl rfl ?_)
              refine Ok.batch 1 [(0, .string ⟨⟨xsign⟩⟩), (4, .pointer (some ⟨b1, 0, none⟩)), (5, .pointer (some ⟨b2, 0, none⟩)), (6, .pointer (some ⟨b3, 0, none⟩)), (8, .bool ((((rightM xa).1) == 2) && (((rightM xb).1) == 2))), (9, .bool ((((rightM xa).1) == 3) && (((rightM xb).1) == 3))), (31, .string ⟨⟨xsign⟩⟩), (42, .bool (xsign == ([42] : List UInt8)))] (by kernel_rfl) ?_
              refine Ok.nil ?_
              refine Ok.thenN ?_
              refine Ok.cond (b := (xsign == ([42] : List UInt8))) rfl (fun hc22 => ?_) (fun hc22 => ?_)
              · replace hF := hF.1 hc22
                refine Ok.skip ?_
                refine Ok.thenN ?_
                refine Ok.reval 42 rfl (show (.bool (xsign == ([42] : List UInt8)) : Value) = .bool ((xsign == ([43] : List UInt8)) || ((xsign == ([45] : List UInt8)) || ((xsign == ([42] : List UInt8)) || ((xsign == ([47] : List UInt8)) || (xsign == ([37] : List UInt8)))))) from congrArg (Value.bool) ((Eq.trans ((Eq.trans ((Eq.trans (hc22) (mor_t hc22))) (mor_f hc21))) (mor_f hc20)))) ?_
                exact fun a W hA hW => ⟨hA.sub (by kernel_rfl), hW, hF⟩
              · replace hF := hF.2 hc22
                refine Ok.seq ?_
                refine Ok.region ?_
                refine Ok.op rfl (OpOk.step (v := .bool (xsign == ([47] : List UInt8))) (Yields.strCmp (f := .eql) (a := xsign) (b := ([47] : List UInt8)) (by kernel_rfl) (by kernel_rfl) rfl) rfl rfl ?_)
                refine Ok.batch 1 [(0, .string ⟨⟨xsign⟩⟩), (4, .pointer (some ⟨b1, 0, none⟩)), (5, .pointer (some ⟨b2, 0, none⟩)), (6, .pointer (some ⟨b3, 0, none⟩)), (8, .bool ((((rightM xa).1) == 2) && (((rightM xb).1) == 2))), (9, .bool ((((rightM xa).1) == 3) && (((rightM xb).1) == 3))), (31, .string ⟨⟨xsign⟩⟩), (42, .bool (xsign == ([47] : List UInt8)))] (by kernel_rfl) ?_
                refine Ok.nil ?_
                refine Ok.thenN ?_
                refine Ok.cond (b := (xsign == ([47] : List UInt8))) rfl (fun hc23 => ?_) (fun hc23 => ?_)
                · replace hF := hF.1 hc23
                  refine Ok.skip ?_
                  refine Ok.thenN ?_
                  refine Ok.reval 42 rfl (show (.bool (xsign == ([47] : List UInt8)) : Value) = .bool ((xsign == ([43] : List UInt8)) || ((xsign == ([45] : List UInt8)) || ((xsign == ([42] : List UInt8)) || ((xsign == ([47] : List UInt8)) || (xsign == ([37] : List UInt8)))))) from congrArg (Value.bool) ((Eq.trans ((Eq.trans ((Eq.trans ((Eq.trans (hc23) (mor_t hc23))) (mor_f hc22))) (mor_f hc21))) (mor_f hc20)))) ?_
                  exact fun a W hA hW => ⟨hA.sub (by kernel_rfl), hW, hF⟩
                · replace hF := hF.2 hc23
                  refine Ok.region ?_
                  refine Ok.op rfl (OpOk.step (v := .bool (xsign == ([37] : List UInt8))) (Yields.strCmp (f := .eql) (a := xsign) (b := ([37] : List UInt8)) (by kernel_rfl) (by kernel_rfl) rfl) rfl rfl ?_)
                  refine Ok.batch 1 [(0, .string ⟨⟨xsign⟩⟩), (4, .pointer (some ⟨b1, 0, none⟩)), (5, .pointer (some ⟨b2, 0, none⟩)), (6, .pointer (some ⟨b3, 0, none⟩)), (8, .bool ((((rightM xa).1) == 2) && (((rightM xb).1) == 2))), (9, .bool ((((rightM xa).1) == 3) && (((rightM xb).1) == 3))), (31, .string ⟨⟨xsign⟩⟩), (42, .bool (xsign == ([37] : List UInt8)))] (by kernel_rfl) ?_
                  refine Ok.nil ?_
                  refine Ok.thenN ?_
                  refine Ok.reval 42 rfl (show (.bool (xsign == ([37] : List UInt8)) : Value) = .bool ((xsign == ([43] : List UInt8)) || ((xsign == ([45] : List UInt8)) || ((xsign == ([42] : List UInt8)) || ((xsign == ([47] : List UInt8)) || (xsign == ([37] : List UInt8)))))) from congrArg (Value.bool) ((Eq.trans ((Eq.trans ((Eq.trans (mor_f hc23) (mor_f hc22))) (mor_f hc21))) (mor_f hc20)))) ?_
                  exact fun a W hA hW => ⟨hA.sub (by kernel_rfl), hW, hF⟩
        ·
          rintro a W ⟨hA, hW, hF⟩
          refine (?_ : Ok _ _ _ _ _ _) a W hA hW
          clear hA hW
          refine Ok.cond (b := ((xsign == ([43] : List UInt8)) || ((xsign == ([45] : List UInt8)) || ((xsign == ([42] : List UInt8)) || ((xsign == ([47] : List UInt8)) || (xsign == ([37] : List UInt8))))))) rfl (fun hc5 => ?_) (fun hc5 => ?_)
          · replace hF := hF.1 hc5
            refine Ok.seq ?_
            refine Ok.block ?_
            refine Ok.seq ?_
            refine Ok.region ?_
            refine Ok.batch 2 [(0, .string ⟨⟨xsign⟩⟩), (4, .pointer (some ⟨b1, 0, none⟩)), (5, .pointer (some ⟨b2, 0, none⟩)), (6, .pointer (some ⟨b3, 0, none⟩)), (48, .bool ((((rightM xa).1) == 2) && (((rightM xb).1) == 2)))] (by kernel_rfl) ?_
            refine Ok.nil ?_
            refine Ok.thenN ?_
            refine Ok.cond (b := ((((rightM xa).1) == 2) && (((rightM xb).1) == 2))) rfl (fun hc6 => ?_) (fun hc6 => ?_)
            · replace hF := hF.1 hc6
              refine Ok.seq ?_
              refine Ok.region ?_
              refine Ok.batch 2 [(5, .pointer (some ⟨b2, 0, none⟩)), (6, .pointer (some ⟨b3, 0, none⟩)), (50, .string ⟨⟨xsign⟩⟩), (51, .pointer (some ⟨b1, 1, none⟩))] (by kernel_rfl) ?_
              refine Ok.op rfl (OpOk.step (v := .int .i64 (((rightM xa).2).1)) (Yields.load 2 rfl rfl Tryd.underlying3 rfl (by kernel_rfl)) rfl rfl ?_)
              refine Ok.batch 1 [(6, .pointer (some ⟨b3, 0, none⟩)), (50, .string ⟨⟨xsign⟩⟩), (52, .int .i64 (((rightM xa).2).1)), (53, .pointer (some ⟨b2, 1, none⟩))] (by kernel_rfl) ?_
              refine Ok.op rfl (OpOk.step (v := .int .i64 (((rightM xb).2).1)) (Yields.load 1 rfl rfl Tryd.underlying3 rfl (by kernel_rfl)) rfl rfl ?_)
              obtain ⟨hp7, hF⟩ := hF
              refine Ok.op rfl (OpOk.callG (v := .tuple #[.agg #[.int .i64 (((reckM xsign (((rightM xa).2).1) (((rightM xb).2).1)).1).1), .int .i64 ((((reckM xsign (((rightM xa).2).1) (((rightM xb).2).1)).1).2).1), .string ⟨⟨(((reckM xsign (((rightM xa).2).1) (((rightM xb).2).1)).1).2).2⟩⟩], .string ⟨⟨(reckM xsign (((rightM xa).2).1) (((rightM xb).2).1)).2⟩⟩]) (enters (by kernel_rfl) (fun _ => by kernel_rfl)) (fun W hW => reck_c xsign (((rightM xa).2).1) (((rightM xb).2).1) hp7) rfl ?_)
              refine Ok.batch 2 [(6, .pointer (some ⟨b3, 0, none⟩)), (56, .agg #[.int .i64 (((reckM xsign (((rightM xa).2).1) (((rightM xb).2).1)).1).1), .int .i64 ((((reckM xsign (((rightM xa).2).1) (((rightM xb).2).1)).1).2).1), .string ⟨⟨(((reckM xsign (((rightM xa).2).1) (((rightM xb).2).1)).1).2).2⟩⟩]), (57, .string ⟨⟨(reckM xsign (((rightM xa).2).1) (((rightM xb).2).1)).2⟩⟩)] (by kernel_rfl) ?_
              refine Ok.op rfl (OpOk.store (k := 3) (v := .agg #[.int .i64 (((reckM xsign (((rightM xa).2).1) (((rightM xb).2).1)).1).1), .int .i64 ((((reckM xsign (((rightM xa).2).1) (((rightM xb).2).1)).1).2).1), .string ⟨⟨(((reckM xsign (((rightM xa).2).1) (((rightM xb).2).1)).1).2).2⟩⟩]) (H' := [.blk b3 (.cells #[.int .i64 (((reckM xsign (((rightM xa).2).1) (((rightM xb).2).1)).1).1), .int .i64 ((((reckM xsign (((rightM xa).2).1) (((rightM xb).2).1)).1).2).1), .string ⟨⟨(((reckM xsign (((rightM xa).2).1) (((rightM xb).2).1)).1).2).2⟩⟩] 31), .blk b2 (.cells #[.int .i64 ((rightM xb).1), .int .i64 (((rightM xb).2).1), .string ⟨⟨((rightM xb).2).2⟩⟩] 31), .blk b1 (.cells #[.int .i64 ((rightM xa).1), .int .i64 (((rightM xa).2).1), .string ⟨⟨((rightM xa).2).2⟩⟩] 31)]) 0 rfl rfl rfl (by kernel_rfl) (by kernel_rfl) (by kernel_rfl) (by kernel_rfl) (by kernel_rfl) ?_)
              refine Ok.batch 1 [(6, .pointer (some ⟨b3, 0, none⟩)), (7, .string ⟨⟨(reckM xsign (((rightM xa).2).1) (((rightM xb).2).1)).2⟩⟩)] (by kernel_rfl) ?_
              refine Ok.nil ?_
              refine Ok.thenN ?_
              refine Ok.ret ?_
              refine Ok.blockR ?_
              refine Ok.thenR ?_
              refine Ok.blockR ?_
              refine Ok.thenR ?_
              exact Ok.resP (vs := [.agg #[.int .i64 (((reckM xsign (((rightM xa).2).1) (((rightM xb).2).1)).1).1), .int .i64 ((((reckM xsign (((rightM xa).2).1) (((rightM xb).2).1)).1).2).1), .string ⟨⟨(((reckM xsign (((rightM xa).2).1) (((rightM xb).2).1)).1).2).2⟩⟩], .string ⟨⟨(reckM xsign (((rightM xa).2).1) (((rightM xb).2).1)).2⟩⟩]) [] [] (by decide) rfl (.inl rfl) rfl (.cons (.cellAgg 0 3 #[.int .i64 (((reckM xsign (((rightM xa).2).1) (((rightM xb).2).1)).1).1), .int .i64 ((((reckM xsign (((rightM xa).2).1) (((rightM xb).2).1)).1).2).1), .string ⟨⟨(((reckM xsign (((rightM xa).2).1) (((rightM xb).2).1)).1).2).2⟩⟩] rfl rfl Tryd.underlying31 rfl (by kernel_rfl) (by kernel_rfl) (by kernel_rfl)) (.cons (.tmp rfl) .nil)) (Gext.refl w0 g) ⟨(((reckM xsign (((rightM xa).2).1) (((rightM xb).2).1)).1).1, (((reckM xsign (((rightM xa).2).1) (((rightM xb).2).1)).1).2).1, (((reckM xsign (((rightM xa).2).1) (((rightM xb).2).1)).1).2).2), ((reckM xsign (((rightM xa).2).1) (((rightM xb).2).1)).2), rfl, rfl, hF⟩
            · replace hF := hF.2 hc6
              refine Ok.cut (fun a W => StA 108 [(4, .pointer (some ⟨b1, 0, none⟩)), (5, .pointer (some ⟨b2, 0, none⟩)), (6, .pointer (some ⟨b3, 0, none⟩)), (58, .bool ((xsign == ([43] : List UInt8)) && ((((rightM xa).1) == 3) || (((rightM xb).1) == 3))))] a ∧ StW w0 [.blk b3 (.cells #[.int .i64 0, .int .i64 0, .string ⟨⟨([] : List UInt8)⟩⟩] 31), .blk b2 (.cells #[.int .i64 ((rightM xb).1), .int .i64 (((rightM xb).2).1), .string ⟨⟨((rightM xb).2).2⟩⟩] 31), .blk b1 (.cells #[.int .i64 ((rightM xa).1), .int .i64 (((rightM xa).2).1), .string ⟨⟨((rightM xa).2).2⟩⟩] 31)] g W ∧ binj48 xsign xa xb K) ?_ ?_
              ·
                refine Ok.region ?_
                refine Ok.batch 1 [(4, .pointer (some ⟨b1, 0, none⟩)), (5, .pointer (some ⟨b2, 0, none⟩)), (6, .pointer (some ⟨b3, 0, none⟩)), (59, .string ⟨⟨xsign⟩⟩)] (by kernel_rfl) ?_
                refine Ok.op rfl (OpOk.step (v := .bool (xsign == ([43] : List UInt8))) (Yields.strCmp (f := .eql) (a := xsign) (b := ([43] : List UInt8)) (by kernel_rfl) (by kernel_rfl) rfl) rfl rfl ?_)
                refine Ok.batch 1 [(4, .pointer (some ⟨b1, 0, none⟩)), (5, .pointer (some ⟨b2, 0, none⟩)), (6, .pointer (some ⟨b3, 0, none⟩)), (61, .bool (xsign == ([43] : List UInt8)))] (by kernel_rfl) ?_
                refine Ok.boolAt 61 ((xsign == ([43] : List UInt8))) rfl (fun hc12 => ?_) (fun hc12 => ?_)
                · replace hF := hF.1 hc12
                  refine Ok.batch 1 [(4, .pointer (some ⟨b1, 0, none⟩)), (5, .pointer (some ⟨b2, 0, none⟩)), (6, .pointer (some ⟨b3, 0, none⟩)), (61, .bool true), (62, .pointer (some ⟨b1, 0, none⟩))] (by kernel_rfl) ?_
                  refine Ok.opYes (j := 2) (d := 61) (want := true) (b := true) rfl (by kernel_rfl) (by kernel_rfl) rfl (OpOk.step (v := .int .i64 ((rightM xa).1)) (Yields.load 2 rfl rfl Tryd.underlying3 rfl (by kernel_rfl)) rfl rfl ?_)
                  refine Ok.batch 2 [(4, .pointer (some ⟨b1, 0, none⟩)), (5, .pointer (some ⟨b2, 0, none⟩)), (6, .pointer (some ⟨b3, 0, none⟩)), (61, .bool true), (65, .bool (((rightM xa).1) == 3))] (by kernel_rfl) ?_
                  refine Ok.boolAt 65 ((((rightM xa).1) == 3)) rfl (fun hc13 => ?_) (fun hc13 => ?_)
                  · replace hF := hF.1 hc13
                    refine Ok.batch 6 [(4, .pointer (some ⟨b1, 0, none⟩)), (5, .pointer (some ⟨b2, 0, none⟩)), (6, .pointer (some ⟨b3, 0, none⟩)), (58, .bool true)] (by kernel_rfl) ?_
                    refine Ok.nil ?_
                    refine Ok.thenN ?_
                    refine Ok.reval 58 rfl (show (.bool true : Value) = .bool ((xsign == ([43] : List UInt8)) && ((((rightM xa).1) == 3) || (((rightM xb).1) == 3))) from congrArg (Value.bool) ((Eq.trans (mor_t hc13) (mand_t hc12)))) ?_
                    exact fun a W hA hW => ⟨hA.sub (by kernel_rfl), hW, hF⟩
                  · replace hF := hF.2 hc13
                    refine Ok.batch 1 [(4, .pointer (some ⟨b1, 0, none⟩)), (5, .pointer (some ⟨b2, 0, none⟩)), (6, .pointer (some ⟨b3, 0, none⟩)), (61, .bool true), (65, .bool false), (66, .pointer (some ⟨b2, 0, none⟩))] (by kernel_rfl) ?_
                    refine Ok.opYes (j := 6) (d := 65) (want := false) (b := false) rfl (by kernel_rfl) (by kernel_rfl) rfl (OpOk.step (v := .int .i64 ((rightM xb).1)) (Yields.load 1 rfl rfl Tryd.underlying3 rfl (by kernel_rfl)) rfl rfl ?_)
                    refine Ok.batch 4 [(4, .pointer (some ⟨b1, 0, none⟩)), (5, .pointer (some ⟨b2, 0, none⟩)), (6, .pointer (some ⟨b3, 0, none⟩)), (58, .bool (((rightM xb).1) == 3))] (by kernel_rfl) ?_
                    refine Ok.nil ?_
                    refine Ok.thenN ?_
                    refine Ok.reval 58 rfl (show (.bool (((rightM xb).1) == 3) : Value) = .bool ((xsign == ([43] : List UInt8)) && ((((rightM xa).1) == 3) || (((rightM xb).1) == 3))) from congrArg (Value.bool) ((Eq.trans (mor_f hc13) (mand_t hc12)))) ?_
                    exact fun a W hA hW => ⟨hA.sub (by kernel_rfl), hW, hF⟩
                · replace hF := hF.2 hc12
                  refine Ok.batch 10 [(4, .pointer (some ⟨b1, 0, none⟩)), (5, .pointer (some ⟨b2, 0, none⟩)), (6, .pointer (some ⟨b3, 0, none⟩)), (58, .bool false)] (by kernel_rfl) ?_
                  refine Ok.nil ?_
                  refine Ok.thenN ?_
                  refine Ok.reval 58 rfl (show (.bool false : Value) = .bool ((xsign == ([43] : List UInt8)) && ((((rightM xa).1) == 3) || (((rightM xb).1) == 3))) from congrArg (Value.bool) (mand_f hc12)) ?_
                  exact fun a W hA hW => ⟨hA.sub (by kernel_rfl), hW, hF⟩
              ·
                rintro a W ⟨hA, hW, hF⟩
                refine (?_ : Ok _ _ _ _ _ _) a W hA hW
                clear hA hW
                refine Ok.cond (b := ((xsign == ([43] : List UInt8)) && ((((rightM xa).1) == 3) || (((rightM xb).1) == 3)))) rfl (fun hc8 => ?_) (fun hc8 => ?_)
                · replace hF := hF.1 hc8
                  refine Ok.seq ?_
                  refine Ok.quiet' (by kernel_rfl) (by kernel_rfl) ?_
                  refine OkQ.op rfl (OpQ.step (v := .agg #[.int .i64 ((rightM xa).1), .int .i64 (((rightM xa).2).1), .string ⟨⟨((rightM xa).2).2⟩⟩]) (Yields.loadAgg 2 3 #[.int .i64 ((rightM xa).1), .int .i64 (((rightM xa).2).1), .string ⟨⟨((rightM xa).2).2⟩⟩] rfl rfl Tryd.underlying31 rfl (by kernel_rfl) (by kernel_rfl) (by kernel_rfl)) rfl rfl ?_)
                  obtain ⟨hp9, hF⟩ := hF
                  refine OkQ.op rfl (OpQ.callG (v := .string ⟨⟨(textM ((rightM xa).1, ((rightM xa).2).1, ((rightM xa).2).2))⟩⟩) (enters (by kernel_rfl) (fun _ => by kernel_rfl)) (fun W hW => text_c ((rightM xa).1, ((rightM xa).2).1, ((rightM xa).2).2) (hG5.mono hW.sees) hp9) rfl ?_)
                  refine OkQ.op rfl (OpQ.step (v := .agg #[.int .i64 ((rightM xb).1), .int .i64 (((rightM xb).2).1), .string ⟨⟨((rightM xb).2).2⟩⟩]) (Yields.loadAgg 1 3 #[.int .i64 ((rightM xb).1), .int .i64 (((rightM xb).2).1), .string ⟨⟨((rightM xb).2).2⟩⟩] rfl rfl Tryd.underlying31 rfl (by kernel_rfl) (by kernel_rfl) (by kernel_rfl)) rfl rfl ?_)
                  obtain ⟨hp10, hF⟩ := hF
                  refine OkQ.op rfl (OpQ.callG (v := .string ⟨⟨(textM ((rightM xb).1, ((rightM xb).2).1, ((rightM xb).2).2))⟩⟩) (enters (by kernel_rfl) (fun _ => by kernel_rfl)) (fun W hW => text_c ((rightM xb).1, ((rightM xb).2).1, ((rightM xb).2).2) (hG5.mono hW.sees) hp10) rfl ?_)
                  obtain ⟨hv, hF⟩ := hF
                  refine OkQ.op rfl (OpQ.step (v := .string ⟨⟨(textM ((rightM xa).1, ((rightM xa).2).1, ((rightM xa).2).2)) ++ (textM ((rightM xb).1, ((rightM xb).2).1, ((rightM xb).2).2))⟩⟩) (Yields.strAdd rfl rfl hv) rfl rfl ?_)
                  refine OkQ.batch 1 [(6, .pointer (some ⟨b3, 0, none⟩)), (10, .string ⟨⟨(textM ((rightM xa).1, ((rightM xa).2).1, ((rightM xa).2).2)) ++ (textM ((rightM xb).1, ((rightM xb).2).1, ((rightM xb).2).2))⟩⟩)] (by kernel_rfl) ?_
                  refine OkQ.nil ?_
                  refine Ok.thenN ?_
                  refine Ok.seq ?_
                  refine Ok.seq ?_
                  refine Ok.region ?_
                  refine Ok.batch 3 [(6, .pointer (some ⟨b3, 0, none⟩)), (10, .string ⟨⟨(textM ((rightM xa).1, ((rightM xa).2).1, ((rightM xa).2).2)) ++ (textM ((rightM xb).1, ((rightM xb).2).1, ((rightM xb).2).2))⟩⟩), (78, .bool (decide ((((textM ((rightM xa).1, ((rightM xa).2).1, ((rightM xa).2).2)) ++ (textM ((rightM xb).1, ((rightM xb).2).1, ((rightM xb).2).2))).length : Int) > 2000)))] (by kernel_rfl) ?_
                  refine Ok.nil ?_
                  refine Ok.thenN ?_
                  refine Ok.cond (b := decide ((((textM ((rightM xa).1, ((rightM xa).2).1, ((rightM xa).2).2)) ++ (textM ((rightM xb).1, ((rightM xb).2).1, ((rightM xb).2).2))).length : Int) > 2000)) rfl (fun hc11 => ?_) (fun hc11 => ?_)
                  · replace hF := hF.1 hc11
                    refine Ok.seq ?_
                    refine Ok.region ?_
                    refine Ok.batch 1 [(6, .pointer (some ⟨b3, 0, none⟩)), (79, .agg #[.int .i64 0, .int .i64 0, .string ⟨⟨([] : List UInt8)⟩⟩])] (by kernel_rfl) ?_
                    refine Ok.op rfl (OpOk.store (k := 3) (v := .agg #[.int .i64 0, .int .i64 0, .string ⟨⟨([] : List UInt8)⟩⟩]) (H' := [.blk b3 (.cells #[.int .i64 0, .int .i64 0, .string ⟨⟨([] : List UInt8)⟩⟩] 31), .blk b2 (.cells #[.int .i64 ((rightM xb).1), .int .i64 (((rightM xb).2).1), .string ⟨⟨((rightM xb).2).2⟩⟩] 31), .blk b1 (.cells #[.int .i64 ((rightM xa).1), .int .i64 (((rightM xa).2).1), .string ⟨⟨((rightM xa).2).2⟩⟩] 31)]) 0 rfl rfl rfl (by kernel_rfl) (by kernel_rfl) (by kernel_rfl) (by kernel_rfl) (by kernel_rfl) ?_)
                    refine Ok.batch 1 [(6, .pointer (some ⟨b3, 0, none⟩)), (7, .string ⟨⟨([108, 97, 114, 103, 101] : List UInt8)⟩⟩)] (by kernel_rfl) ?_
                    refine Ok.nil ?_
                    refine Ok.thenN ?_
                    refine Ok.ret ?_
                    refine Ok.thenR ?_
                    refine Ok.blockR ?_
                    refine Ok.thenR ?_
                    refine Ok.blockR ?_
                    refine Ok.thenR ?_
                    exact Ok.resP (vs := [.agg #[.int .i64 0, .int .i64 0, .string ⟨⟨([] : List UInt8)⟩⟩], .string ⟨⟨([108, 97, 114, 103, 101] : List UInt8)⟩⟩]) [] [] (by decide) rfl (.inl rfl) rfl (.cons (.cellAgg 0 3 #[.int .i64 0, .int .i64 0, .string ⟨⟨([] : List UInt8)⟩⟩] rfl rfl Tryd.underlying31 rfl (by kernel_rfl) (by kernel_rfl) (by kernel_rfl)) (.cons (.tmp rfl) .nil)) (Gext.refl w0 g) ⟨(0, 0, ([] : List UInt8)), ([108, 97, 114, 103, 101] : List UInt8), rfl, rfl, hF⟩
                  · replace hF := hF.2 hc11
                    refine Ok.skip ?_
                    refine Ok.thenN ?_
                    refine Ok.seq ?_
                    refine Ok.region ?_
                    refine Ok.batch 2 [(6, .pointer (some ⟨b3, 0, none⟩)), (81, .agg #[.int .i64 3, .int .i64 0, .string ⟨⟨(textM ((rightM xa).1, ((rightM xa).2).1, ((rightM xa).2).2)) ++ (textM ((rightM xb).1, ((rightM xb).2).1, ((rightM xb).2).2))⟩⟩])] (by kernel_rfl) ?_
                    refine Ok.op rfl (OpOk.store (k := 3) (v := .agg #[.int .i64 3, .int .i64 0, .string ⟨⟨(textM ((rightM xa).1, ((rightM xa).2).1, ((rightM xa).2).2)) ++ (textM ((rightM xb).1, ((rightM xb).2).1, ((rightM xb).2).2))⟩⟩]) (H' := [.blk b3 (.cells #[.int .i64 3, .int .i64 0, .string ⟨⟨(textM ((rightM xa).1, ((rightM xa).2).1, ((rightM xa).2).2)) ++ (textM ((rightM xb).1, ((rightM xb).2).1, ((rightM xb).2).2))⟩⟩] 31), .blk b2 (.cells #[.int .i64 ((rightM xb).1), .int .i64 (((rightM xb).2).1), .string ⟨⟨((rightM xb).2).2⟩⟩] 31), .blk b1 (.cells #[.int .i64 ((rightM xa).1), .int .i64 (((rightM xa).2).1), .string ⟨⟨((rightM xa).2).2⟩⟩] 31)]) 0 rfl rfl rfl (by kernel_rfl) (by kernel_rfl) (by kernel_rfl) (by kernel_rfl) (by kernel_rfl) ?_)
                    refine Ok.batch 1 [(6, .pointer (some ⟨b3, 0, none⟩)), (7, .string ⟨⟨([] : List UInt8)⟩⟩)] (by kernel_rfl) ?_
                    refine Ok.nil ?_
                    refine Ok.thenN ?_
                    refine Ok.ret ?_
                    refine Ok.blockR ?_
                    refine Ok.thenR ?_
                    refine Ok.blockR ?_
                    refine Ok.thenR ?_
                    exact Ok.resP (vs := [.agg #[.int .i64 3, .int .i64 0, .string ⟨⟨(textM ((rightM xa).1, ((rightM xa).2).1, ((rightM xa).2).2)) ++ (textM ((rightM xb).1, ((rightM xb).2).1, ((rightM xb).2).2))⟩⟩], .string ⟨⟨([] : List UInt8)⟩⟩]) [] [] (by decide) rfl (.inl rfl) rfl (.cons (.cellAgg 0 3 #[.int .i64 3, .int .i64 0, .string ⟨⟨(textM ((rightM xa).1, ((rightM xa).2).1, ((rightM xa).2).2)) ++ (textM ((rightM xb).1, ((rightM xb).2).1, ((rightM xb).2).2))⟩⟩] rfl rfl Tryd.underlying31 rfl (by kernel_rfl) (by kernel_rfl) (by kernel_rfl)) (.cons (.tmp rfl) .nil)) (Gext.refl w0 g) ⟨(3, 0, (textM ((rightM xa).1, ((rightM xa).2).1, ((rightM xa).2).2)) ++ (textM ((rightM xb).1, ((rightM xb).2).1, ((rightM xb).2).2))), ([] : List UInt8), rfl, rfl, hF⟩
                · replace hF := hF.2 hc8
                  refine Ok.skip ?_
                  refine Ok.blockN ?_
                  refine Ok.thenN ?_
                  refine Ok.seq ?_
                  refine Ok.region ?_
                  refine Ok.batch 1 [(6, .pointer (some ⟨b3, 0, none⟩)), (82, .agg #[.int .i64 0, .int .i64 0, .string ⟨⟨([] : List UInt8)⟩⟩])] (by kernel_rfl) ?_
                  refine Ok.op rfl (OpOk.store (k := 3) (v := .agg #[.int .i64 0, .int .i64 0, .string ⟨⟨([] : List UInt8)⟩⟩]) (H' := [.blk b3 (.cells #[.int .i64 0, .int .i64 0, .string ⟨⟨([] : List UInt8)⟩⟩] 31), .blk b2 (.cells #[.int .i64 ((rightM xb).1), .int .i64 (((rightM xb).2).1), .string ⟨⟨((rightM xb).2).2⟩⟩] 31), .blk b1 (.cells #[.int .i64 ((rightM xa).1), .int .i64 (((rightM xa).2).1), .string ⟨⟨((rightM xa).2).2⟩⟩] 31)]) 0 rfl rfl rfl (by kernel_rfl) (by kernel_rfl) (by kernel_rfl) (by kernel_rfl) (by kernel_rfl) ?_)
                  refine Ok.batch 1 [(6, .pointer (some ⟨b3, 0, none⟩)), (7, .string ⟨⟨([107, 105, 110, 100] : List UInt8)⟩⟩)] (by kernel_rfl) ?_
                  refine Ok.nil ?_
                  refine Ok.thenN ?_
                  refine Ok.ret ?_
                  refine Ok.blockR ?_
                  refine Ok.thenR ?_
                  exact Ok.resP (vs := [.agg #[.int .i64 0, .int .i64 0, .string ⟨⟨([] : List UInt8)⟩⟩], .string ⟨⟨([107, 105, 110, 100] : List UInt8)⟩⟩]) [] [] (by decide) rfl (.inl rfl) rfl (.cons (.cellAgg 0 3 #[.int .i64 0, .int .i64 0, .string ⟨⟨([] : List UInt8)⟩⟩] rfl rfl Tryd.underlying31 rfl (by kernel_rfl) (by kernel_rfl) (by kernel_rfl)) (.cons (.tmp rfl) .nil)) (Gext.refl w0 g) ⟨(0, 0, ([] : List UInt8)), ([107, 105, 110, 100] : List UInt8), rfl, rfl, hF⟩
          · replace hF := hF.2 hc5
            refine Ok.cut (fun a W => StA 108 [(0, .string ⟨⟨xsign⟩⟩), (4, .pointer (some ⟨b1, 0, none⟩)), (5, .pointer (some ⟨b2, 0, none⟩)), (6, .pointer (some ⟨b3, 0, none⟩)), (8, .bool ((((rightM xa).1) == 2) && (((rightM xb).1) == 2))), (9, .bool ((((rightM xa).1) == 3) && (((rightM xb).1) == 3))), (83, .bool ((xsign == ([60] : List UInt8)) || ((xsign == ([60, 61] : List UInt8)) || ((xsign == ([62] : List UInt8)) || (xsign == ([62, 61] : List UInt8))))))] a ∧ StW w0 [.blk b3 (.cells #[.int .i64 0, .int .i64 0, .string ⟨⟨([] : List UInt8)⟩⟩] 31), .blk b2 (.cells #[.int .i64 ((rightM xb).1), .int .i64 (((rightM xb).2).1), .string ⟨⟨((rightM xb).2).2⟩⟩] 31), .blk b1 (.cells #[.int .i64 ((rightM xa).1), .int .i64 (((rightM xa).2).1), .string ⟨⟨((rightM xa).2).2⟩⟩] 31)] g W ∧ binj68 xsign xa xb K) ?_ ?_
            ·
              refine Ok.seq ?_
              refine Ok.region ?_
              refine Ok.op rfl (OpOk.step (v := .bool (xsign == ([60] : List UInt8))) (Yields.strCmp (f := .eql) (a := xsign) (b := ([60] : List UInt8)) (by kernel_rfl) (by kernel_rfl) rfl) rfl rfl ?_)
              refine Ok.batch 1 [(0, .string ⟨⟨xsign⟩⟩), (4, .pointer (some ⟨b1, 0, none⟩)), (5, .pointer (some ⟨b2, 0, none⟩)), (6, .pointer (some ⟨b3, 0, none⟩)), (8, .bool ((((rightM xa).1) == 2) && (((rightM xb).1) == 2))), (9, .bool ((((rightM xa).1) == 3) && (((rightM xb).1) == 3))), (31, .string ⟨⟨xsign⟩⟩), (83, .bool (xsign == ([60] : List UInt8)))] (by kernel_rfl) ?_
              refine Ok.nil ?_
              refine Ok.thenN ?_
              refine Ok.cond (b := (xsign == ([60] : List UInt8))) rfl (fun hc17 => ?_) (fun hc17 => ?_)
              · replace hF := hF.1 hc17
                refine Ok.skip ?_
                refine Ok.thenN ?_
                refine Ok.reval 83 rfl (show (.bool (xsign == ([60] : List UInt8)) : Value) = .bool ((xsign == ([60] : List UInt8)) || ((xsign == ([60, 61] : List UInt8)) || ((xsign == ([62] : List UInt8)) || (xsign == ([62, 61] : List UInt8))))) from congrArg (Value.bool) ((Eq.trans (hc17) (mor_t hc17)))) ?_
                exact fun a W hA hW => ⟨hA.sub (by kernel_rfl), hW, hF⟩
              · replace hF := hF.2 hc17
                refine Ok.seq ?_
                refine Ok.region ?_
                refine Ok.op rfl (OpOk.step (v := .bool (xsign == ([60, 61] : List UInt8))) (Yields.strCmp (f := .eql) (a := xsign) (b := ([60, 61] : List UInt8)) (by kernel_rfl) (by kernel_rfl) rfl) rfl rfl ?_)
                refine Ok.batch 1 [(0, .string ⟨⟨xsign⟩⟩), (4, .pointer (some ⟨b1, 0, none⟩)), (5, .pointer (some ⟨b2, 0, none⟩)), (6, .pointer (some ⟨b3, 0, none⟩)), (8, .bool ((((rightM xa).1) == 2) && (((rightM xb).1) == 2))), (9, .bool ((((rightM xa).1) == 3) && (((rightM xb).1) == 3))), (31, .string ⟨⟨xsign⟩⟩), (83, .bool (xsign == ([60, 61] : List UInt8)))] (by kernel_rfl) ?_
                refine Ok.nil ?_
                refine Ok.thenN ?_
                refine Ok.cond (b := (xsign == ([60, 61] : List UInt8))) rfl (fun hc18 => ?_) (fun hc18 => ?_)
                · replace hF := hF.1 hc18
                  refine Ok.skip ?_
                  refine Ok.thenN ?_
                  refine Ok.reval 83 rfl (show (.bool (xsign == ([60, 61] : List UInt8)) : Value) = .bool ((xsign == ([60] : List UInt8)) || ((xsign == ([60, 61] : List UInt8)) || ((xsign == ([62] : List UInt8)) || (xsign == ([62, 61] : List UInt8))))) from congrArg (Value.bool) ((Eq.trans ((Eq.trans (hc18) (mor_t hc18))) (mor_f hc17)))) ?_
                  exact fun a W hA hW => ⟨hA.sub (by kernel_rfl), hW, hF⟩
                · replace hF := hF.2 hc18
                  refine Ok.seq ?_
                  refine Ok.region ?_
                  refine Ok.op rfl (OpOk.step (v := .bool (xsign == ([62] : List UInt8))) (Yields.strCmp (f := .eql) (a := xsign) (b := ([62] : List UInt8)) (by kernel_rfl) (by kernel_rfl) rfl) rfl rfl ?_)
                  refine Ok.batch 1 [(0, .string ⟨⟨xsign⟩⟩), (4, .pointer (some ⟨b1, 0, none⟩)), (5, .pointer (some ⟨b2, 0, none⟩)), (6, .pointer (some ⟨b3, 0, none⟩)), (8, .bool ((((rightM xa).1) == 2) && (((rightM xb).1) == 2))), (9, .bool ((((rightM xa).1) == 3) && (((rightM xb).1) == 3))), (31, .string ⟨⟨xsign⟩⟩), (83, .bool (xsign == ([62] : List UInt8)))] (by kernel_rfl) ?_
                  refine Ok.nil ?_
                  refine Ok.thenN ?_
                  refine Ok.cond (b := (xsign == ([62] : List UInt8))) rfl (fun hc19 => ?_) (fun hc19 => ?_)
                  · replace hF := hF.1 hc19
                    refine Ok.skip ?_
                    refine Ok.thenN ?_
                    refine Ok.reval 83 rfl (show (.bool (xsign == ([62] : List UInt8)) : Value) = .bool ((xsign == ([60] : List UInt8)) || ((xsign == ([60, 61] : List UInt8)) || ((xsign == ([62] : List UInt8)) || (xsign == ([62, 61] : List UInt8))))) from congrArg (Value.bool) ((Eq.trans ((Eq.trans ((Eq.trans (hc19) (mor_t hc19))) (mor_f hc18))) (mor_f hc17)))) ?_
                    exact fun a W hA hW => ⟨hA.sub (by kernel_rfl), hW, hF⟩
                  · replace hF := hF.2 hc19
                    refine Ok.region ?_
                    refine Ok.op rfl (OpOk.step (v := .bool (xsign == ([62, 61] : List UInt8))) (Yields.strCmp (f := .eql) (a := xsign) (b := ([62, 61] : List UInt8)) (by kernel_rfl) (by kernel_rfl) rfl) rfl rfl ?_)
                    refine Ok.batch 1 [(0, .string ⟨⟨xsign⟩⟩), (4, .pointer (some ⟨b1, 0, none⟩)), (5, .pointer (some ⟨b2, 0, none⟩)), (6, .pointer (some ⟨b3, 0, none⟩)), (8, .bool ((((rightM xa).1) == 2) && (((rightM xb).1) == 2))), (9, .bool ((((rightM xa).1) == 3) && (((rightM xb).1) == 3))), (83, .bool (xsign == ([62, 61] : List UInt8)))] (by kernel_rfl) ?_
                    refine Ok.nil ?_
                    refine Ok.thenN ?_
                    refine Ok.reval 83 rfl (show (.bool (xsign == ([62, 61] : List UInt8)) : Value) = .bool ((xsign == ([60] : List UInt8)) || ((xsign == ([60, 61] : List UInt8)) || ((xsign == ([62] : List UInt8)) || (xsign == ([62, 61] : List UInt8))))) from congrArg (Value.bool) ((Eq.trans ((Eq.trans (mor_f hc19) (mor_f hc18))) (mor_f hc17)))) ?_
                    exact fun a W hA hW => ⟨hA.sub (by kernel_rfl), hW, hF⟩
            ·
              rintro a W ⟨hA, hW, hF⟩
              refine (?_ : Ok _ _ _ _ _ _) a W hA hW
              clear hA hW
              refine Ok.cond (b := ((xsign == ([60] : List UInt8)) || ((xsign == ([60, 61] : List UInt8)) || ((xsign == ([62] : List UInt8)) || (xsign == ([62, 61] : List UInt8)))))) rfl (fun hc14 => ?_) (fun hc14 => ?_)
              · replace hF := hF.1 hc14
                refine Ok.seq ?_
                refine Ok.block ?_
                refine Ok.seq ?_
                refine Ok.region ?_
                refine Ok.batch 2 [(0, .string ⟨⟨xsign⟩⟩), (4, .pointer (some ⟨b1, 0, none⟩)), (5, .pointer (some ⟨b2, 0, none⟩)), (6, .pointer (some ⟨b3, 0, none⟩)), (9, .bool ((((rightM xa).1) == 3) && (((rightM xb).1) == 3))), (88, .bool ((((rightM xa).1) == 2) && (((rightM xb).1) == 2)))] (by kernel_rfl) ?_
                refine Ok.nil ?_
                refine Ok.thenN ?_
                refine Ok.cond (b := ((((rightM xa).1) == 2) && (((rightM xb).1) == 2))) rfl (fun hc15 => ?_) (fun hc15 => ?_)
                · replace hF := hF.1 hc15
                  refine Ok.seq ?_
                  refine Ok.region ?_
                  refine Ok.batch 2 [(5, .pointer (some ⟨b2, 0, none⟩)), (6, .pointer (some ⟨b3, 0, none⟩)), (90, .string ⟨⟨xsign⟩⟩), (91, .pointer (some ⟨b1, 1, none⟩))] (by kernel_rfl) ?_
                  refine Ok.op rfl (OpOk.step (v := .int .i64 (((rightM xa).2).1)) (Yields.load 2 rfl rfl Tryd.underlying3 rfl (by kernel_rfl)) rfl rfl ?_)
                  refine Ok.batch 1 [(6, .pointer (some ⟨b3, 0, none⟩)), (90, .string ⟨⟨xsign⟩⟩), (92, .int .i64 (((rightM xa).2).1)), (93, .pointer (some ⟨b2, 1, none⟩))] (by kernel_rfl) ?_
                  refine Ok.op rfl (OpOk.step (v := .int .i64 (((rightM xb).2).1)) (Yields.load 1 rfl rfl Tryd.underlying3 rfl (by kernel_rfl)) rfl rfl ?_)
                  refine Ok.op rfl (OpOk.callG (v := .int .i64 (cmpiM (((rightM xa).2).1) (((rightM xb).2).1))) (enters (by kernel_rfl) (fun _ => by kernel_rfl)) (fun W hW => cmpi_c (((rightM xa).2).1) (((rightM xb).2).1)) rfl ?_)
                  refine Ok.op rfl (OpOk.callG (v := .agg #[.int .i64 ((orddM xsign (cmpiM (((rightM xa).2).1) (((rightM xb).2).1))).1), .int .i64 (((orddM xsign (cmpiM (((rightM xa).2).1) (((rightM xb).2).1))).2).1), .string ⟨⟨((orddM xsign (cmpiM (((rightM xa).2).1) (((rightM xb).2).1))).2).2⟩⟩]) (enters (by kernel_rfl) (fun _ => by kernel_rfl)) (fun W hW => ordd_c xsign (cmpiM (((rightM xa).2).1) (((rightM xb).2).1))) rfl ?_)
                  refine Ok.op rfl (OpOk.store (k := 3) (v := .agg #[.int .i64 ((orddM xsign (cmpiM (((rightM xa).2).1) (((rightM xb).2).1))).1), .int .i64 (((orddM xsign (cmpiM (((rightM xa).2).1) (((rightM xb).2).1))).2).1), .string ⟨⟨((orddM xsign (cmpiM (((rightM xa).2).1) (((rightM xb).2).1))).2).2⟩⟩]) (H' := [.blk b3 (.cells #[.int .i64 ((orddM xsign (cmpiM (((rightM xa).2).1) (((rightM xb).2).1))).1), .int .i64 (((orddM xsign (cmpiM (((rightM xa).2).1) (((rightM xb).2).1))).2).1), .string ⟨⟨((orddM xsign (cmpiM (((rightM xa).2).1) (((rightM xb).2).1))).2).2⟩⟩] 31), .blk b2 (.cells #[.int .i64 ((rightM xb).1), .int .i64 (((rightM xb).2).1), .string ⟨⟨((rightM xb).2).2⟩⟩] 31), .blk b1 (.cells #[.int .i64 ((rightM xa).1), .int .i64 (((rightM xa).2).1), .string ⟨⟨((rightM xa).2).2⟩⟩] 31)]) 0 rfl rfl rfl (by kernel_rfl) (by kernel_rfl) (by kernel_rfl) (by kernel_rfl) (by kernel_rfl) ?_)
                  refine Ok.batch 1 [(6, .pointer (some ⟨b3, 0, none⟩)), (7, .string ⟨⟨([] : List UInt8)⟩⟩)] (by kernel_rfl) ?_
                  refine Ok.nil ?_
                  refine Ok.thenN ?_
                  refine Ok.ret ?_
                  refine Ok.blockR ?_
                  refine Ok.thenR ?_
                  refine Ok.blockR ?_
                  refine Ok.thenR ?_
                  exact Ok.resP (vs := [.agg #[.int .i64 ((orddM xsign (cmpiM (((rightM xa).2).1) (((rightM xb).2).1))).1), .int .i64 (((orddM xsign (cmpiM (((rightM xa).2).1) (((rightM xb).2).1))).2).1), .string ⟨⟨((orddM xsign (cmpiM (((rightM xa).2).1) (((rightM xb).2).1))).2).2⟩⟩], .string ⟨⟨([] : List UInt8)⟩⟩]) [] [] (by decide) rfl (.inl rfl) rfl (.cons (.cellAgg 0 3 #[.int .i64 ((orddM xsign (cmpiM (((rightM xa).2).1) (((rightM xb).2).1))).1), .int .i64 (((orddM xsign (cmpiM (((rightM xa).2).1) (((rightM xb).2).1))).2).1), .string ⟨⟨((orddM xsign (cmpiM (((rightM xa).2).1) (((rightM xb).2).1))).2).2⟩⟩] rfl rfl Tryd.underlying31 rfl (by kernel_rfl) (by kernel_rfl) (by kernel_rfl)) (.cons (.tmp rfl) .nil)) (Gext.refl w0 g) ⟨((orddM xsign (cmpiM (((rightM xa).2).1) (((rightM xb).2).1))).1, ((orddM xsign (cmpiM (((rightM xa).2).1) (((rightM xb).2).1))).2).1, ((orddM xsign (cmpiM (((rightM xa).2).1) (((rightM xb).2).1))).2).2), ([] : List UInt8), rfl, rfl, hF⟩
                · replace hF := hF.2 hc15
                  refine Ok.seq ?_
                  refine Ok.region ?_
                  refine Ok.batch 2 [(0, .string ⟨⟨xsign⟩⟩), (4, .pointer (some ⟨b1, 0, none⟩)), (5, .pointer (some ⟨b2, 0, none⟩)), (6, .pointer (some ⟨b3, 0, none⟩)), (97, .bool ((((rightM xa).1) == 3) && (((rightM xb).1) == 3)))] (by kernel_rfl) ?_
                  refine Ok.nil ?_
                  refine Ok.thenN ?_
                  refine Ok.cond (b := ((((rightM xa).1) == 3) && (((rightM xb).1) == 3))) rfl (fun hc16 => ?_) (fun hc16 => ?_)
                  · replace hF := hF.1 hc16
                    refine Ok.seq ?_
                    refine Ok.region ?_
                    refine Ok.batch 2 [(5, .pointer (some ⟨b2, 0, none⟩)), (6, .pointer (some ⟨b3, 0, none⟩)), (99, .string ⟨⟨xsign⟩⟩), (100, .pointer (some ⟨b1, 2, none⟩))] (by kernel_rfl) ?_
                    refine Ok.op rfl (OpOk.step (v := .string ⟨⟨((rightM xa).2).2⟩⟩) (Yields.load 2 rfl rfl Tryd.underlying9 rfl (by kernel_rfl)) rfl rfl ?_)
                    refine Ok.batch 1 [(6, .pointer (some ⟨b3, 0, none⟩)), (99, .string ⟨⟨xsign⟩⟩), (101, .string ⟨⟨((rightM xa).2).2⟩⟩), (102, .pointer (some ⟨b2, 2, none⟩))] (by kernel_rfl) ?_
                    refine Ok.op rfl (OpOk.step (v := .string ⟨⟨((rightM xb).2).2⟩⟩) (Yields.load 1 rfl rfl Tryd.underlying9 rfl (by kernel_rfl)) rfl rfl ?_)
                    refine Ok.op rfl (OpOk.callG (v := .int .i64 (Lib.compareBytes (((rightM xa).2).2) (((rightM xb).2).2))) (enters (by kernel_rfl) (fun _ => by kernel_rfl)) (fun W hW => cmp_c (((rightM xa).2).2) (((rightM xb).2).2)) rfl ?_)
                    refine Ok.op rfl (OpOk.callG (v := .agg #[.int .i64 ((orddM xsign (Lib.compareBytes (((rightM xa).2).2) (((rightM xb).2).2))).1), .int .i64 (((orddM xsign (Lib.compareBytes (((rightM xa).2).2) (((rightM xb).2).2))).2).1), .string ⟨⟨((orddM xsign (Lib.compareBytes (((rightM xa).2).2) (((rightM xb).2).2))).2).2⟩⟩]) (enters (by kernel_rfl) (fun _ => by kernel_rfl)) (fun W hW => ordd_c xsign (Lib.compareBytes (((rightM xa).2).2) (((rightM xb).2).2))) rfl ?_)
                    refine Ok.op rfl (OpOk.store (k := 3) (v := .agg #[.int .i64 ((orddM xsign (Lib.compareBytes (((rightM xa).2).2) (((rightM xb).2).2))).1), .int .i64 (((orddM xsign (Lib.compareBytes (((rightM xa).2).2) (((rightM xb).2).2))).2).1), .string ⟨⟨((orddM xsign (Lib.compareBytes (((rightM xa).2).2) (((rightM xb).2).2))).2).2⟩⟩]) (H' := [.blk b3 (.cells #[.int .i64 ((orddM xsign (Lib.compareBytes (((rightM xa).2).2) (((rightM xb).2).2))).1), .int .i64 (((orddM xsign (Lib.compareBytes (((rightM xa).2).2) (((rightM xb).2).2))).2).1), .string ⟨⟨((orddM xsign (Lib.compareBytes (((rightM xa).2).2) (((rightM xb).2).2))).2).2⟩⟩] 31), .blk b2 (.cells #[.int .i64 ((rightM xb).1), .int .i64 (((rightM xb).2).1), .string ⟨⟨((rightM xb).2).2⟩⟩] 31), .blk b1 (.cells #[.int .i64 ((rightM xa).1), .int .i64 (((rightM xa).2).1), .string ⟨⟨((rightM xa).2).2⟩⟩] 31)]) 0 rfl rfl rfl (by kernel_rfl) (by kernel_rfl) (by kernel_rfl) (by kernel_rfl) (by kernel_rfl) ?_)
                    refine Ok.batch 1 [(6, .pointer (some ⟨b3, 0, none⟩)), (7, .string ⟨⟨([] : List UInt8)⟩⟩)] (by kernel_rfl) ?_
                    refine Ok.nil ?_
                    refine Ok.thenN ?_
                    refine Ok.ret ?_
                    refine Ok.blockR ?_
                    refine Ok.thenR ?_
                    refine Ok.blockR ?_
                    refine Ok.thenR ?_
                    exact Ok.resP (vs := [.agg #[.int .i64 ((orddM xsign (Lib.compareBytes (((rightM xa).2).2) (((rightM xb).2).2))).1), .int .i64 (((orddM xsign (Lib.compareBytes (((rightM xa).2).2) (((rightM xb).2).2))).2).1), .string ⟨⟨((orddM xsign (Lib.compareBytes (((rightM xa).2).2) (((rightM xb).2).2))).2).2⟩⟩], .string ⟨⟨([] : List UInt8)⟩⟩]) [] [] (by decide) rfl (.inl rfl) rfl (.cons (.cellAgg 0 3 #[.int .i64 ((orddM xsign (Lib.compareBytes (((rightM xa).2).2) (((rightM xb).2).2))).1), .int .i64 (((orddM xsign (Lib.compareBytes (((rightM xa).2).2) (((rightM xb).2).2))).2).1), .string ⟨⟨((orddM xsign (Lib.compareBytes (((rightM xa).2).2) (((rightM xb).2).2))).2).2⟩⟩] rfl rfl Tryd.underlying31 rfl (by kernel_rfl) (by kernel_rfl) (by kernel_rfl)) (.cons (.tmp rfl) .nil)) (Gext.refl w0 g) ⟨((orddM xsign (Lib.compareBytes (((rightM xa).2).2) (((rightM xb).2).2))).1, ((orddM xsign (Lib.compareBytes (((rightM xa).2).2) (((rightM xb).2).2))).2).1, ((orddM xsign (Lib.compareBytes (((rightM xa).2).2) (((rightM xb).2).2))).2).2), ([] : List UInt8), rfl, rfl, hF⟩
                  · replace hF := hF.2 hc16
                    refine Ok.skip ?_
                    refine Ok.blockN ?_
                    refine Ok.thenN ?_
                    refine Ok.seq ?_
                    refine Ok.region ?_
                    refine Ok.batch 1 [(6, .pointer (some ⟨b3, 0, none⟩)), (106, .agg #[.int .i64 0, .int .i64 0, .string ⟨⟨([] : List UInt8)⟩⟩])] (by kernel_rfl) ?_
                    refine Ok.op rfl (OpOk.store (k := 3) (v := .agg #[.int .i64 0, .int .i64 0, .string ⟨⟨([] : List UInt8)⟩⟩]) (H' := [.blk b3 (.cells #[.int .i64 0, .int .i64 0, .string ⟨⟨([] : List UInt8)⟩⟩] 31), .blk b2 (.cells #[.int .i64 ((rightM xb).1), .int .i64 (((rightM xb).2).1), .string ⟨⟨((rightM xb).2).2⟩⟩] 31), .blk b1 (.cells #[.int .i64 ((rightM xa).1), .int .i64 (((rightM xa).2).1), .string ⟨⟨((rightM xa).2).2⟩⟩] 31)]) 0 rfl rfl rfl (by kernel_rfl) (by kernel_rfl) (by kernel_rfl) (by kernel_rfl) (by kernel_rfl) ?_)
                    refine Ok.batch 1 [(6, .pointer (some ⟨b3, 0, none⟩)), (7, .string ⟨⟨([107, 105, 110, 100] : List UInt8)⟩⟩)] (by kernel_rfl) ?_
                    refine Ok.nil ?_
                    refine Ok.thenN ?_
                    refine Ok.ret ?_
                    refine Ok.blockR ?_
                    refine Ok.thenR ?_
                    exact Ok.resP (vs := [.agg #[.int .i64 0, .int .i64 0, .string ⟨⟨([] : List UInt8)⟩⟩], .string ⟨⟨([107, 105, 110, 100] : List UInt8)⟩⟩]) [] [] (by decide) rfl (.inl rfl) rfl (.cons (.cellAgg 0 3 #[.int .i64 0, .int .i64 0, .string ⟨⟨([] : List UInt8)⟩⟩] rfl rfl Tryd.underlying31 rfl (by kernel_rfl) (by kernel_rfl) (by kernel_rfl)) (.cons (.tmp rfl) .nil)) (Gext.refl w0 g) ⟨(0, 0, ([] : List UInt8)), ([107, 105, 110, 100] : List UInt8), rfl, rfl, hF⟩
              · replace hF := hF.2 hc14
                refine Ok.skip ?_
                refine Ok.blockN ?_
                refine Ok.thenN ?_
                refine Ok.seq ?_
                refine Ok.region ?_
                refine Ok.batch 1 [(6, .pointer (some ⟨b3, 0, none⟩)), (107, .agg #[.int .i64 0, .int .i64 0, .string ⟨⟨([] : List UInt8)⟩⟩])] (by kernel_rfl) ?_
                refine Ok.op rfl (OpOk.store (k := 3) (v := .agg #[.int .i64 0, .int .i64 0, .string ⟨⟨([] : List UInt8)⟩⟩]) (H' := [.blk b3 (.cells #[.int .i64 0, .int .i64 0, .string ⟨⟨([] : List UInt8)⟩⟩] 31), .blk b2 (.cells #[.int .i64 ((rightM xb).1), .int .i64 (((rightM xb).2).1), .string ⟨⟨((rightM xb).2).2⟩⟩] 31), .blk b1 (.cells #[.int .i64 ((rightM xa).1), .int .i64 (((rightM xa).2).1), .string ⟨⟨((rightM xa).2).2⟩⟩] 31)]) 0 rfl rfl rfl (by kernel_rfl) (by kernel_rfl) (by kernel_rfl) (by kernel_rfl) (by kernel_rfl) ?_)
                refine Ok.batch 1 [(6, .pointer (some ⟨b3, 0, none⟩)), (7, .string ⟨⟨([115, 105, 103, 110] : List UInt8)⟩⟩)] (by kernel_rfl) ?_
                refine Ok.nil ?_
                refine Ok.thenN ?_
                refine Ok.ret ?_
                exact Ok.resP (vs := [.agg #[.int .i64 0, .int .i64 0, .string ⟨⟨([] : List UInt8)⟩⟩], .string ⟨⟨([115, 105, 103, 110] : List UInt8)⟩⟩]) [] [] (by decide) rfl (.inl rfl) rfl (.cons (.cellAgg 0 3 #[.int .i64 0, .int .i64 0, .string ⟨⟨([] : List UInt8)⟩⟩] rfl rfl Tryd.underlying31 rfl (by kernel_rfl) (by kernel_rfl) (by kernel_rfl)) (.cons (.tmp rfl) .nil)) (Gext.refl w0 g) ⟨(0, 0, ([] : List UInt8)), ([115, 105, 103, 110] : List UInt8), rfl, rfl, hF⟩
def binj48M (xsign : List UInt8) (xa : Int × Int × List UInt8) (xb : Int × Int × List UInt8) : (Int × Int × List UInt8) × List UInt8 := (if ((xsign == ([43] : List UInt8)) && ((((rightM xa).1) == 3) || (((rightM xb).1) == 3))) = true then (if (decide ((((textM ((rightM xa).1, ((rightM xa).2).1, ((rightM xa).2).2)) ++ (textM ((rightM xb).1, ((rightM xb).2).1, ((rightM xb).2).2))).length : Int) > 2000)) = true then ((0, 0, ([] : List UInt8)), ([108, 97, 114, 103, 101] : List UInt8)) else ((3, 0, (textM ((rightM xa).1, ((rightM xa).2).1, ((rightM xa).2).2)) ++ (textM ((rightM xb).1, ((rightM xb).2).1, ((rightM xb).2).2))), ([] : List UInt8))) else ((0, 0, ([] : List UInt8)), ([107, 105, 110, 100] : List UInt8)))
set_option linter.unusedSimpArgs false in
set_option linter.unusedVariables false in
theorem binj48_A (xsign : List UInt8) (xa : Int × Int × List UInt8) (xb : Int × Int × List UInt8) (hp : binP xsign xa xb) (P : (Int × Int × List UInt8) × List UInt8 → Prop) (h : P (binj48M xsign xa xb)) : binj48 xsign xa xb (fun k0 k1 => P (k0, k1)) := by
  unfold binj48M at h
  unfold binj48
  refine ⟨fun hc0 => ?_, fun hc0 => ?_⟩
  · rw [if_t hc0] at h
    have hd0 := hc0; try simp only [Bool.and_eq_true, Bool.or_eq_true, Bool.and_eq_false_iff, Bool.or_eq_false_iff, Bool.not_eq_true', Bool.not_eq_false', decide_eq_true_eq, decide_eq_false_iff_not, beq_iff_eq, beq_eq_false_iff_ne, ne_eq] at hd0
    refine ⟨?_, ?_⟩
    · first | exact (And.intro (right_num hd1.1) (right_num hd1.2) : prodP _ _) | exact Nat.le_trans (Nat.add_le_add (text_len (right_textP hp.1)) (text_len (right_textP hp.2))) (by rw [maxLen_eq]; decide) | exact right_textP hp.2 | exact right_textP hp.1 | omega | assumption | exact trivial | (simp; omega) | (simp at *; omega)
    refine ⟨?_, ?_⟩
    · first | exact (And.intro (right_num hd1.1) (right_num hd1.2) : prodP _ _) | exact Nat.le_trans (Nat.add_le_add (text_len (right_textP hp.1)) (text_len (right_textP hp.2))) (by rw [maxLen_eq]; decide) | exact right_textP hp.2 | exact right_textP hp.1 | omega | assumption | exact trivial | (simp; omega) | (simp at *; omega)
    refine ⟨?_, ?_⟩
    · first | exact (And.intro (right_num hd1.1) (right_num hd1.2) : prodP _ _) | exact Nat.le_trans (Nat.add_le_add (text_len (right_textP hp.1)) (text_len (right_textP hp.2))) (by rw [maxLen_eq]; decide) | exact right_textP hp.2 | exact right_textP hp.1 | omega | assumption | exact trivial | (simp; omega) | (simp at *; omega)
    refine ⟨fun hc1 => ?_, fun hc1 => ?_⟩
    · rw [if_t hc1] at h
      have hd1 := hc1; try simp only [Bool.and_eq_true, Bool.or_eq_true, Bool.and_eq_false_iff, Bool.or_eq_false_iff, Bool.not_eq_true', Bool.not_eq_false', decide_eq_true_eq, decide_eq_false_iff_not, beq_iff_eq, beq_eq_false_iff_ne, ne_eq] at hd1
      exact h
    · rw [if_f hc1] at h
      have hd1 := hc1; try simp only [Bool.and_eq_true, Bool.or_eq_true, Bool.and_eq_false_iff, Bool.or_eq_false_iff, Bool.not_eq_true', Bool.not_eq_false', decide_eq_true_eq, decide_eq_false_iff_not, beq_iff_eq, beq_eq_false_iff_ne, ne_eq] at hd1
      exact h
  · rw [if_f hc0] at h
    have hd0 := hc0; try simp only [Bool.and_eq_true, Bool.or_eq_true, Bool.and_eq_false_iff, Bool.or_eq_false_iff, Bool.not_eq_true', Bool.not_eq_false', decide_eq_true_eq, decide_eq_false_iff_not, beq_iff_eq, beq_eq_false_iff_ne, ne_eq] at hd0
    exact h
def binj68M (xsign : List UInt8) (xa : Int × Int × List UInt8) (xb : Int × Int × List UInt8) : (Int × Int × List UInt8) × List UInt8 := (if ((xsign == ([60] : List UInt8)) || ((xsign == ([60, 61] : List UInt8)) || ((xsign == ([62] : List UInt8)) || (xsign == ([62, 61] : List UInt8))))) = true then (if ((((rightM xa).1) == 2) && (((rightM xb).1) == 2)) = true then (((orddM xsign (cmpiM (((rightM xa).2).1) (((rightM xb).2).1))).1, ((orddM xsign (cmpiM (((rightM xa).2).1) (((rightM xb).2).1))).2).1, ((orddM xsign (cmpiM (((rightM xa).2).1) (((rightM xb).2).1))).2).2), ([] : List UInt8)) else (if ((((rightM xa).1) == 3) && (((rightM xb).1) == 3)) = true then (((orddM xsign (Lib.compareBytes (((rightM xa).2).2) (((rightM xb).2).2))).1, ((orddM xsign (Lib.compareBytes (((rightM xa).2).2) (((rightM xb).2).2))).2).1, ((orddM xsign (Lib.compareBytes (((rightM xa).2).2) (((rightM xb).2).2))).2).2), ([] : List UInt8)) else ((0, 0, ([] : List UInt8)), ([107, 105, 110, 100] : List UInt8)))) else ((0, 0, ([] : List UInt8)), ([115, 105, 103, 110] : List UInt8)))
set_option linter.unusedSimpArgs false in
set_option linter.unusedVariables false in
theorem binj68_A (xsign : List UInt8) (xa : Int × Int × List UInt8) (xb : Int × Int × List UInt8) (hp : binP xsign xa xb) (P : (Int × Int × List UInt8) × List UInt8 → Prop) (h : P (binj68M xsign xa xb)) : binj68 xsign xa xb (fun k0 k1 => P (k0, k1)) := by
  unfold binj68M at h
  unfold binj68
  refine ⟨fun hc0 => ?_, fun hc0 => ?_⟩
  · rw [if_t hc0] at h
    have hd0 := hc0; try simp only [Bool.and_eq_true, Bool.or_eq_true, Bool.and_eq_false_iff, Bool.or_eq_false_iff, Bool.not_eq_true', Bool.not_eq_false', decide_eq_true_eq, decide_eq_false_iff_not, beq_iff_eq, beq_eq_false_iff_ne, ne_eq] at hd0
    refine ⟨fun hc1 => ?_, fun hc1 => ?_⟩
    · rw [if_t hc1] at h
      have hd1 := hc1; try simp only [Bool.and_eq_true, Bool.or_eq_true, Bool.and_eq_false_iff, Bool.or_eq_false_iff, Bool.not_eq_true', Bool.not_eq_false', decide_eq_true_eq, decide_eq_false_iff_not, beq_iff_eq, beq_eq_false_iff_ne, ne_eq] at hd1
      exact h
    · rw [if_f hc1] at h
      have hd1 := hc1; try simp only [Bool.and_eq_true, Bool.or_eq_true, Bool.and_eq_false_iff, Bool.or_eq_false_iff, Bool.not_eq_true', Bool.not_eq_false', decide_eq_true_eq, decide_eq_false_iff_not, beq_iff_eq, beq_eq_false_iff_ne, ne_eq] at hd1
      refine ⟨fun hc2 => ?_, fun hc2 => ?_⟩
      · rw [if_t hc2] at h
        have hd2 := hc2; try simp only [Bool.and_eq_true, Bool.or_eq_true, Bool.and_eq_false_iff, Bool.or_eq_false_iff, Bool.not_eq_true', Bool.not_eq_false', decide_eq_true_eq, decide_eq_false_iff_not, beq_iff_eq, beq_eq_false_iff_ne, ne_eq] at hd2
        exact h
      · rw [if_f hc2] at h
        have hd2 := hc2; try simp only [Bool.and_eq_true, Bool.or_eq_true, Bool.and_eq_false_iff, Bool.or_eq_false_iff, Bool.not_eq_true', Bool.not_eq_false', decide_eq_true_eq, decide_eq_false_iff_not, beq_iff_eq, beq_eq_false_iff_ne, ne_eq] at hd2
        exact h
  · rw [if_f hc0] at h
    have hd0 := hc0; try simp only [Bool.and_eq_true, Bool.or_eq_true, Bool.and_eq_false_iff, Bool.or_eq_false_iff, Bool.not_eq_true', Bool.not_eq_false', decide_eq_true_eq, decide_eq_false_iff_not, beq_iff_eq, beq_eq_false_iff_ne, ne_eq] at hd0
    exact h
def binj21M (xsign : List UInt8) (xa : Int × Int × List UInt8) (xb : Int × Int × List UInt8) : (Int × Int × List UInt8) × List UInt8 := (if ((xsign == ([43] : List UInt8)) || ((xsign == ([45] : List UInt8)) || ((xsign == ([42] : List UInt8)) || ((xsign == ([47] : List UInt8)) || (xsign == ([37] : List UInt8)))))) = true then (if ((((rightM xa).1) == 2) && (((rightM xb).1) == 2)) = true then ((((reckM xsign (((rightM xa).2).1) (((rightM xb).2).1)).1).1, (((reckM xsign (((rightM xa).2).1) (((rightM xb).2).1)).1).2).1, (((reckM xsign (((rightM xa).2).1) (((rightM xb).2).1)).1).2).2), (reckM xsign (((rightM xa).2).1) (((rightM xb).2).1)).2) else (binj48M xsign xa xb)) else (binj68M xsign xa xb))
set_option linter.unusedSimpArgs false in
set_option linter.unusedVariables false in
theorem binj21_A (xsign : List UInt8) (xa : Int × Int × List UInt8) (xb : Int × Int × List UInt8) (hp : binP xsign xa xb) (P : (Int × Int × List UInt8) × List UInt8 → Prop) (h : P (binj21M xsign xa xb)) : binj21 xsign xa xb (fun k0 k1 => P (k0, k1)) := by
  unfold binj21M at h
  unfold binj21
  refine ⟨fun hc0 => ?_, fun hc0 => ?_⟩
  · rw [if_t hc0] at h
    have hd0 := hc0; try simp only [Bool.and_eq_true, Bool.or_eq_true, Bool.and_eq_false_iff, Bool.or_eq_false_iff, Bool.not_eq_true', Bool.not_eq_false', decide_eq_true_eq, decide_eq_false_iff_not, beq_iff_eq, beq_eq_false_iff_ne, ne_eq] at hd0
    refine ⟨fun hc1 => ?_, fun hc1 => ?_⟩
    · rw [if_t hc1] at h
      have hd1 := hc1; try simp only [Bool.and_eq_true, Bool.or_eq_true, Bool.and_eq_false_iff, Bool.or_eq_false_iff, Bool.not_eq_true', Bool.not_eq_false', decide_eq_true_eq, decide_eq_false_iff_not, beq_iff_eq, beq_eq_false_iff_ne, ne_eq] at hd1
      refine ⟨?_, ?_⟩
      · first | exact (And.intro (right_num hd1.1) (right_num hd1.2) : prodP _ _) | exact Nat.le_trans (Nat.add_le_add (text_len (right_textP hp.1)) (text_len (right_textP hp.2))) (by rw [maxLen_eq]; decide) | exact right_textP hp.2 | exact right_textP hp.1 | omega | assumption | exact trivial | (simp; omega) | (simp at *; omega)
      exact h
    · rw [if_f hc1] at h
      have hd1 := hc1; try simp only [Bool.and_eq_true, Bool.or_eq_true, Bool.and_eq_false_iff, Bool.or_eq_false_iff, Bool.not_eq_true', Bool.not_eq_false', decide_eq_true_eq, decide_eq_false_iff_not, beq_iff_eq, beq_eq_false_iff_ne, ne_eq] at hd1
      refine ⟨fun hc2 => ?_, fun hc2 => ?_⟩
      · skip
        have hd2 := hc2; try simp only [Bool.and_eq_true, Bool.or_eq_true, Bool.and_eq_false_iff, Bool.or_eq_false_iff, Bool.not_eq_true', Bool.not_eq_false', decide_eq_true_eq, decide_eq_false_iff_not, beq_iff_eq, beq_eq_false_iff_ne, ne_eq] at hd2
        refine ⟨fun hc3 => ?_, fun hc3 => ?_⟩
        · skip
          have hd3 := hc3; try simp only [Bool.and_eq_true, Bool.or_eq_true, Bool.and_eq_false_iff, Bool.or_eq_false_iff, Bool.not_eq_true', Bool.not_eq_false', decide_eq_true_eq, decide_eq_false_iff_not, beq_iff_eq, beq_eq_false_iff_ne, ne_eq] at hd3
          exact binj48_A xsign xa xb (by first | exact (And.intro (right_num hd1.1) (right_num hd1.2) : prodP _ _) | exact Nat.le_trans (Nat.add_le_add (text_len (right_textP hp.1)) (text_len (right_textP hp.2))) (by rw [maxLen_eq]; decide) | exact right_textP hp.2 | exact right_textP hp.1 | omega | assumption | exact trivial | (simp; omega) | (simp at *; omega)) _ h
        · skip
          have hd3 := hc3; try simp only [Bool.and_eq_true, Bool.or_eq_true, Bool.and_eq_false_iff, Bool.or_eq_false_iff, Bool.not_eq_true', Bool.not_eq_false', decide_eq_true_eq, decide_eq_false_iff_not, beq_iff_eq, beq_eq_false_iff_ne, ne_eq] at hd3
          exact binj48_A xsign xa xb (by first | exact (And.intro (right_num hd1.1) (right_num hd1.2) : prodP _ _) | exact Nat.le_trans (Nat.add_le_add (text_len (right_textP hp.1)) (text_len (right_textP hp.2))) (by rw [maxLen_eq]; decide) | exact right_textP hp.2 | exact right_textP hp.1 | omega | assumption | exact trivial | (simp; omega) | (simp at *; omega)) _ h
      · skip
        have hd2 := hc2; try simp only [Bool.and_eq_true, Bool.or_eq_true, Bool.and_eq_false_iff, Bool.or_eq_false_iff, Bool.not_eq_true', Bool.not_eq_false', decide_eq_true_eq, decide_eq_false_iff_not, beq_iff_eq, beq_eq_false_iff_ne, ne_eq] at hd2
        exact binj48_A xsign xa xb (by first | exact (And.intro (right_num hd1.1) (right_num hd1.2) : prodP _ _) | exact Nat.le_trans (Nat.add_le_add (text_len (right_textP hp.1)) (text_len (right_textP hp.2))) (by rw [maxLen_eq]; decide) | exact right_textP hp.2 | exact right_textP hp.1 | omega | assumption | exact trivial | (simp; omega) | (simp at *; omega)) _ h
  · rw [if_f hc0] at h
    have hd0 := hc0; try simp only [Bool.and_eq_true, Bool.or_eq_true, Bool.and_eq_false_iff, Bool.or_eq_false_iff, Bool.not_eq_true', Bool.not_eq_false', decide_eq_true_eq, decide_eq_false_iff_not, beq_iff_eq, beq_eq_false_iff_ne, ne_eq] at hd0
    refine ⟨fun hc1 => ?_, fun hc1 => ?_⟩
    · skip
      have hd1 := hc1; try simp only [Bool.and_eq_true, Bool.or_eq_true, Bool.and_eq_false_iff, Bool.or_eq_false_iff, Bool.not_eq_true', Bool.not_eq_false', decide_eq_true_eq, decide_eq_false_iff_not, beq_iff_eq, beq_eq_false_iff_ne, ne_eq] at hd1
      exact binj68_A xsign xa xb (by first | exact (And.intro (right_num hd1.1) (right_num hd1.2) : prodP _ _) | exact Nat.le_trans (Nat.add_le_add (text_len (right_textP hp.1)) (text_len (right_textP hp.2))) (by rw [maxLen_eq]; decide) | exact right_textP hp.2 | exact right_textP hp.1 | omega | assumption | exact trivial | (simp; omega) | (simp at *; omega)) _ h
    · skip
      have hd1 := hc1; try simp only [Bool.and_eq_true, Bool.or_eq_true, Bool.and_eq_false_iff, Bool.or_eq_false_iff, Bool.not_eq_true', Bool.not_eq_false', decide_eq_true_eq, decide_eq_false_iff_not, beq_iff_eq, beq_eq_false_iff_ne, ne_eq] at hd1
      refine ⟨fun hc2 => ?_, fun hc2 => ?_⟩
      · skip
        have hd2 := hc2; try simp only [Bool.and_eq_true, Bool.or_eq_true, Bool.and_eq_false_iff, Bool.or_eq_false_iff, Bool.not_eq_true', Bool.not_eq_false', decide_eq_true_eq, decide_eq_false_iff_not, beq_iff_eq, beq_eq_false_iff_ne, ne_eq] at hd2
        exact binj68_A xsign xa xb (by first | exact (And.intro (right_num hd1.1) (right_num hd1.2) : prodP _ _) | exact Nat.le_trans (Nat.add_le_add (text_len (right_textP hp.1)) (text_len (right_textP hp.2))) (by rw [maxLen_eq]; decide) | exact right_textP hp.2 | exact right_textP hp.1 | omega | assumption | exact trivial | (simp; omega) | (simp at *; omega)) _ h
      · skip
        have hd2 := hc2; try simp only [Bool.and_eq_true, Bool.or_eq_true, Bool.and_eq_false_iff, Bool.or_eq_false_iff, Bool.not_eq_true', Bool.not_eq_false', decide_eq_true_eq, decide_eq_false_iff_not, beq_iff_eq, beq_eq_false_iff_ne, ne_eq] at hd2
        refine ⟨fun hc3 => ?_, fun hc3 => ?_⟩
        · skip
          have hd3 := hc3; try simp only [Bool.and_eq_true, Bool.or_eq_true, Bool.and_eq_false_iff, Bool.or_eq_false_iff, Bool.not_eq_true', Bool.not_eq_false', decide_eq_true_eq, decide_eq_false_iff_not, beq_iff_eq, beq_eq_false_iff_ne, ne_eq] at hd3
          exact binj68_A xsign xa xb (by first | exact (And.intro (right_num hd1.1) (right_num hd1.2) : prodP _ _) | exact Nat.le_trans (Nat.add_le_add (text_len (right_textP hp.1)) (text_len (right_textP hp.2))) (by rw [maxLen_eq]; decide) | exact right_textP hp.2 | exact right_textP hp.1 | omega | assumption | exact trivial | (simp; omega) | (simp at *; omega)) _ h
        · skip
          have hd3 := hc3; try simp only [Bool.and_eq_true, Bool.or_eq_true, Bool.and_eq_false_iff, Bool.or_eq_false_iff, Bool.not_eq_true', Bool.not_eq_false', decide_eq_true_eq, decide_eq_false_iff_not, beq_iff_eq, beq_eq_false_iff_ne, ne_eq] at hd3
          exact binj68_A xsign xa xb (by first | exact (And.intro (right_num hd1.1) (right_num hd1.2) : prodP _ _) | exact Nat.le_trans (Nat.add_le_add (text_len (right_textP hp.1)) (text_len (right_textP hp.2))) (by rw [maxLen_eq]; decide) | exact right_textP hp.2 | exact right_textP hp.1 | omega | assumption | exact trivial | (simp; omega) | (simp at *; omega)) _ h
def binj11M (xsign : List UInt8) (xa : Int × Int × List UInt8) (xb : Int × Int × List UInt8) : (Int × Int × List UInt8) × List UInt8 := (if ((xsign == ([61, 61] : List UInt8)) || (xsign == ([33, 61] : List UInt8))) = true then (((truM (([(((rightM xa).1) == ((rightM xb).1)), ((((rightM xa).2).1) == (((rightM xb).2).1)), ((((rightM xa).2).2) == (((rightM xb).2).2))].all id) == (xsign == ([61, 61] : List UInt8)))).1, ((truM (([(((rightM xa).1) == ((rightM xb).1)), ((((rightM xa).2).1) == (((rightM xb).2).1)), ((((rightM xa).2).2) == (((rightM xb).2).2))].all id) == (xsign == ([61, 61] : List UInt8)))).2).1, ((truM (([(((rightM xa).1) == ((rightM xb).1)), ((((rightM xa).2).1) == (((rightM xb).2).1)), ((((rightM xa).2).2) == (((rightM xb).2).2))].all id) == (xsign == ([61, 61] : List UInt8)))).2).2), ([] : List UInt8)) else (binj21M xsign xa xb))
set_option linter.unusedSimpArgs false in
set_option linter.unusedVariables false in
theorem binj11_A (xsign : List UInt8) (xa : Int × Int × List UInt8) (xb : Int × Int × List UInt8) (hp : binP xsign xa xb) (P : (Int × Int × List UInt8) × List UInt8 → Prop) (h : P (binj11M xsign xa xb)) : binj11 xsign xa xb (fun k0 k1 => P (k0, k1)) := by
  unfold binj11M at h
  unfold binj11
  refine ⟨fun hc0 => ?_, fun hc0 => ?_⟩
  · rw [if_t hc0] at h
    have hd0 := hc0; try simp only [Bool.and_eq_true, Bool.or_eq_true, Bool.and_eq_false_iff, Bool.or_eq_false_iff, Bool.not_eq_true', Bool.not_eq_false', decide_eq_true_eq, decide_eq_false_iff_not, beq_iff_eq, beq_eq_false_iff_ne, ne_eq] at hd0
    exact h
  · rw [if_f hc0] at h
    have hd0 := hc0; try simp only [Bool.and_eq_true, Bool.or_eq_true, Bool.and_eq_false_iff, Bool.or_eq_false_iff, Bool.not_eq_true', Bool.not_eq_false', decide_eq_true_eq, decide_eq_false_iff_not, beq_iff_eq, beq_eq_false_iff_ne, ne_eq] at hd0
    refine ⟨fun hc1 => ?_, fun hc1 => ?_⟩
    · skip
      have hd1 := hc1; try simp only [Bool.and_eq_true, Bool.or_eq_true, Bool.and_eq_false_iff, Bool.or_eq_false_iff, Bool.not_eq_true', Bool.not_eq_false', decide_eq_true_eq, decide_eq_false_iff_not, beq_iff_eq, beq_eq_false_iff_ne, ne_eq] at hd1
      exact binj21_A xsign xa xb (by first | exact (And.intro (right_num hd1.1) (right_num hd1.2) : prodP _ _) | exact Nat.le_trans (Nat.add_le_add (text_len (right_textP hp.1)) (text_len (right_textP hp.2))) (by rw [maxLen_eq]; decide) | exact right_textP hp.2 | exact right_textP hp.1 | omega | assumption | exact trivial | (simp; omega) | (simp at *; omega)) _ h
    · skip
      have hd1 := hc1; try simp only [Bool.and_eq_true, Bool.or_eq_true, Bool.and_eq_false_iff, Bool.or_eq_false_iff, Bool.not_eq_true', Bool.not_eq_false', decide_eq_true_eq, decide_eq_false_iff_not, beq_iff_eq, beq_eq_false_iff_ne, ne_eq] at hd1
      refine ⟨fun hc2 => ?_, fun hc2 => ?_⟩
      · skip
        have hd2 := hc2; try simp only [Bool.and_eq_true, Bool.or_eq_true, Bool.and_eq_false_iff, Bool.or_eq_false_iff, Bool.not_eq_true', Bool.not_eq_false', decide_eq_true_eq, decide_eq_false_iff_not, beq_iff_eq, beq_eq_false_iff_ne, ne_eq] at hd2
        exact binj21_A xsign xa xb (by first | exact (And.intro (right_num hd1.1) (right_num hd1.2) : prodP _ _) | exact Nat.le_trans (Nat.add_le_add (text_len (right_textP hp.1)) (text_len (right_textP hp.2))) (by rw [maxLen_eq]; decide) | exact right_textP hp.2 | exact right_textP hp.1 | omega | assumption | exact trivial | (simp; omega) | (simp at *; omega)) _ h
      · skip
        have hd2 := hc2; try simp only [Bool.and_eq_true, Bool.or_eq_true, Bool.and_eq_false_iff, Bool.or_eq_false_iff, Bool.not_eq_true', Bool.not_eq_false', decide_eq_true_eq, decide_eq_false_iff_not, beq_iff_eq, beq_eq_false_iff_ne, ne_eq] at hd2
        refine ⟨fun hc3 => ?_, fun hc3 => ?_⟩
        · skip
          have hd3 := hc3; try simp only [Bool.and_eq_true, Bool.or_eq_true, Bool.and_eq_false_iff, Bool.or_eq_false_iff, Bool.not_eq_true', Bool.not_eq_false', decide_eq_true_eq, decide_eq_false_iff_not, beq_iff_eq, beq_eq_false_iff_ne, ne_eq] at hd3
          exact binj21_A xsign xa xb (by first | exact (And.intro (right_num hd1.1) (right_num hd1.2) : prodP _ _) | exact Nat.le_trans (Nat.add_le_add (text_len (right_textP hp.1)) (text_len (right_textP hp.2))) (by rw [maxLen_eq]; decide) | exact right_textP hp.2 | exact right_textP hp.1 | omega | assumption | exact trivial | (simp; omega) | (simp at *; omega)) _ h
        · skip
          have hd3 := hc3; try simp only [Bool.and_eq_true, Bool.or_eq_true, Bool.and_eq_false_iff, Bool.or_eq_false_iff, Bool.not_eq_true', Bool.not_eq_false', decide_eq_true_eq, decide_eq_false_iff_not, beq_iff_eq, beq_eq_false_iff_ne, ne_eq] at hd3
          refine ⟨fun hc4 => ?_, fun hc4 => ?_⟩
          · skip
            have hd4 := hc4; try simp only [Bool.and_eq_true, Bool.or_eq_true, Bool.and_eq_false_iff, Bool.or_eq_false_iff, Bool.not_eq_true', Bool.not_eq_false', decide_eq_true_eq, decide_eq_false_iff_not, beq_iff_eq, beq_eq_false_iff_ne, ne_eq] at hd4
            exact binj21_A xsign xa xb (by first | exact (And.intro (right_num hd1.1) (right_num hd1.2) : prodP _ _) | exact Nat.le_trans (Nat.add_le_add (text_len (right_textP hp.1)) (text_len (right_textP hp.2))) (by rw [maxLen_eq]; decide) | exact right_textP hp.2 | exact right_textP hp.1 | omega | assumption | exact trivial | (simp; omega) | (simp at *; omega)) _ h
          · skip
            have hd4 := hc4; try simp only [Bool.and_eq_true, Bool.or_eq_true, Bool.and_eq_false_iff, Bool.or_eq_false_iff, Bool.not_eq_true', Bool.not_eq_false', decide_eq_true_eq, decide_eq_false_iff_not, beq_iff_eq, beq_eq_false_iff_ne, ne_eq] at hd4
            exact binj21_A xsign xa xb (by first | exact (And.intro (right_num hd1.1) (right_num hd1.2) : prodP _ _) | exact Nat.le_trans (Nat.add_le_add (text_len (right_textP hp.1)) (text_len (right_textP hp.2))) (by rw [maxLen_eq]; decide) | exact right_textP hp.2 | exact right_textP hp.1 | omega | assumption | exact trivial | (simp; omega) | (simp at *; omega)) _ h
def binj5M (xsign : List UInt8) (xa : Int × Int × List UInt8) (xb : Int × Int × List UInt8) : (Int × Int × List UInt8) × List UInt8 := (binj11M xsign xa xb)
set_option linter.unusedSimpArgs false in
set_option linter.unusedVariables false in
theorem binj5_A (xsign : List UInt8) (xa : Int × Int × List UInt8) (xb : Int × Int × List UInt8) (hp : binP xsign xa xb) (P : (Int × Int × List UInt8) × List UInt8 → Prop) (h : P (binj5M xsign xa xb)) : binj5 xsign xa xb (fun k0 k1 => P (k0, k1)) := by
  unfold binj5M at h
  unfold binj5
  refine ⟨fun hc0 => ?_, fun hc0 => ?_⟩
  · skip
    have hd0 := hc0; try simp only [Bool.and_eq_true, Bool.or_eq_true, Bool.and_eq_false_iff, Bool.or_eq_false_iff, Bool.not_eq_true', Bool.not_eq_false', decide_eq_true_eq, decide_eq_false_iff_not, beq_iff_eq, beq_eq_false_iff_ne, ne_eq] at hd0
    exact binj11_A xsign xa xb (by first | exact (And.intro (right_num hd1.1) (right_num hd1.2) : prodP _ _) | exact Nat.le_trans (Nat.add_le_add (text_len (right_textP hp.1)) (text_len (right_textP hp.2))) (by rw [maxLen_eq]; decide) | exact right_textP hp.2 | exact right_textP hp.1 | omega | assumption | exact trivial | (simp; omega) | (simp at *; omega)) _ h
  · skip
    have hd0 := hc0; try simp only [Bool.and_eq_true, Bool.or_eq_true, Bool.and_eq_false_iff, Bool.or_eq_false_iff, Bool.not_eq_true', Bool.not_eq_false', decide_eq_true_eq, decide_eq_false_iff_not, beq_iff_eq, beq_eq_false_iff_ne, ne_eq] at hd0
    exact binj11_A xsign xa xb (by first | exact (And.intro (right_num hd1.1) (right_num hd1.2) : prodP _ _) | exact Nat.le_trans (Nat.add_le_add (text_len (right_textP hp.1)) (text_len (right_textP hp.2))) (by rw [maxLen_eq]; decide) | exact right_textP hp.2 | exact right_textP hp.1 | omega | assumption | exact trivial | (simp; omega) | (simp at *; omega)) _ h
def binM (xsign : List UInt8) (xa : Int × Int × List UInt8) (xb : Int × Int × List UInt8) : (Int × Int × List UInt8) × List UInt8 := (binj5M xsign xa xb)
set_option linter.unusedSimpArgs false in
set_option linter.unusedVariables false in
theorem binF_A (xsign : List UInt8) (xa : Int × Int × List UInt8) (xb : Int × Int × List UInt8) (hp : binP xsign xa xb) (P : (Int × Int × List UInt8) × List UInt8 → Prop) (h : P (binM xsign xa xb)) : binF xsign xa xb (fun k0 k1 => P (k0, k1)) := by
  unfold binM at h
  unfold binF
  refine ⟨fun hc0 => ?_, fun hc0 => ?_⟩
  · skip
    have hd0 := hc0; try simp only [Bool.and_eq_true, Bool.or_eq_true, Bool.and_eq_false_iff, Bool.or_eq_false_iff, Bool.not_eq_true', Bool.not_eq_false', decide_eq_true_eq, decide_eq_false_iff_not, beq_iff_eq, beq_eq_false_iff_ne, ne_eq] at hd0
    refine ⟨fun hc1 => ?_, fun hc1 => ?_⟩
    · skip
      have hd1 := hc1; try simp only [Bool.and_eq_true, Bool.or_eq_true, Bool.and_eq_false_iff, Bool.or_eq_false_iff, Bool.not_eq_true', Bool.not_eq_false', decide_eq_true_eq, decide_eq_false_iff_not, beq_iff_eq, beq_eq_false_iff_ne, ne_eq] at hd1
      exact binj5_A xsign xa xb (by first | exact (And.intro (right_num hd1.1) (right_num hd1.2) : prodP _ _) | exact Nat.le_trans (Nat.add_le_add (text_len (right_textP hp.1)) (text_len (right_textP hp.2))) (by rw [maxLen_eq]; decide) | exact right_textP hp.2 | exact right_textP hp.1 | omega | assumption | exact trivial | (simp; omega) | (simp at *; omega)) _ h
    · skip
      have hd1 := hc1; try simp only [Bool.and_eq_true, Bool.or_eq_true, Bool.and_eq_false_iff, Bool.or_eq_false_iff, Bool.not_eq_true', Bool.not_eq_false', decide_eq_true_eq, decide_eq_false_iff_not, beq_iff_eq, beq_eq_false_iff_ne, ne_eq] at hd1
      exact binj5_A xsign xa xb (by first | exact (And.intro (right_num hd1.1) (right_num hd1.2) : prodP _ _) | exact Nat.le_trans (Nat.add_le_add (text_len (right_textP hp.1)) (text_len (right_textP hp.2))) (by rw [maxLen_eq]; decide) | exact right_textP hp.2 | exact right_textP hp.1 | omega | assumption | exact trivial | (simp; omega) | (simp at *; omega)) _ h
  · skip
    have hd0 := hc0; try simp only [Bool.and_eq_true, Bool.or_eq_true, Bool.and_eq_false_iff, Bool.or_eq_false_iff, Bool.not_eq_true', Bool.not_eq_false', decide_eq_true_eq, decide_eq_false_iff_not, beq_iff_eq, beq_eq_false_iff_ne, ne_eq] at hd0
    refine ⟨fun hc1 => ?_, fun hc1 => ?_⟩
    · skip
      have hd1 := hc1; try simp only [Bool.and_eq_true, Bool.or_eq_true, Bool.and_eq_false_iff, Bool.or_eq_false_iff, Bool.not_eq_true', Bool.not_eq_false', decide_eq_true_eq, decide_eq_false_iff_not, beq_iff_eq, beq_eq_false_iff_ne, ne_eq] at hd1
      exact binj5_A xsign xa xb (by first | exact (And.intro (right_num hd1.1) (right_num hd1.2) : prodP _ _) | exact Nat.le_trans (Nat.add_le_add (text_len (right_textP hp.1)) (text_len (right_textP hp.2))) (by rw [maxLen_eq]; decide) | exact right_textP hp.2 | exact right_textP hp.1 | omega | assumption | exact trivial | (simp; omega) | (simp at *; omega)) _ h
    · skip
      have hd1 := hc1; try simp only [Bool.and_eq_true, Bool.or_eq_true, Bool.and_eq_false_iff, Bool.or_eq_false_iff, Bool.not_eq_true', Bool.not_eq_false', decide_eq_true_eq, decide_eq_false_iff_not, beq_iff_eq, beq_eq_false_iff_ne, ne_eq] at hd1
      exact binj5_A xsign xa xb (by first | exact (And.intro (right_num hd1.1) (right_num hd1.2) : prodP _ _) | exact Nat.le_trans (Nat.add_le_add (text_len (right_textP hp.1)) (text_len (right_textP hp.2))) (by rw [maxLen_eq]; decide) | exact right_textP hp.2 | exact right_textP hp.1 | omega | assumption | exact trivial | (simp; omega) | (simp at *; omega)) _ h
theorem bin_F (xsign : List UInt8) (xa : Int × Int × List UInt8) (xb : Int × Int × List UInt8) (hp : binP xsign xa xb) : binF xsign xa xb (fun k0 k1 => (k0, k1) = binM xsign xa xb) :=
  binF_A xsign xa xb hp (fun z => z = binM xsign xa xb) rfl
set_option linter.unusedVariables false in
theorem bin_c {g : Ghost} (xsign : List UInt8) (xa : Int × Int × List UInt8) (xb : Int × Int × List UInt8) (hG5 : GlobL g 5 (.int .u64) DPow)  (hp : binP xsign xa xb) : CallsG Tryd.prog 18 #[.string ⟨⟨xsign⟩⟩, .agg #[.int .i64 xa.1, .int .i64 xa.2.1, .string ⟨⟨xa.2.2⟩⟩], .agg #[.int .i64 xb.1, .int .i64 xb.2.1, .string ⟨⟨xb.2.2⟩⟩]] g (.tuple #[.agg #[.int .i64 ((binM xsign xa xb).1).1, .int .i64 ((binM xsign xa xb).1).2.1, .string ⟨⟨((binM xsign xa xb).1).2.2⟩⟩], .string ⟨⟨((binM xsign xa xb).2)⟩⟩]) :=
  (bin_ok xsign xa xb hG5 _ (bin_F xsign xa xb hp)).gives (by rintro g' H' v _ ⟨r0, r1, rfl, rfl, hK⟩; obtain ⟨rfl, rfl⟩ : r0 = (binM xsign xa xb).1 ∧ r1 = (binM xsign xa xb).2 := ⟨congrArg (fun z => z.1) hK, congrArg (fun z => z.2) hK⟩; rfl)
end Go.Proofs.YtabbinbmpeckkaaDoor.Vl
