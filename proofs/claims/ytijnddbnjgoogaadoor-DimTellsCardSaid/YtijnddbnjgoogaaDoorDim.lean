/- DimReads, DimPxs: numbers with units. -/
import Derived.Test.YtijnddbnjgoogaaDoorTrs
import Derived.Test.YtijnddbnjgoogaaDoorUp
import Derived.Test.YtijnddbnjgoogaaDoorMor
namespace Go.Proofs.YtijnddbnjgoogaaDoor.Tk
open Go Go.Eng Bld Trm Css
set_option linter.unusedVariables false
def byP (_ : Int) (b : Int) : Prop := b ≠ 0
def downV0 (xn : Int) (xby : Int) : Int :=
  (if (decide ((Int.tmod xn xby) < 0)) = true then IntKind.wrap .i64 ((IntKind.wrap .i64 (Int.tdiv xn xby)) - 1) else IntKind.wrap .i64 (Int.tdiv xn xby))
def downj5 (xn : Int) (xby : Int) (K : Int → Prop) : Prop :=
  K (downV0 xn xby)
def downF (xn : Int) (xby : Int) (K : Int → Prop) : Prop :=
  xby ≠ 0 ∧ xby ≠ 0 ∧ ((decide ((Int.tmod xn xby) < 0)) = true → downj5 xn xby K) ∧ ((decide ((Int.tmod xn xby) < 0)) = false → downj5 xn xby K)
set_option maxHeartbeats 4000000 in
set_option maxRecDepth 100000 in
set_option linter.unusedVariables false in
theorem down_ok {g : Ghost} (xn : Int) (xby : Int) (K : Int → Prop)
    (hF : downF xn xby K) : CallsH Tryd.prog 24 #[.int .i64 xn, .int .i64 xby] g [] (fun g' H' v => ∃ (r0 : Int), v = .int .i64 r0 ∧ H' = [] ∧ K r0) := by
  refine CallsH.enter 16 [(0, .int .i64 xn), (1, .int .i64 xby)] Tryd.func24 rfl (by kernel_rfl) (by kernel_rfl) (by kernel_rfl) fun w0 => ?_
  refine Ok.seq ?_
  refine Ok.region ?_
  refine Ok.batch 1 [(0, .int .i64 xn), (1, .int .i64 xby)] (by kernel_rfl) ?_
  refine Ok.nil ?_
  refine Ok.thenN ?_
  refine Ok.seq ?_
  refine Ok.region ?_
  refine Ok.batch 2 [(0, .int .i64 xn), (1, .int .i64 xby), (6, .int .i64 xn), (7, .int .i64 xby)] (by kernel_rfl) ?_
  obtain ⟨hv, hF⟩ := hF
  refine Ok.op rfl (OpOk.step (v := .int .i64 (IntKind.wrap .i64 (Int.tdiv xn xby))) (Yields.quo rfl rfl hv) rfl rfl ?_)
  refine Ok.batch 1 [(0, .int .i64 xn), (1, .int .i64 xby), (5, .int .i64 (IntKind.wrap .i64 (Int.tdiv xn xby)))] (by kernel_rfl) ?_
  refine Ok.nil ?_
  refine Ok.thenN ?_
  refine Ok.cut (fun a W => StA 16 [(5, .int .i64 (downV0 xn xby))] a ∧ StW w0 [] g W ∧ downj5 xn xby K) ?_ ?_
  ·
    refine Ok.seq ?_
    refine Ok.region ?_
    refine Ok.batch 2 [(5, .int .i64 (IntKind.wrap .i64 (Int.tdiv xn xby))), (9, .int .i64 xn), (10, .int .i64 xby)] (by kernel_rfl) ?_
    obtain ⟨hv, hF⟩ := hF
    refine Ok.op rfl (OpOk.step (v := .int .i64 (Int.tmod xn xby)) (Yields.rem rfl rfl hv) rfl rfl ?_)
    refine Ok.batch 1 [(5, .int .i64 (IntKind.wrap .i64 (Int.tdiv xn xby))), (12, .bool (decide ((Int.tmod xn xby) < 0)))] (by kernel_rfl) ?_
    refine Ok.nil ?_
    refine Ok.thenN ?_
    refine Ok.cond (b := decide ((Int.tmod xn xby) < 0)) rfl (fun hc1 => ?_) (fun hc1 => ?_)
    · replace hF := hF.1 hc1
      refine Ok.region ?_
      refine Ok.batch 3 [(5, .int .i64 (IntKind.wrap .i64 ((IntKind.wrap .i64 (Int.tdiv xn xby)) - 1)))] (by kernel_rfl) ?_
      refine Ok.nil ?_
      refine Ok.thenN ?_
      refine Ok.reval 5 rfl (show (.int .i64 (IntKind.wrap .i64 ((IntKind.wrap .i64 (Int.tdiv xn xby)) - 1)) : Value) = .int .i64 (downV0 xn xby) from congrArg (Value.int .i64) ((if_t hc1).symm)) ?_
      exact fun a W hA hW => ⟨hA.sub (by kernel_rfl), hW, hF⟩
    · replace hF := hF.2 hc1
      refine Ok.skip ?_
      refine Ok.thenN ?_
      refine Ok.reval 5 rfl (show (.int .i64 (IntKind.wrap .i64 (Int.tdiv xn xby)) : Value) = .int .i64 (downV0 xn xby) from congrArg (Value.int .i64) ((if_f hc1).symm)) ?_
      exact fun a W hA hW => ⟨hA.sub (by kernel_rfl), hW, hF⟩
  ·
    clear hF
    rintro a W ⟨hA, hW, hF⟩
    refine (?_ : Ok _ _ _ _ _ _) a W hA hW
    clear hA hW
    refine Ok.seq ?_
    refine Ok.region ?_
    refine Ok.batch 2 [(4, .int .i64 (downV0 xn xby))] (by kernel_rfl) ?_
    refine Ok.nil ?_
    refine Ok.thenN ?_
    refine Ok.ret ?_
    exact Ok.resH (vs := [.int .i64 (downV0 xn xby)]) (.inl rfl) rfl (.cons (.tmp rfl) .nil) (Gext.refl w0 g) ⟨(downV0 xn xby), rfl, rfl, hF⟩
def downj5M (xn : Int) (xby : Int) : Int := (downV0 xn xby)
set_option linter.unusedSimpArgs false in
set_option linter.unusedVariables false in
theorem downj5_A (xn : Int) (xby : Int) (P : Int → Prop) (h : P (downj5M xn xby)) : downj5 xn xby (fun k0 => P k0) := by
  unfold downj5M at h
  unfold downj5
  exact h
def downM (xn : Int) (xby : Int) : Int := (downj5M xn xby)
set_option linter.unusedSimpArgs false in
set_option linter.unusedVariables false in
theorem downF_A (xn : Int) (xby : Int) (hp : byP xn xby) (P : Int → Prop) (h : P (downM xn xby)) : downF xn xby (fun k0 => P k0) := by
  unfold downM at h
  unfold downF
  refine ⟨?_, ?_⟩
  · first | exact hp | omega | assumption | exact trivial | (have h0 := List.length_pos_iff.mpr (by assumption); omega) | (simp; omega) | (simp at *; omega)
  refine ⟨?_, ?_⟩
  · first | exact hp | omega | assumption | exact trivial | (have h0 := List.length_pos_iff.mpr (by assumption); omega) | (simp; omega) | (simp at *; omega)
  refine ⟨fun hc0 => ?_, fun hc0 => ?_⟩
  · skip
    have hd0 := of_decide_eq_true hc0
    exact downj5_A xn xby _ h
  · skip
    have hd0 := of_decide_eq_false hc0
    exact downj5_A xn xby _ h
theorem down_F (xn : Int) (xby : Int) (hp : byP xn xby) : downF xn xby (fun k0 => k0 = downM xn xby) :=
  downF_A xn xby hp (fun z => z = downM xn xby) rfl
set_option linter.unusedVariables false in
theorem down_c {g : Ghost} (xn : Int) (xby : Int)  (hp : byP xn xby) : CallsG Tryd.prog 24 #[.int .i64 xn, .int .i64 xby] g (.int .i64 (downM xn xby)) :=
  (down_ok xn xby _ (down_F xn xby hp)).gives (by rintro g' H' v _ ⟨r0, rfl, rfl, hK⟩; subst hK; rfl)
def dcutF (xn : Int) (K : Int → Prop) : Prop :=
  K (if 16777216 < (if xn < (-16777216) then (-16777216) else xn) then 16777216 else (if xn < (-16777216) then (-16777216) else xn))
set_option maxHeartbeats 4000000 in
set_option maxRecDepth 100000 in
set_option linter.unusedVariables false in
theorem dcut_ok {g : Ghost} (xn : Int) (K : Int → Prop)
    (hF : dcutF xn K) : CallsH Tryd.prog 23 #[.int .i64 xn] g [] (fun g' H' v => ∃ (r0 : Int), v = .int .i64 r0 ∧ H' = [] ∧ K r0) := by
  refine CallsH.enter 6 [(0, .int .i64 xn)] Tryd.func23 rfl (by kernel_rfl) (by kernel_rfl) (by kernel_rfl) fun w0 => ?_
  refine Ok.seq ?_
  refine Ok.region ?_
  refine Ok.batch 1 [(0, .int .i64 xn)] (by kernel_rfl) ?_
  refine Ok.nil ?_
  refine Ok.thenN ?_
  refine Ok.seq ?_
  refine Ok.region ?_
  refine Ok.batch 4 [(2, .int .i64 (if 16777216 < (if xn < (-16777216) then (-16777216) else xn) then 16777216 else (if xn < (-16777216) then (-16777216) else xn)))] (by kernel_rfl) ?_
  refine Ok.nil ?_
  refine Ok.thenN ?_
  refine Ok.ret ?_
  exact Ok.resH (vs := [.int .i64 (if 16777216 < (if xn < (-16777216) then (-16777216) else xn) then 16777216 else (if xn < (-16777216) then (-16777216) else xn))]) (.inl rfl) rfl (.cons (.tmp rfl) .nil) (Gext.refl w0 g) ⟨(if 16777216 < (if xn < (-16777216) then (-16777216) else xn) then 16777216 else (if xn < (-16777216) then (-16777216) else xn)), rfl, rfl, hF⟩
def dcutM (xn : Int) : Int := (if 16777216 < (if xn < (-16777216) then (-16777216) else xn) then 16777216 else (if xn < (-16777216) then (-16777216) else xn))
set_option linter.unusedSimpArgs false in
set_option linter.unusedVariables false in
theorem dcutF_A (xn : Int) (P : Int → Prop) (h : P (dcutM xn)) : dcutF xn (fun k0 => P k0) := by
  unfold dcutM at h
  unfold dcutF
  exact h
theorem dcut_F (xn : Int) : dcutF xn (fun k0 => k0 = dcutM xn) :=
  dcutF_A xn (fun z => z = dcutM xn) rfl
set_option linter.unusedVariables false in
theorem dcut_c {g : Ghost} (xn : Int)  : CallsG Tryd.prog 23 #[.int .i64 xn] g (.int .i64 (dcutM xn)) :=
  (dcut_ok xn _ (dcut_F xn)).gives (by rintro g' H' v _ ⟨r0, rfl, rfl, hK⟩; subst hK; rfl)
def dinF (xn : Int) (xlow : Int) (xhigh : Int) (K : Bool → Prop) : Prop :=
  K ((decide (xn ≥ xlow)) && (decide (xn ≤ xhigh)))
set_option maxHeartbeats 4000000 in
set_option maxRecDepth 100000 in
set_option linter.unusedVariables false in
theorem din_ok {g : Ghost} (xn : Int) (xlow : Int) (xhigh : Int) (K : Bool → Prop)
    (hF : dinF xn xlow xhigh K) : CallsH Tryd.prog 22 #[.int .i64 xn, .int .i64 xlow, .int .i64 xhigh] g [] (fun g' H' v => ∃ (r0 : Bool), v = .bool r0 ∧ H' = [] ∧ K r0) := by
  refine CallsH.enter 15 [(0, .int .i64 xn), (1, .int .i64 xlow), (2, .int .i64 xhigh)] Tryd.func22 rfl (by kernel_rfl) (by kernel_rfl) (by kernel_rfl) fun w0 => ?_
  refine Ok.seq ?_
  refine Ok.region ?_
  refine Ok.batch 1 [(0, .int .i64 xn), (1, .int .i64 xlow), (2, .int .i64 xhigh)] (by kernel_rfl) ?_
  refine Ok.nil ?_
  refine Ok.thenN ?_
  refine Ok.seq ?_
  refine Ok.region ?_
  refine Ok.batch 4 [(0, .int .i64 xn), (2, .int .i64 xhigh), (10, .bool (decide (xn ≥ xlow)))] (by kernel_rfl) ?_
  refine Ok.midway 4 [(14, .bool ((decide (xn ≥ xlow)) && (decide (xn ≤ xhigh))))] (fun hR1 => ?_) ?_
  · refine Ok.boolAt 10 (decide (xn ≥ xlow)) rfl (fun hc2 => ?_) (fun hc2 => ?_)
    · skip
      refine Ok.batch 4 [(14, .bool (decide (xn ≤ xhigh)))] (by kernel_rfl) ?_
      refine Ok.reval 14 rfl (show (.bool (decide (xn ≤ xhigh)) : Value) = .bool ((decide (xn ≥ xlow)) && (decide (xn ≤ xhigh))) from congrArg Value.bool (mand_t hc2)) ?_
      refine Ok.batch 0 [(14, .bool ((decide (xn ≥ xlow)) && (decide (xn ≤ xhigh))))] (by kernel_rfl) ?_
      exact hR1
    · skip
      refine Ok.batch 4 [(14, .bool false)] (by kernel_rfl) ?_
      refine Ok.reval 14 rfl (show (.bool false : Value) = .bool ((decide (xn ≥ xlow)) && (decide (xn ≤ xhigh))) from congrArg Value.bool (mand_f hc2)) ?_
      refine Ok.batch 0 [(14, .bool ((decide (xn ≥ xlow)) && (decide (xn ≤ xhigh))))] (by kernel_rfl) ?_
      exact hR1
  refine Ok.batch 1 [(6, .bool ((decide (xn ≥ xlow)) && (decide (xn ≤ xhigh))))] (by kernel_rfl) ?_
  refine Ok.nil ?_
  refine Ok.thenN ?_
  refine Ok.ret ?_
  exact Ok.resH (vs := [.bool ((decide (xn ≥ xlow)) && (decide (xn ≤ xhigh)))]) (.inl rfl) rfl (.cons (.tmp rfl) .nil) (Gext.refl w0 g) ⟨((decide (xn ≥ xlow)) && (decide (xn ≤ xhigh))), rfl, rfl, hF⟩
def dinM (xn : Int) (xlow : Int) (xhigh : Int) : Bool := ((decide (xn ≥ xlow)) && (decide (xn ≤ xhigh)))
set_option linter.unusedSimpArgs false in
set_option linter.unusedVariables false in
theorem dinF_A (xn : Int) (xlow : Int) (xhigh : Int) (P : Bool → Prop) (h : P (dinM xn xlow xhigh)) : dinF xn xlow xhigh (fun k0 => P k0) := by
  unfold dinM at h
  unfold dinF
  exact h
theorem din_F (xn : Int) (xlow : Int) (xhigh : Int) : dinF xn xlow xhigh (fun k0 => k0 = dinM xn xlow xhigh) :=
  dinF_A xn xlow xhigh (fun z => z = dinM xn xlow xhigh) rfl
set_option linter.unusedVariables false in
theorem din_c {g : Ghost} (xn : Int) (xlow : Int) (xhigh : Int)  : CallsG Tryd.prog 22 #[.int .i64 xn, .int .i64 xlow, .int .i64 xhigh] g (.bool (dinM xn xlow xhigh)) :=
  (din_ok xn xlow xhigh _ (din_F xn xlow xhigh)).gives (by rintro g' H' v _ ⟨r0, rfl, rfl, hK⟩; subst hK; rfl)
def dpxV0 (xd : Int × List UInt8) (xk : Int × Int × Int × Int) : Bool :=
  ((!(dinM xd.1 (-1000000000) 1000000000)) || ((!(dinM xk.1 0 16777216)) || ((!(dinM xk.2.1 0 16777216)) || ((!(dinM xk.2.2.1 1 4000)) || (!(dinM xk.2.2.2 1 4000))))))
def dpxV1 (xd : Int × List UInt8) (xk : Int × Int × Int × Int) : Int :=
  (if (xd.2 == ([112, 120] : List UInt8)) = true then 64 else (if (xd.2 == ([101, 109] : List UInt8)) = true then xk.1 else (if (xd.2 == ([114, 101, 109] : List UInt8)) = true then xk.2.1 else (if (xd.2 == ([118, 119] : List UInt8)) = true then IntKind.wrap .i64 (64 * xk.2.2.1) else (if (xd.2 == ([118, 104] : List UInt8)) = true then IntKind.wrap .i64 (64 * xk.2.2.2) else 0)))))
def dpxV2 (xd : Int × List UInt8) : Int :=
  (if (xd.2 == ([112, 120] : List UInt8)) = true then 1000 else (if (xd.2 == ([101, 109] : List UInt8)) = true then 1000 else (if (xd.2 == ([114, 101, 109] : List UInt8)) = true then 1000 else (if (xd.2 == ([118, 119] : List UInt8)) = true then 100000 else (if (xd.2 == ([118, 104] : List UInt8)) = true then 100000 else 1000)))))
def dpxj13 (xd : Int × List UInt8) (xk : Int × Int × Int × Int) (K : Int → Int → Prop) : Prop :=
  byP (IntKind.wrap .i64 (xd.1 * (dpxV1 xd xk))) (dpxV2 xd) ∧ K (dcutM (downM (IntKind.wrap .i64 (xd.1 * (dpxV1 xd xk))) (dpxV2 xd))) 0
def dpxj37 (xd : Int × List UInt8) (xk : Int × Int × Int × Int) (K : Int → Int → Prop) : Prop :=
  ((((!(xd.2 == ([] : List UInt8))) || (xd.1 != 0))) = true → K 0 7) ∧ ((((!(xd.2 == ([] : List UInt8))) || (xd.1 != 0))) = false → dpxj13 xd xk K)
def dpxj4 (xd : Int × List UInt8) (xk : Int × Int × Int × Int) (K : Int → Int → Prop) : Prop :=
  (((dpxV0 xd xk)) = true → K 0 1) ∧ (((dpxV0 xd xk)) = false → (((xd.2 == ([112, 120] : List UInt8))) = true → dpxj13 xd xk K) ∧ (((xd.2 == ([112, 120] : List UInt8))) = false → (((xd.2 == ([101, 109] : List UInt8))) = true → dpxj13 xd xk K) ∧ (((xd.2 == ([101, 109] : List UInt8))) = false → (((xd.2 == ([114, 101, 109] : List UInt8))) = true → dpxj13 xd xk K) ∧ (((xd.2 == ([114, 101, 109] : List UInt8))) = false → (((xd.2 == ([118, 119] : List UInt8))) = true → dpxj13 xd xk K) ∧ (((xd.2 == ([118, 119] : List UInt8))) = false → (((xd.2 == ([118, 104] : List UInt8))) = true → dpxj13 xd xk K) ∧ (((xd.2 == ([118, 104] : List UInt8))) = false → ((!(xd.2 == ([] : List UInt8))) = true → dpxj37 xd xk K) ∧ ((!(xd.2 == ([] : List UInt8))) = false → dpxj37 xd xk K)))))))
def dpxF (xd : Int × List UInt8) (xk : Int × Int × Int × Int) (K : Int → Int → Prop) : Prop :=
  ((!(dinM xd.1 (-1000000000) 1000000000)) = true → dpxj4 xd xk K) ∧ ((!(dinM xd.1 (-1000000000) 1000000000)) = false → ((!(dinM xk.1 0 16777216)) = true → dpxj4 xd xk K) ∧ ((!(dinM xk.1 0 16777216)) = false → ((!(dinM xk.2.1 0 16777216)) = true → dpxj4 xd xk K) ∧ ((!(dinM xk.2.1 0 16777216)) = false → ((!(dinM xk.2.2.1 1 4000)) = true → dpxj4 xd xk K) ∧ ((!(dinM xk.2.2.1 1 4000)) = false → dpxj4 xd xk K))))
set_option maxHeartbeats 4000000 in
set_option maxRecDepth 100000 in
set_option linter.unusedVariables false in
theorem dpx_ok {g : Ghost} (xd : Int × List UInt8) (xk : Int × Int × Int × Int) (K : Int → Int → Prop)
    (hF : dpxF xd xk K) : CallsH Tryd.prog 12 #[.agg #[.int .i64 xd.1, .string ⟨⟨xd.2⟩⟩], .agg #[.int .i64 xk.1, .int .i64 xk.2.1, .int .i64 xk.2.2.1, .int .i64 xk.2.2.2]] g [] (fun g' H' v => ∃ (r0 : Int), ∃ (r1 : Int), v = .tuple #[.int .i64 r0, .int .i64 r1] ∧ H' = [] ∧ K r0 r1) := by
  refine CallsH.enter 73 [(0, .agg #[.int .i64 xd.1, .string ⟨⟨xd.2⟩⟩]), (1, .agg #[.int .i64 xk.1, .int .i64 xk.2.1, .int .i64 xk.2.2.1, .int .i64 xk.2.2.2])] Tryd.func12 rfl (by kernel_rfl) (by kernel_rfl) (by kernel_rfl) fun w0 => ?_
  refine Ok.seq ?_
  refine Ok.region ?_
  refine Ok.op rfl (OpOk.box (v := .agg #[.int .i64 xd.1, .string ⟨⟨xd.2⟩⟩]) (cs := #[.int .i64 xd.1, .string ⟨⟨xd.2⟩⟩]) rfl (by kernel_rfl) rfl fun b1 => ?_)
  refine Ok.op rfl (OpOk.box (v := .agg #[.int .i64 xk.1, .int .i64 xk.2.1, .int .i64 xk.2.2.1, .int .i64 xk.2.2.2]) (cs := #[.int .i64 xk.1, .int .i64 xk.2.1, .int .i64 xk.2.2.1, .int .i64 xk.2.2.2]) rfl (by kernel_rfl) rfl fun b2 => ?_)
  refine Ok.batch 2 [(2, .pointer (some ⟨b1, 0, none⟩)), (3, .pointer (some ⟨b2, 0, none⟩))] (by kernel_rfl) ?_
  refine Ok.nil ?_
  refine Ok.thenN ?_
  refine Ok.seq ?_
  refine Ok.cut (fun a W => StA 73 [(2, .pointer (some ⟨b1, 0, none⟩)), (3, .pointer (some ⟨b2, 0, none⟩)), (35, .bool (dpxV0 xd xk))] a ∧ StW w0 [.blk b2 (.cells #[.int .i64 xk.1, .int .i64 xk.2.1, .int .i64 xk.2.2.1, .int .i64 xk.2.2.2] 35), .blk b1 (.cells #[.int .i64 xd.1, .string ⟨⟨xd.2⟩⟩] 24)] g W ∧ dpxj4 xd xk K) ?_ ?_
  ·
    refine Ok.region ?_
    refine Ok.batch 1 [(2, .pointer (some ⟨b1, 0, none⟩)), (3, .pointer (some ⟨b2, 0, none⟩)), (8, .pointer (some ⟨b1, 0, none⟩))] (by kernel_rfl) ?_
    refine Ok.op rfl (OpOk.step (v := .int .i64 xd.1) (Yields.load 1 rfl rfl Tryd.underlying3 rfl (by kernel_rfl)) rfl rfl ?_)
    refine Ok.op rfl (OpOk.callG (v := .bool (dinM xd.1 (-1000000000) 1000000000)) (enters (by kernel_rfl) (fun _ => by kernel_rfl)) (fun W hW => din_c xd.1 (-1000000000) 1000000000) rfl ?_)
    refine Ok.batch 2 [(2, .pointer (some ⟨b1, 0, none⟩)), (3, .pointer (some ⟨b2, 0, none⟩)), (12, .bool (!(dinM xd.1 (-1000000000) 1000000000)))] (by kernel_rfl) ?_
    refine Ok.boolAt 12 (!(dinM xd.1 (-1000000000) 1000000000)) rfl (fun hc12 => ?_) (fun hc12 => ?_)
    · replace hF := hF.1 hc12
      refine Ok.batch 23 [(2, .pointer (some ⟨b1, 0, none⟩)), (3, .pointer (some ⟨b2, 0, none⟩)), (35, .bool true)] (by kernel_rfl) ?_
      refine Ok.nil ?_
      refine Ok.thenN ?_
      refine Ok.reval 35 rfl (show (.bool true : Value) = .bool (dpxV0 xd xk) from congrArg (Value.bool) (mor_t hc12)) ?_
      exact fun a W hA hW => ⟨hA.sub (by kernel_rfl), hW, hF⟩
    · replace hF := hF.2 hc12
      refine Ok.batch 1 [(2, .pointer (some ⟨b1, 0, none⟩)), (3, .pointer (some ⟨b2, 0, none⟩)), (12, .bool false), (13, .pointer (some ⟨b2, 0, none⟩))] (by kernel_rfl) ?_
      refine Ok.opYes (j := 4) (d := 12) (want := false) (b := false) rfl (by kernel_rfl) (by kernel_rfl) rfl (OpOk.step (v := .int .i64 xk.1) (Yields.load 0 rfl rfl Tryd.underlying3 rfl (by kernel_rfl)) rfl rfl ?_)
      refine Ok.opYes (j := 4) (d := 12) (want := false) (b := false) rfl (by kernel_rfl) (by kernel_rfl) rfl (OpOk.callG (v := .bool (dinM xk.1 0 16777216)) (enters (by kernel_rfl) (fun _ => by kernel_rfl)) (fun W hW => din_c xk.1 0 16777216) rfl ?_)
      refine Ok.batch 3 [(2, .pointer (some ⟨b1, 0, none⟩)), (3, .pointer (some ⟨b2, 0, none⟩)), (18, .bool (!(dinM xk.1 0 16777216)))] (by kernel_rfl) ?_
      refine Ok.boolAt 18 (!(dinM xk.1 0 16777216)) rfl (fun hc13 => ?_) (fun hc13 => ?_)
      · replace hF := hF.1 hc13
        refine Ok.batch 17 [(2, .pointer (some ⟨b1, 0, none⟩)), (3, .pointer (some ⟨b2, 0, none⟩)), (35, .bool true)] (by kernel_rfl) ?_
        refine Ok.nil ?_
        refine Ok.thenN ?_
        refine Ok.reval 35 rfl (show (.bool true : Value) = .bool (dpxV0 xd xk) from congrArg (Value.bool) ((Eq.trans (mor_t hc13) (mor_f hc12)))) ?_
        exact fun a W hA hW => ⟨hA.sub (by kernel_rfl), hW, hF⟩
      · replace hF := hF.2 hc13
        refine Ok.batch 1 [(2, .pointer (some ⟨b1, 0, none⟩)), (3, .pointer (some ⟨b2, 0, none⟩)), (18, .bool false), (19, .pointer (some ⟨b2, 1, none⟩))] (by kernel_rfl) ?_
        refine Ok.opYes (j := 10) (d := 18) (want := false) (b := false) rfl (by kernel_rfl) (by kernel_rfl) rfl (OpOk.step (v := .int .i64 xk.2.1) (Yields.load 0 rfl rfl Tryd.underlying3 rfl (by kernel_rfl)) rfl rfl ?_)
        refine Ok.opYes (j := 10) (d := 18) (want := false) (b := false) rfl (by kernel_rfl) (by kernel_rfl) rfl (OpOk.callG (v := .bool (dinM xk.2.1 0 16777216)) (enters (by kernel_rfl) (fun _ => by kernel_rfl)) (fun W hW => din_c xk.2.1 0 16777216) rfl ?_)
        refine Ok.batch 3 [(2, .pointer (some ⟨b1, 0, none⟩)), (3, .pointer (some ⟨b2, 0, none⟩)), (24, .bool (!(dinM xk.2.1 0 16777216)))] (by kernel_rfl) ?_
        refine Ok.boolAt 24 (!(dinM xk.2.1 0 16777216)) rfl (fun hc14 => ?_) (fun hc14 => ?_)
        · replace hF := hF.1 hc14
          refine Ok.batch 11 [(2, .pointer (some ⟨b1, 0, none⟩)), (3, .pointer (some ⟨b2, 0, none⟩)), (35, .bool true)] (by kernel_rfl) ?_
          refine Ok.nil ?_
          refine Ok.thenN ?_
          refine Ok.reval 35 rfl (show (.bool true : Value) = .bool (dpxV0 xd xk) from congrArg (Value.bool) ((Eq.trans ((Eq.trans (mor_t hc14) (mor_f hc13))) (mor_f hc12)))) ?_
          exact fun a W hA hW => ⟨hA.sub (by kernel_rfl), hW, hF⟩
        · replace hF := hF.2 hc14
          refine Ok.batch 1 [(2, .pointer (some ⟨b1, 0, none⟩)), (3, .pointer (some ⟨b2, 0, none⟩)), (24, .bool false), (25, .pointer (some ⟨b2, 2, none⟩))] (by kernel_rfl) ?_
          refine Ok.opYes (j := 16) (d := 24) (want := false) (b := false) rfl (by kernel_rfl) (by kernel_rfl) rfl (OpOk.step (v := .int .i64 xk.2.2.1) (Yields.load 0 rfl rfl Tryd.underlying3 rfl (by kernel_rfl)) rfl rfl ?_)
          refine Ok.opYes (j := 16) (d := 24) (want := false) (b := false) rfl (by kernel_rfl) (by kernel_rfl) rfl (OpOk.callG (v := .bool (dinM xk.2.2.1 1 4000)) (enters (by kernel_rfl) (fun _ => by kernel_rfl)) (fun W hW => din_c xk.2.2.1 1 4000) rfl ?_)
          refine Ok.batch 3 [(2, .pointer (some ⟨b1, 0, none⟩)), (3, .pointer (some ⟨b2, 0, none⟩)), (30, .bool (!(dinM xk.2.2.1 1 4000)))] (by kernel_rfl) ?_
          refine Ok.boolAt 30 (!(dinM xk.2.2.1 1 4000)) rfl (fun hc15 => ?_) (fun hc15 => ?_)
          · replace hF := hF.1 hc15
            refine Ok.batch 5 [(2, .pointer (some ⟨b1, 0, none⟩)), (3, .pointer (some ⟨b2, 0, none⟩)), (35, .bool true)] (by kernel_rfl) ?_
            refine Ok.nil ?_
            refine Ok.thenN ?_
            refine Ok.reval 35 rfl (show (.bool true : Value) = .bool (dpxV0 xd xk) from congrArg (Value.bool) ((Eq.trans ((Eq.trans ((Eq.trans (mor_t hc15) (mor_f hc14))) (mor_f hc13))) (mor_f hc12)))) ?_
            exact fun a W hA hW => ⟨hA.sub (by kernel_rfl), hW, hF⟩
          · replace hF := hF.2 hc15
            refine Ok.batch 1 [(2, .pointer (some ⟨b1, 0, none⟩)), (3, .pointer (some ⟨b2, 0, none⟩)), (30, .bool false), (31, .pointer (some ⟨b2, 3, none⟩))] (by kernel_rfl) ?_
            refine Ok.opYes (j := 22) (d := 30) (want := false) (b := false) rfl (by kernel_rfl) (by kernel_rfl) rfl (OpOk.step (v := .int .i64 xk.2.2.2) (Yields.load 0 rfl rfl Tryd.underlying3 rfl (by kernel_rfl)) rfl rfl ?_)
            refine Ok.opYes (j := 22) (d := 30) (want := false) (b := false) rfl (by kernel_rfl) (by kernel_rfl) rfl (OpOk.callG (v := .bool (dinM xk.2.2.2 1 4000)) (enters (by kernel_rfl) (fun _ => by kernel_rfl)) (fun W hW => din_c xk.2.2.2 1 4000) rfl ?_)
            refine Ok.batch 2 [(2, .pointer (some ⟨b1, 0, none⟩)), (3, .pointer (some ⟨b2, 0, none⟩)), (35, .bool (!(dinM xk.2.2.2 1 4000)))] (by kernel_rfl) ?_
            refine Ok.nil ?_
            refine Ok.thenN ?_
            refine Ok.reval 35 rfl (show (.bool (!(dinM xk.2.2.2 1 4000)) : Value) = .bool (dpxV0 xd xk) from congrArg (Value.bool) ((Eq.trans ((Eq.trans ((Eq.trans (mor_f hc15) (mor_f hc14))) (mor_f hc13))) (mor_f hc12)))) ?_
            exact fun a W hA hW => ⟨hA.sub (by kernel_rfl), hW, hF⟩
  ·
    clear hF
    rintro a W ⟨hA, hW, hF⟩
    refine (?_ : Ok _ _ _ _ _ _) a W hA hW
    clear hA hW
    refine Ok.cond (b := (dpxV0 xd xk)) rfl (fun hc3 => ?_) (fun hc3 => ?_)
    · replace hF := hF.1 hc3
      refine Ok.seq ?_
      refine Ok.region ?_
      refine Ok.batch 2 [(4, .int .i64 0), (5, .int .i64 1)] (by kernel_rfl) ?_
      refine Ok.nil ?_
      refine Ok.thenN ?_
      refine Ok.ret ?_
      refine Ok.thenR ?_
      exact Ok.resP (vs := [.int .i64 0, .int .i64 1]) [] [] (by decide) rfl (.inl rfl) rfl (.cons (.tmp rfl) (.cons (.tmp rfl) .nil)) (Gext.refl w0 g) ⟨0, 1, rfl, rfl, hF⟩
    · replace hF := hF.2 hc3
      refine Ok.skip ?_
      refine Ok.thenN ?_
      refine Ok.seq ?_
      refine Ok.region ?_
      refine Ok.batch 2 [(2, .pointer (some ⟨b1, 0, none⟩)), (3, .pointer (some ⟨b2, 0, none⟩)), (6, .int .i64 0), (7, .int .i64 1000)] (by kernel_rfl) ?_
      refine Ok.nil ?_
      refine Ok.thenN ?_
      refine Ok.cut (fun a W => StA 73 [(2, .pointer (some ⟨b1, 0, none⟩)), (6, .int .i64 (dpxV1 xd xk)), (7, .int .i64 (dpxV2 xd))] a ∧ StW w0 [.blk b1 (.cells #[.int .i64 xd.1, .string ⟨⟨xd.2⟩⟩] 24)] g W ∧ dpxj13 xd xk K) ?_ ?_
      ·
        refine Ok.seq ?_
        refine Ok.region ?_
        refine Ok.batch 1 [(2, .pointer (some ⟨b1, 0, none⟩)), (3, .pointer (some ⟨b2, 0, none⟩)), (6, .int .i64 0), (7, .int .i64 1000), (36, .pointer (some ⟨b1, 1, none⟩))] (by kernel_rfl) ?_
        refine Ok.op rfl (OpOk.step (v := .string ⟨⟨xd.2⟩⟩) (Yields.load 1 rfl rfl Tryd.underlying9 rfl (by kernel_rfl)) rfl rfl ?_)
        refine Ok.nil ?_
        refine Ok.thenN ?_
        refine Ok.block ?_
        refine Ok.seq ?_
        refine Ok.region ?_
        refine Ok.op rfl (OpOk.step (v := .bool (xd.2 == ([112, 120] : List UInt8))) (Yields.strCmp (f := .eql) (a := xd.2) (b := ([112, 120] : List UInt8)) (by kernel_rfl) (by kernel_rfl) rfl) rfl rfl ?_)
        refine Ok.batch 1 [(2, .pointer (some ⟨b1, 0, none⟩)), (3, .pointer (some ⟨b2, 0, none⟩)), (6, .int .i64 0), (7, .int .i64 1000), (37, .string ⟨⟨xd.2⟩⟩), (46, .bool (xd.2 == ([112, 120] : List UInt8)))] (by kernel_rfl) ?_
        refine Ok.nil ?_
        refine Ok.thenN ?_
        refine Ok.cond (b := (xd.2 == ([112, 120] : List UInt8))) rfl (fun hc5 => ?_) (fun hc5 => ?_)
        · replace hF := hF.1 hc5
          refine Ok.region ?_
          refine Ok.batch 1 [(2, .pointer (some ⟨b1, 0, none⟩)), (6, .int .i64 64), (7, .int .i64 1000)] (by kernel_rfl) ?_
          refine Ok.nil ?_
          refine Ok.blockN ?_
          refine Ok.thenN ?_
          refine Ok.reval 6 rfl (show (.int .i64 64 : Value) = .int .i64 (dpxV1 xd xk) from congrArg (Value.int .i64) ((if_t hc5).symm)) ?_
          refine Ok.reval 7 rfl (show (.int .i64 1000 : Value) = .int .i64 (dpxV2 xd) from congrArg (Value.int .i64) ((if_t hc5).symm)) ?_
          exact fun a W hA hW => ⟨hA.sub (by kernel_rfl), hW.sub (.cons _ (.cons_cons _ .slnil)), hF⟩
        · replace hF := hF.2 hc5
          refine Ok.seq ?_
          refine Ok.region ?_
          refine Ok.op rfl (OpOk.step (v := .bool (xd.2 == ([101, 109] : List UInt8))) (Yields.strCmp (f := .eql) (a := xd.2) (b := ([101, 109] : List UInt8)) (by kernel_rfl) (by kernel_rfl) rfl) rfl rfl ?_)
          refine Ok.batch 1 [(2, .pointer (some ⟨b1, 0, none⟩)), (3, .pointer (some ⟨b2, 0, none⟩)), (6, .int .i64 0), (7, .int .i64 1000), (37, .string ⟨⟨xd.2⟩⟩), (48, .bool (xd.2 == ([101, 109] : List UInt8)))] (by kernel_rfl) ?_
          refine Ok.nil ?_
          refine Ok.thenN ?_
          refine Ok.cond (b := (xd.2 == ([101, 109] : List UInt8))) rfl (fun hc6 => ?_) (fun hc6 => ?_)
          · replace hF := hF.1 hc6
            refine Ok.region ?_
            refine Ok.batch 1 [(2, .pointer (some ⟨b1, 0, none⟩)), (7, .int .i64 1000), (50, .pointer (some ⟨b2, 0, none⟩))] (by kernel_rfl) ?_
            refine Ok.op rfl (OpOk.step (v := .int .i64 xk.1) (Yields.load 0 rfl rfl Tryd.underlying3 rfl (by kernel_rfl)) rfl rfl ?_)
            refine Ok.batch 1 [(2, .pointer (some ⟨b1, 0, none⟩)), (6, .int .i64 xk.1), (7, .int .i64 1000)] (by kernel_rfl) ?_
            refine Ok.nil ?_
            refine Ok.blockN ?_
            refine Ok.thenN ?_
            refine Ok.reval 6 rfl (show (.int .i64 xk.1 : Value) = .int .i64 (dpxV1 xd xk) from congrArg (Value.int .i64) ((Eq.trans ((if_t hc6).symm) ((if_f hc5).symm)))) ?_
            refine Ok.reval 7 rfl (show (.int .i64 1000 : Value) = .int .i64 (dpxV2 xd) from congrArg (Value.int .i64) ((Eq.trans ((if_t hc6).symm) ((if_f hc5).symm)))) ?_
            exact fun a W hA hW => ⟨hA.sub (by kernel_rfl), hW.sub (.cons _ (.cons_cons _ .slnil)), hF⟩
          · replace hF := hF.2 hc6
            refine Ok.seq ?_
            refine Ok.region ?_
            refine Ok.op rfl (OpOk.step (v := .bool (xd.2 == ([114, 101, 109] : List UInt8))) (Yields.strCmp (f := .eql) (a := xd.2) (b := ([114, 101, 109] : List UInt8)) (by kernel_rfl) (by kernel_rfl) rfl) rfl rfl ?_)
            refine Ok.batch 1 [(2, .pointer (some ⟨b1, 0, none⟩)), (3, .pointer (some ⟨b2, 0, none⟩)), (6, .int .i64 0), (7, .int .i64 1000), (37, .string ⟨⟨xd.2⟩⟩), (52, .bool (xd.2 == ([114, 101, 109] : List UInt8)))] (by kernel_rfl) ?_
            refine Ok.nil ?_
            refine Ok.thenN ?_
            refine Ok.cond (b := (xd.2 == ([114, 101, 109] : List UInt8))) rfl (fun hc7 => ?_) (fun hc7 => ?_)
            · replace hF := hF.1 hc7
              refine Ok.region ?_
              refine Ok.batch 1 [(2, .pointer (some ⟨b1, 0, none⟩)), (7, .int .i64 1000), (54, .pointer (some ⟨b2, 1, none⟩))] (by kernel_rfl) ?_
              refine Ok.op rfl (OpOk.step (v := .int .i64 xk.2.1) (Yields.load 0 rfl rfl Tryd.underlying3 rfl (by kernel_rfl)) rfl rfl ?_)
              refine Ok.batch 1 [(2, .pointer (some ⟨b1, 0, none⟩)), (6, .int .i64 xk.2.1), (7, .int .i64 1000)] (by kernel_rfl) ?_
              refine Ok.nil ?_
              refine Ok.blockN ?_
              refine Ok.thenN ?_
              refine Ok.reval 6 rfl (show (.int .i64 xk.2.1 : Value) = .int .i64 (dpxV1 xd xk) from congrArg (Value.int .i64) ((Eq.trans ((Eq.trans ((if_t hc7).symm) ((if_f hc6).symm))) ((if_f hc5).symm)))) ?_
              refine Ok.reval 7 rfl (show (.int .i64 1000 : Value) = .int .i64 (dpxV2 xd) from congrArg (Value.int .i64) ((Eq.trans ((Eq.trans ((if_t hc7).symm) ((if_f hc6).symm))) ((if_f hc5).symm)))) ?_
              exact fun a W hA hW => ⟨hA.sub (by kernel_rfl), hW.sub (.cons _ (.cons_cons _ .slnil)), hF⟩
            · replace hF := hF.2 hc7
              refine Ok.seq ?_
              refine Ok.region ?_
              refine Ok.op rfl (OpOk.step (v := .bool (xd.2 == ([118, 119] : List UInt8))) (Yields.strCmp (f := .eql) (a := xd.2) (b := ([118, 119] : List UInt8)) (by kernel_rfl) (by kernel_rfl) rfl) rfl rfl ?_)
              refine Ok.batch 1 [(2, .pointer (some ⟨b1, 0, none⟩)), (3, .pointer (some ⟨b2, 0, none⟩)), (6, .int .i64 0), (7, .int .i64 1000), (37, .string ⟨⟨xd.2⟩⟩), (56, .bool (xd.2 == ([118, 119] : List UInt8)))] (by kernel_rfl) ?_
              refine Ok.nil ?_
              refine Ok.thenN ?_
              refine Ok.cond (b := (xd.2 == ([118, 119] : List UInt8))) rfl (fun hc8 => ?_) (fun hc8 => ?_)
              · replace hF := hF.1 hc8
                refine Ok.region ?_
                refine Ok.batch 1 [(2, .pointer (some ⟨b1, 0, none⟩)), (58, .pointer (some ⟨b2, 2, none⟩))] (by kernel_rfl) ?_
                refine Ok.op rfl (OpOk.step (v := .int .i64 xk.2.2.1) (Yields.load 0 rfl rfl Tryd.underlying3 rfl (by kernel_rfl)) rfl rfl ?_)
                refine Ok.batch 3 [(2, .pointer (some ⟨b1, 0, none⟩)), (6, .int .i64 (IntKind.wrap .i64 (64 * xk.2.2.1))), (7, .int .i64 100000)] (by kernel_rfl) ?_
                refine Ok.nil ?_
                refine Ok.blockN ?_
                refine Ok.thenN ?_
                refine Ok.reval 6 rfl (show (.int .i64 (IntKind.wrap .i64 (64 * xk.2.2.1)) : Value) = .int .i64 (dpxV1 xd xk) from congrArg (Value.int .i64) ((Eq.trans ((Eq.trans ((Eq.trans ((if_t hc8).symm) ((if_f hc7).symm))) ((if_f hc6).symm))) ((if_f hc5).symm)))) ?_
                refine Ok.reval 7 rfl (show (.int .i64 100000 : Value) = .int .i64 (dpxV2 xd) from congrArg (Value.int .i64) ((Eq.trans ((Eq.trans ((Eq.trans ((if_t hc8).symm) ((if_f hc7).symm))) ((if_f hc6).symm))) ((if_f hc5).symm)))) ?_
                exact fun a W hA hW => ⟨hA.sub (by kernel_rfl), hW.sub (.cons _ (.cons_cons _ .slnil)), hF⟩
              · replace hF := hF.2 hc8
                refine Ok.seq ?_
                refine Ok.region ?_
                refine Ok.op rfl (OpOk.step (v := .bool (xd.2 == ([118, 104] : List UInt8))) (Yields.strCmp (f := .eql) (a := xd.2) (b := ([118, 104] : List UInt8)) (by kernel_rfl) (by kernel_rfl) rfl) rfl rfl ?_)
                refine Ok.batch 1 [(2, .pointer (some ⟨b1, 0, none⟩)), (3, .pointer (some ⟨b2, 0, none⟩)), (6, .int .i64 0), (7, .int .i64 1000), (61, .bool (xd.2 == ([118, 104] : List UInt8)))] (by kernel_rfl) ?_
                refine Ok.nil ?_
                refine Ok.thenN ?_
                refine Ok.cond (b := (xd.2 == ([118, 104] : List UInt8))) rfl (fun hc9 => ?_) (fun hc9 => ?_)
                · replace hF := hF.1 hc9
                  refine Ok.region ?_
                  refine Ok.batch 1 [(2, .pointer (some ⟨b1, 0, none⟩)), (63, .pointer (some ⟨b2, 3, none⟩))] (by kernel_rfl) ?_
                  refine Ok.op rfl (OpOk.step (v := .int .i64 xk.2.2.2) (Yields.load 0 rfl rfl Tryd.underlying3 rfl (by kernel_rfl)) rfl rfl ?_)
                  refine Ok.batch 3 [(2, .pointer (some ⟨b1, 0, none⟩)), (6, .int .i64 (IntKind.wrap .i64 (64 * xk.2.2.2))), (7, .int .i64 100000)] (by kernel_rfl) ?_
                  refine Ok.nil ?_
                  refine Ok.blockN ?_
                  refine Ok.thenN ?_
                  refine Ok.reval 6 rfl (show (.int .i64 (IntKind.wrap .i64 (64 * xk.2.2.2)) : Value) = .int .i64 (dpxV1 xd xk) from congrArg (Value.int .i64) ((Eq.trans ((Eq.trans ((Eq.trans ((Eq.trans ((if_t hc9).symm) ((if_f hc8).symm))) ((if_f hc7).symm))) ((if_f hc6).symm))) ((if_f hc5).symm)))) ?_
                  refine Ok.reval 7 rfl (show (.int .i64 100000 : Value) = .int .i64 (dpxV2 xd) from congrArg (Value.int .i64) ((Eq.trans ((Eq.trans ((Eq.trans ((Eq.trans ((if_t hc9).symm) ((if_f hc8).symm))) ((if_f hc7).symm))) ((if_f hc6).symm))) ((if_f hc5).symm)))) ?_
                  exact fun a W hA hW => ⟨hA.sub (by kernel_rfl), hW.sub (.cons _ (.cons_cons _ .slnil)), hF⟩
                · replace hF := hF.2 hc9
                  refine Ok.cut (fun a W => StA 73 [(2, .pointer (some ⟨b1, 0, none⟩)), (6, .int .i64 0), (7, .int .i64 1000), (45, .bool ((!(xd.2 == ([] : List UInt8))) || (xd.1 != 0)))] a ∧ StW w0 [.blk b1 (.cells #[.int .i64 xd.1, .string ⟨⟨xd.2⟩⟩] 24)] g W ∧ dpxj37 xd xk K) ?_ ?_
                  ·
                    refine Ok.region ?_
                    refine Ok.batch 1 [(2, .pointer (some ⟨b1, 0, none⟩)), (6, .int .i64 0), (7, .int .i64 1000), (38, .pointer (some ⟨b1, 1, none⟩))] (by kernel_rfl) ?_
                    refine Ok.op rfl (OpOk.step (v := .string ⟨⟨xd.2⟩⟩) (Yields.load 1 rfl rfl Tryd.underlying9 rfl (by kernel_rfl)) rfl rfl ?_)
                    refine Ok.op rfl (OpOk.step (v := .bool (!(xd.2 == ([] : List UInt8)))) (Yields.strCmp (f := .neq) (a := xd.2) (b := ([] : List UInt8)) (by kernel_rfl) (by kernel_rfl) rfl) rfl rfl ?_)
                    refine Ok.batch 1 [(2, .pointer (some ⟨b1, 0, none⟩)), (6, .int .i64 0), (7, .int .i64 1000), (41, .bool (!(xd.2 == ([] : List UInt8))))] (by kernel_rfl) ?_
                    refine Ok.boolAt 41 (!(xd.2 == ([] : List UInt8))) rfl (fun hc11 => ?_) (fun hc11 => ?_)
                    · replace hF := hF.1 hc11
                      refine Ok.batch 4 [(2, .pointer (some ⟨b1, 0, none⟩)), (6, .int .i64 0), (7, .int .i64 1000), (45, .bool true)] (by kernel_rfl) ?_
                      refine Ok.nil ?_
                      refine Ok.thenN ?_
                      refine Ok.reval 45 rfl (show (.bool true : Value) = .bool ((!(xd.2 == ([] : List UInt8))) || (xd.1 != 0)) from congrArg (Value.bool) (mor_t hc11)) ?_
                      exact fun a W hA hW => ⟨hA.sub (by kernel_rfl), hW.sub (.cons _ (.cons_cons _ .slnil)), hF⟩
                    · replace hF := hF.2 hc11
                      refine Ok.batch 1 [(2, .pointer (some ⟨b1, 0, none⟩)), (6, .int .i64 0), (7, .int .i64 1000), (41, .bool false), (42, .pointer (some ⟨b1, 0, none⟩))] (by kernel_rfl) ?_
                      refine Ok.opYes (j := 3) (d := 41) (want := false) (b := false) rfl (by kernel_rfl) (by kernel_rfl) rfl (OpOk.step (v := .int .i64 xd.1) (Yields.load 1 rfl rfl Tryd.underlying3 rfl (by kernel_rfl)) rfl rfl ?_)
                      refine Ok.batch 2 [(2, .pointer (some ⟨b1, 0, none⟩)), (6, .int .i64 0), (7, .int .i64 1000), (45, .bool (xd.1 != 0))] (by kernel_rfl) ?_
                      refine Ok.nil ?_
                      refine Ok.thenN ?_
                      refine Ok.reval 45 rfl (show (.bool (xd.1 != 0) : Value) = .bool ((!(xd.2 == ([] : List UInt8))) || (xd.1 != 0)) from congrArg (Value.bool) (mor_f hc11)) ?_
                      exact fun a W hA hW => ⟨hA.sub (by kernel_rfl), hW.sub (.cons _ (.cons_cons _ .slnil)), hF⟩
                  ·
                    clear hF
                    rintro a W ⟨hA, hW, hF⟩
                    refine (?_ : Ok _ _ _ _ _ _) a W hA hW
                    clear hA hW
                    refine Ok.cond (b := ((!(xd.2 == ([] : List UInt8))) || (xd.1 != 0))) rfl (fun hc10 => ?_) (fun hc10 => ?_)
                    · replace hF := hF.1 hc10
                      refine Ok.seq ?_
                      refine Ok.region ?_
                      refine Ok.batch 2 [(4, .int .i64 0), (5, .int .i64 7)] (by kernel_rfl) ?_
                      refine Ok.nil ?_
                      refine Ok.thenN ?_
                      refine Ok.ret ?_
                      refine Ok.blockR ?_
                      refine Ok.thenR ?_
                      exact Ok.resP (vs := [.int .i64 0, .int .i64 7]) [] [] (by decide) rfl (.inl rfl) rfl (.cons (.tmp rfl) (.cons (.tmp rfl) .nil)) (Gext.refl w0 g) ⟨0, 7, rfl, rfl, hF⟩
                    · replace hF := hF.2 hc10
                      refine Ok.skip ?_
                      refine Ok.blockN ?_
                      refine Ok.thenN ?_
                      refine Ok.reval 6 rfl (show (.int .i64 0 : Value) = .int .i64 (dpxV1 xd xk) from congrArg (Value.int .i64) ((Eq.trans ((Eq.trans ((Eq.trans ((Eq.trans ((if_f hc9).symm) ((if_f hc8).symm))) ((if_f hc7).symm))) ((if_f hc6).symm))) ((if_f hc5).symm)))) ?_
                      refine Ok.reval 7 rfl (show (.int .i64 1000 : Value) = .int .i64 (dpxV2 xd) from congrArg (Value.int .i64) ((Eq.trans ((Eq.trans ((Eq.trans ((Eq.trans ((if_f hc9).symm) ((if_f hc8).symm))) ((if_f hc7).symm))) ((if_f hc6).symm))) ((if_f hc5).symm)))) ?_
                      exact fun a W hA hW => ⟨hA.sub (by kernel_rfl), hW, hF⟩
      ·
        clear hF
        rintro a W ⟨hA, hW, hF⟩
        refine (?_ : Ok _ _ _ _ _ _) a W hA hW
        clear hA hW
        refine Ok.seq ?_
        refine Ok.region ?_
        refine Ok.batch 1 [(6, .int .i64 (dpxV1 xd xk)), (7, .int .i64 (dpxV2 xd)), (66, .pointer (some ⟨b1, 0, none⟩))] (by kernel_rfl) ?_
        refine Ok.op rfl (OpOk.step (v := .int .i64 xd.1) (Yields.load 0 rfl rfl Tryd.underlying3 rfl (by kernel_rfl)) rfl rfl ?_)
        refine Ok.batch 3 [(69, .int .i64 (IntKind.wrap .i64 (xd.1 * (dpxV1 xd xk)))), (70, .int .i64 (dpxV2 xd))] (by kernel_rfl) ?_
        obtain ⟨hp4, hF⟩ := hF
        refine Ok.op rfl (OpOk.callG (v := .int .i64 (downM (IntKind.wrap .i64 (xd.1 * (dpxV1 xd xk))) (dpxV2 xd))) (enters (by kernel_rfl) (fun _ => by kernel_rfl)) (fun W hW => down_c (IntKind.wrap .i64 (xd.1 * (dpxV1 xd xk))) (dpxV2 xd) hp4) rfl ?_)
        refine Ok.op rfl (OpOk.callG (v := .int .i64 (dcutM (downM (IntKind.wrap .i64 (xd.1 * (dpxV1 xd xk))) (dpxV2 xd)))) (enters (by kernel_rfl) (fun _ => by kernel_rfl)) (fun W hW => dcut_c (downM (IntKind.wrap .i64 (xd.1 * (dpxV1 xd xk))) (dpxV2 xd))) rfl ?_)
        refine Ok.batch 2 [(4, .int .i64 (dcutM (downM (IntKind.wrap .i64 (xd.1 * (dpxV1 xd xk))) (dpxV2 xd)))), (5, .int .i64 0)] (by kernel_rfl) ?_
        refine Ok.nil ?_
        refine Ok.thenN ?_
        refine Ok.ret ?_
        exact Ok.resP (vs := [.int .i64 (dcutM (downM (IntKind.wrap .i64 (xd.1 * (dpxV1 xd xk))) (dpxV2 xd))), .int .i64 0]) [] [] (by decide) rfl (.inl rfl) rfl (.cons (.tmp rfl) (.cons (.tmp rfl) .nil)) (Gext.refl w0 g) ⟨(dcutM (downM (IntKind.wrap .i64 (xd.1 * (dpxV1 xd xk))) (dpxV2 xd))), 0, rfl, rfl, hF⟩
theorem v2_ne (n : Int) (d : Int × List UInt8) : byP n (dpxV2 d) := by
  unfold byP dpxV2
  repeat' split
  all_goals decide
def dpxj13M (xd : Int × List UInt8) (xk : Int × Int × Int × Int) : Int × Int := ((dcutM (downM (IntKind.wrap .i64 (xd.1 * (dpxV1 xd xk))) (dpxV2 xd))), 0)
set_option linter.unusedSimpArgs false in
set_option linter.unusedVariables false in
theorem dpxj13_A (xd : Int × List UInt8) (xk : Int × Int × Int × Int) (P : Int × Int → Prop) (h : P (dpxj13M xd xk)) : dpxj13 xd xk (fun k0 k1 => P (k0, k1)) := by
  unfold dpxj13M at h
  unfold dpxj13
  refine ⟨?_, ?_⟩
  · first | exact v2_ne _ _ | omega | assumption | exact trivial | (have h0 := List.length_pos_iff.mpr (by assumption); omega) | (simp; omega) | (simp at *; omega)
  exact h
def dpxj37M (xd : Int × List UInt8) (xk : Int × Int × Int × Int) : Int × Int := (if ((!(xd.2 == ([] : List UInt8))) || (xd.1 != 0)) = true then (0, 7) else (dpxj13M xd xk))
set_option linter.unusedSimpArgs false in
set_option linter.unusedVariables false in
theorem dpxj37_A (xd : Int × List UInt8) (xk : Int × Int × Int × Int) (P : Int × Int → Prop) (h : P (dpxj37M xd xk)) : dpxj37 xd xk (fun k0 k1 => P (k0, k1)) := by
  unfold dpxj37M at h
  unfold dpxj37
  refine ⟨fun hc0 => ?_, fun hc0 => ?_⟩
  · rw [if_t hc0] at h
    have hd0 := hc0; try simp only [Bool.and_eq_true, Bool.or_eq_true, Bool.and_eq_false_iff, Bool.or_eq_false_iff, Bool.not_eq_true', Bool.not_eq_false', decide_eq_true_eq, decide_eq_false_iff_not, beq_iff_eq, beq_eq_false_iff_ne, ne_eq] at hd0
    exact h
  · rw [if_f hc0] at h
    have hd0 := hc0; try simp only [Bool.and_eq_true, Bool.or_eq_true, Bool.and_eq_false_iff, Bool.or_eq_false_iff, Bool.not_eq_true', Bool.not_eq_false', decide_eq_true_eq, decide_eq_false_iff_not, beq_iff_eq, beq_eq_false_iff_ne, ne_eq] at hd0
    exact dpxj13_A xd xk _ h
def dpxj4M (xd : Int × List UInt8) (xk : Int × Int × Int × Int) : Int × Int := (if (dpxV0 xd xk) = true then (0, 1) else (if (xd.2 == ([112, 120] : List UInt8)) = true then (dpxj13M xd xk) else (if (xd.2 == ([101, 109] : List UInt8)) = true then (dpxj13M xd xk) else (if (xd.2 == ([114, 101, 109] : List UInt8)) = true then (dpxj13M xd xk) else (if (xd.2 == ([118, 119] : List UInt8)) = true then (dpxj13M xd xk) else (if (xd.2 == ([118, 104] : List UInt8)) = true then (dpxj13M xd xk) else (dpxj37M xd xk)))))))
set_option linter.unusedSimpArgs false in
set_option linter.unusedVariables false in
theorem dpxj4_A (xd : Int × List UInt8) (xk : Int × Int × Int × Int) (P : Int × Int → Prop) (h : P (dpxj4M xd xk)) : dpxj4 xd xk (fun k0 k1 => P (k0, k1)) := by
  unfold dpxj4M at h
  unfold dpxj4
  refine ⟨fun hc0 => ?_, fun hc0 => ?_⟩
  · rw [if_t hc0] at h
    exact h
  · rw [if_f hc0] at h
    refine ⟨fun hc1 => ?_, fun hc1 => ?_⟩
    · rw [if_t hc1] at h
      have hd1 := hc1; try simp only [Bool.and_eq_true, Bool.or_eq_true, Bool.and_eq_false_iff, Bool.or_eq_false_iff, Bool.not_eq_true', Bool.not_eq_false', decide_eq_true_eq, decide_eq_false_iff_not, beq_iff_eq, beq_eq_false_iff_ne, ne_eq] at hd1
      exact dpxj13_A xd xk _ h
    · rw [if_f hc1] at h
      have hd1 := hc1; try simp only [Bool.and_eq_true, Bool.or_eq_true, Bool.and_eq_false_iff, Bool.or_eq_false_iff, Bool.not_eq_true', Bool.not_eq_false', decide_eq_true_eq, decide_eq_false_iff_not, beq_iff_eq, beq_eq_false_iff_ne, ne_eq] at hd1
      refine ⟨fun hc2 => ?_, fun hc2 => ?_⟩
      · rw [if_t hc2] at h
        have hd2 := hc2; try simp only [Bool.and_eq_true, Bool.or_eq_true, Bool.and_eq_false_iff, Bool.or_eq_false_iff, Bool.not_eq_true', Bool.not_eq_false', decide_eq_true_eq, decide_eq_false_iff_not, beq_iff_eq, beq_eq_false_iff_ne, ne_eq] at hd2
        exact dpxj13_A xd xk _ h
      · rw [if_f hc2] at h
        have hd2 := hc2; try simp only [Bool.and_eq_true, Bool.or_eq_true, Bool.and_eq_false_iff, Bool.or_eq_false_iff, Bool.not_eq_true', Bool.not_eq_false', decide_eq_true_eq, decide_eq_false_iff_not, beq_iff_eq, beq_eq_false_iff_ne, ne_eq] at hd2
        refine ⟨fun hc3 => ?_, fun hc3 => ?_⟩
        · rw [if_t hc3] at h
          have hd3 := hc3; try simp only [Bool.and_eq_true, Bool.or_eq_true, Bool.and_eq_false_iff, Bool.or_eq_false_iff, Bool.not_eq_true', Bool.not_eq_false', decide_eq_true_eq, decide_eq_false_iff_not, beq_iff_eq, beq_eq_false_iff_ne, ne_eq] at hd3
          exact dpxj13_A xd xk _ h
        · rw [if_f hc3] at h
          have hd3 := hc3; try simp only [Bool.and_eq_true, Bool.or_eq_true, Bool.and_eq_false_iff, Bool.or_eq_false_iff, Bool.not_eq_true', Bool.not_eq_false', decide_eq_true_eq, decide_eq_false_iff_not, beq_iff_eq, beq_eq_false_iff_ne, ne_eq] at hd3
          refine ⟨fun hc4 => ?_, fun hc4 => ?_⟩
          · rw [if_t hc4] at h
            have hd4 := hc4; try simp only [Bool.and_eq_true, Bool.or_eq_true, Bool.and_eq_false_iff, Bool.or_eq_false_iff, Bool.not_eq_true', Bool.not_eq_false', decide_eq_true_eq, decide_eq_false_iff_not, beq_iff_eq, beq_eq_false_iff_ne, ne_eq] at hd4
            exact dpxj13_A xd xk _ h
          · rw [if_f hc4] at h
            have hd4 := hc4; try simp only [Bool.and_eq_true, Bool.or_eq_true, Bool.and_eq_false_iff, Bool.or_eq_false_iff, Bool.not_eq_true', Bool.not_eq_false', decide_eq_true_eq, decide_eq_false_iff_not, beq_iff_eq, beq_eq_false_iff_ne, ne_eq] at hd4
            refine ⟨fun hc5 => ?_, fun hc5 => ?_⟩
            · rw [if_t hc5] at h
              have hd5 := hc5; try simp only [Bool.and_eq_true, Bool.or_eq_true, Bool.and_eq_false_iff, Bool.or_eq_false_iff, Bool.not_eq_true', Bool.not_eq_false', decide_eq_true_eq, decide_eq_false_iff_not, beq_iff_eq, beq_eq_false_iff_ne, ne_eq] at hd5
              exact dpxj13_A xd xk _ h
            · rw [if_f hc5] at h
              have hd5 := hc5; try simp only [Bool.and_eq_true, Bool.or_eq_true, Bool.and_eq_false_iff, Bool.or_eq_false_iff, Bool.not_eq_true', Bool.not_eq_false', decide_eq_true_eq, decide_eq_false_iff_not, beq_iff_eq, beq_eq_false_iff_ne, ne_eq] at hd5
              refine ⟨fun hc6 => ?_, fun hc6 => ?_⟩
              · skip
                have hd6 := hc6; try simp only [Bool.and_eq_true, Bool.or_eq_true, Bool.and_eq_false_iff, Bool.or_eq_false_iff, Bool.not_eq_true', Bool.not_eq_false', decide_eq_true_eq, decide_eq_false_iff_not, beq_iff_eq, beq_eq_false_iff_ne, ne_eq] at hd6
                exact dpxj37_A xd xk _ h
              · skip
                have hd6 := hc6; try simp only [Bool.and_eq_true, Bool.or_eq_true, Bool.and_eq_false_iff, Bool.or_eq_false_iff, Bool.not_eq_true', Bool.not_eq_false', decide_eq_true_eq, decide_eq_false_iff_not, beq_iff_eq, beq_eq_false_iff_ne, ne_eq] at hd6
                exact dpxj37_A xd xk _ h
def dpxM (xd : Int × List UInt8) (xk : Int × Int × Int × Int) : Int × Int := (dpxj4M xd xk)
set_option linter.unusedSimpArgs false in
set_option linter.unusedVariables false in
theorem dpxF_A (xd : Int × List UInt8) (xk : Int × Int × Int × Int) (P : Int × Int → Prop) (h : P (dpxM xd xk)) : dpxF xd xk (fun k0 k1 => P (k0, k1)) := by
  unfold dpxM at h
  unfold dpxF
  refine ⟨fun hc0 => ?_, fun hc0 => ?_⟩
  · skip
    exact dpxj4_A xd xk _ h
  · skip
    refine ⟨fun hc1 => ?_, fun hc1 => ?_⟩
    · skip
      exact dpxj4_A xd xk _ h
    · skip
      refine ⟨fun hc2 => ?_, fun hc2 => ?_⟩
      · skip
        exact dpxj4_A xd xk _ h
      · skip
        refine ⟨fun hc3 => ?_, fun hc3 => ?_⟩
        · skip
          exact dpxj4_A xd xk _ h
        · skip
          exact dpxj4_A xd xk _ h
theorem dpx_F (xd : Int × List UInt8) (xk : Int × Int × Int × Int) : dpxF xd xk (fun k0 k1 => (k0, k1) = dpxM xd xk) :=
  dpxF_A xd xk (fun z => z = dpxM xd xk) rfl
set_option linter.unusedVariables false in
theorem dpx_c {g : Ghost} (xd : Int × List UInt8) (xk : Int × Int × Int × Int)  : CallsG Tryd.prog 12 #[.agg #[.int .i64 xd.1, .string ⟨⟨xd.2⟩⟩], .agg #[.int .i64 xk.1, .int .i64 xk.2.1, .int .i64 xk.2.2.1, .int .i64 xk.2.2.2]] g (.tuple #[.int .i64 ((dpxM xd xk).1), .int .i64 ((dpxM xd xk).2)]) :=
  (dpx_ok xd xk _ (dpx_F xd xk)).gives (by rintro g' H' v _ ⟨r0, r1, rfl, rfl, hK⟩; obtain ⟨rfl, rfl⟩ : r0 = (dpxM xd xk).1 ∧ r1 = (dpxM xd xk).2 := ⟨congrArg (fun z => z.1) hK, congrArg (fun z => z.2) hK⟩; rfl)
def wholeV0 (xn : Int) (xby : Int) : Int :=
  (if (decide ((IntKind.wrap .i64 ((IntKind.wrap .i64 (Int.tdiv xn xby)) * xby)) > xn)) = true then IntKind.wrap .i64 ((IntKind.wrap .i64 (Int.tdiv xn xby)) - 1) else IntKind.wrap .i64 (Int.tdiv xn xby))
def wholej5 (xn : Int) (xby : Int) (K : Int → Prop) : Prop :=
  K (wholeV0 xn xby)
def wholeF (xn : Int) (xby : Int) (K : Int → Prop) : Prop :=
  xby ≠ 0 ∧ ((decide ((IntKind.wrap .i64 ((IntKind.wrap .i64 (Int.tdiv xn xby)) * xby)) > xn)) = true → wholej5 xn xby K) ∧ ((decide ((IntKind.wrap .i64 ((IntKind.wrap .i64 (Int.tdiv xn xby)) * xby)) > xn)) = false → wholej5 xn xby K)
set_option maxHeartbeats 4000000 in
set_option maxRecDepth 100000 in
set_option linter.unusedVariables false in
theorem whole_ok {g : Ghost} (xn : Int) (xby : Int) (K : Int → Prop)
    (hF : wholeF xn xby K) : CallsH Tryd.prog 27 #[.int .i64 xn, .int .i64 xby] g [] (fun g' H' v => ∃ (r0 : Int), v = .int .i64 r0 ∧ H' = [] ∧ K r0) := by
  refine CallsH.enter 17 [(0, .int .i64 xn), (1, .int .i64 xby)] Tryd.func27 rfl (by kernel_rfl) (by kernel_rfl) (by kernel_rfl) fun w0 => ?_
  refine Ok.seq ?_
  refine Ok.region ?_
  refine Ok.batch 1 [(0, .int .i64 xn), (1, .int .i64 xby)] (by kernel_rfl) ?_
  refine Ok.nil ?_
  refine Ok.thenN ?_
  refine Ok.seq ?_
  refine Ok.region ?_
  refine Ok.batch 2 [(0, .int .i64 xn), (1, .int .i64 xby), (6, .int .i64 xn), (7, .int .i64 xby)] (by kernel_rfl) ?_
  obtain ⟨hv, hF⟩ := hF
  refine Ok.op rfl (OpOk.step (v := .int .i64 (IntKind.wrap .i64 (Int.tdiv xn xby))) (Yields.quo rfl rfl hv) rfl rfl ?_)
  refine Ok.batch 1 [(0, .int .i64 xn), (1, .int .i64 xby), (5, .int .i64 (IntKind.wrap .i64 (Int.tdiv xn xby)))] (by kernel_rfl) ?_
  refine Ok.nil ?_
  refine Ok.thenN ?_
  refine Ok.cut (fun a W => StA 17 [(5, .int .i64 (wholeV0 xn xby))] a ∧ StW w0 [] g W ∧ wholej5 xn xby K) ?_ ?_
  ·
    refine Ok.seq ?_
    refine Ok.region ?_
    refine Ok.batch 5 [(5, .int .i64 (IntKind.wrap .i64 (Int.tdiv xn xby))), (13, .bool (decide ((IntKind.wrap .i64 ((IntKind.wrap .i64 (Int.tdiv xn xby)) * xby)) > xn)))] (by kernel_rfl) ?_
    refine Ok.nil ?_
    refine Ok.thenN ?_
    refine Ok.cond (b := decide ((IntKind.wrap .i64 ((IntKind.wrap .i64 (Int.tdiv xn xby)) * xby)) > xn)) rfl (fun hc1 => ?_) (fun hc1 => ?_)
    · replace hF := hF.1 hc1
      refine Ok.region ?_
      refine Ok.batch 3 [(5, .int .i64 (IntKind.wrap .i64 ((IntKind.wrap .i64 (Int.tdiv xn xby)) - 1)))] (by kernel_rfl) ?_
      refine Ok.nil ?_
      refine Ok.thenN ?_
      refine Ok.reval 5 rfl (show (.int .i64 (IntKind.wrap .i64 ((IntKind.wrap .i64 (Int.tdiv xn xby)) - 1)) : Value) = .int .i64 (wholeV0 xn xby) from congrArg (Value.int .i64) ((if_t hc1).symm)) ?_
      exact fun a W hA hW => ⟨hA.sub (by kernel_rfl), hW, hF⟩
    · replace hF := hF.2 hc1
      refine Ok.skip ?_
      refine Ok.thenN ?_
      refine Ok.reval 5 rfl (show (.int .i64 (IntKind.wrap .i64 (Int.tdiv xn xby)) : Value) = .int .i64 (wholeV0 xn xby) from congrArg (Value.int .i64) ((if_f hc1).symm)) ?_
      exact fun a W hA hW => ⟨hA.sub (by kernel_rfl), hW, hF⟩
  ·
    clear hF
    rintro a W ⟨hA, hW, hF⟩
    refine (?_ : Ok _ _ _ _ _ _) a W hA hW
    clear hA hW
    refine Ok.seq ?_
    refine Ok.region ?_
    refine Ok.batch 2 [(4, .int .i64 (wholeV0 xn xby))] (by kernel_rfl) ?_
    refine Ok.nil ?_
    refine Ok.thenN ?_
    refine Ok.ret ?_
    exact Ok.resH (vs := [.int .i64 (wholeV0 xn xby)]) (.inl rfl) rfl (.cons (.tmp rfl) .nil) (Gext.refl w0 g) ⟨(wholeV0 xn xby), rfl, rfl, hF⟩
def wholej5M (xn : Int) (xby : Int) : Int := (wholeV0 xn xby)
set_option linter.unusedSimpArgs false in
set_option linter.unusedVariables false in
theorem wholej5_A (xn : Int) (xby : Int) (P : Int → Prop) (h : P (wholej5M xn xby)) : wholej5 xn xby (fun k0 => P k0) := by
  unfold wholej5M at h
  unfold wholej5
  exact h
def wholeM (xn : Int) (xby : Int) : Int := (wholej5M xn xby)
set_option linter.unusedSimpArgs false in
set_option linter.unusedVariables false in
theorem wholeF_A (xn : Int) (xby : Int) (hp : byP xn xby) (P : Int → Prop) (h : P (wholeM xn xby)) : wholeF xn xby (fun k0 => P k0) := by
  unfold wholeM at h
  unfold wholeF
  refine ⟨?_, ?_⟩
  · first | exact hp | omega | assumption | exact trivial | (have h0 := List.length_pos_iff.mpr (by assumption); omega) | (simp; omega) | (simp at *; omega)
  refine ⟨fun hc0 => ?_, fun hc0 => ?_⟩
  · skip
    have hd0 := hc0; try simp only [Bool.and_eq_true, Bool.or_eq_true, Bool.and_eq_false_iff, Bool.or_eq_false_iff, Bool.not_eq_true', Bool.not_eq_false', decide_eq_true_eq, decide_eq_false_iff_not, beq_iff_eq, beq_eq_false_iff_ne, ne_eq] at hd0
    exact wholej5_A xn xby _ h
  · skip
    have hd0 := hc0; try simp only [Bool.and_eq_true, Bool.or_eq_true, Bool.and_eq_false_iff, Bool.or_eq_false_iff, Bool.not_eq_true', Bool.not_eq_false', decide_eq_true_eq, decide_eq_false_iff_not, beq_iff_eq, beq_eq_false_iff_ne, ne_eq] at hd0
    exact wholej5_A xn xby _ h
theorem whole_F (xn : Int) (xby : Int) (hp : byP xn xby) : wholeF xn xby (fun k0 => k0 = wholeM xn xby) :=
  wholeF_A xn xby hp (fun z => z = wholeM xn xby) rfl
set_option linter.unusedVariables false in
theorem whole_c {g : Ghost} (xn : Int) (xby : Int)  (hp : byP xn xby) : CallsG Tryd.prog 27 #[.int .i64 xn, .int .i64 xby] g (.int .i64 (wholeM xn xby)) :=
  (whole_ok xn xby _ (whole_F xn xby hp)).gives (by rintro g' H' v _ ⟨r0, rfl, rfl, hK⟩; subst hK; rfl)
def rcutF (xn : Int) (K : Int → Prop) : Prop :=
  K (if (-16777216) < (if 16777216 < xn then 16777216 else xn) then (if 16777216 < xn then 16777216 else xn) else (-16777216))
set_option maxHeartbeats 4000000 in
set_option maxRecDepth 100000 in
set_option linter.unusedVariables false in
theorem rcut_ok {g : Ghost} (xn : Int) (K : Int → Prop)
    (hF : rcutF xn K) : CallsH Tryd.prog 26 #[.int .i64 xn] g [] (fun g' H' v => ∃ (r0 : Int), v = .int .i64 r0 ∧ H' = [] ∧ K r0) := by
  refine CallsH.enter 6 [(0, .int .i64 xn)] Tryd.func26 rfl (by kernel_rfl) (by kernel_rfl) (by kernel_rfl) fun w0 => ?_
  refine Ok.seq ?_
  refine Ok.region ?_
  refine Ok.batch 1 [(0, .int .i64 xn)] (by kernel_rfl) ?_
  refine Ok.nil ?_
  refine Ok.thenN ?_
  refine Ok.seq ?_
  refine Ok.region ?_
  refine Ok.batch 4 [(2, .int .i64 (if (-16777216) < (if 16777216 < xn then 16777216 else xn) then (if 16777216 < xn then 16777216 else xn) else (-16777216)))] (by kernel_rfl) ?_
  refine Ok.nil ?_
  refine Ok.thenN ?_
  refine Ok.ret ?_
  exact Ok.resH (vs := [.int .i64 (if (-16777216) < (if 16777216 < xn then 16777216 else xn) then (if 16777216 < xn then 16777216 else xn) else (-16777216))]) (.inl rfl) rfl (.cons (.tmp rfl) .nil) (Gext.refl w0 g) ⟨(if (-16777216) < (if 16777216 < xn then 16777216 else xn) then (if 16777216 < xn then 16777216 else xn) else (-16777216)), rfl, rfl, hF⟩
def rcutM (xn : Int) : Int := (if (-16777216) < (if 16777216 < xn then 16777216 else xn) then (if 16777216 < xn then 16777216 else xn) else (-16777216))
set_option linter.unusedSimpArgs false in
set_option linter.unusedVariables false in
theorem rcutF_A (xn : Int) (P : Int → Prop) (h : P (rcutM xn)) : rcutF xn (fun k0 => P k0) := by
  unfold rcutM at h
  unfold rcutF
  exact h
theorem rcut_F (xn : Int) : rcutF xn (fun k0 => k0 = rcutM xn) :=
  rcutF_A xn (fun z => z = rcutM xn) rfl
set_option linter.unusedVariables false in
theorem rcut_c {g : Ghost} (xn : Int)  : CallsG Tryd.prog 26 #[.int .i64 xn] g (.int .i64 (rcutM xn)) :=
  (rcut_ok xn _ (rcut_F xn)).gives (by rintro g' H' v _ ⟨r0, rfl, rfl, hK⟩; subst hK; rfl)
def sfaultV0 (xd : Int × List UInt8) (xk : Int × Int × Int × Int) : Bool :=
  ((decide (xd.1 < (-1000000000))) || ((decide (xd.1 > 1000000000)) || ((decide (xk.1 < 0)) || ((decide (xk.1 > 16777216)) || ((decide (xk.2.1 < 0)) || ((decide (xk.2.1 > 16777216)) || ((decide (xk.2.2.1 < 1)) || ((decide (xk.2.2.1 > 4000)) || ((decide (xk.2.2.2 < 1)) || (decide (xk.2.2.2 > 4000)))))))))))
def sfaultj3 (xd : Int × List UInt8) (xk : Int × Int × Int × Int) (K : Bool → Prop) : Prop :=
  K (sfaultV0 xd xk)
def sfaultF (xd : Int × List UInt8) (xk : Int × Int × Int × Int) (K : Bool → Prop) : Prop :=
  ((decide (xd.1 < (-1000000000))) = true → sfaultj3 xd xk K) ∧ ((decide (xd.1 < (-1000000000))) = false → ((decide (xd.1 > 1000000000)) = true → sfaultj3 xd xk K) ∧ ((decide (xd.1 > 1000000000)) = false → ((decide (xk.1 < 0)) = true → sfaultj3 xd xk K) ∧ ((decide (xk.1 < 0)) = false → ((decide (xk.1 > 16777216)) = true → sfaultj3 xd xk K) ∧ ((decide (xk.1 > 16777216)) = false → ((decide (xk.2.1 < 0)) = true → sfaultj3 xd xk K) ∧ ((decide (xk.2.1 < 0)) = false → ((decide (xk.2.1 > 16777216)) = true → sfaultj3 xd xk K) ∧ ((decide (xk.2.1 > 16777216)) = false → ((decide (xk.2.2.1 < 1)) = true → sfaultj3 xd xk K) ∧ ((decide (xk.2.2.1 < 1)) = false → ((decide (xk.2.2.1 > 4000)) = true → sfaultj3 xd xk K) ∧ ((decide (xk.2.2.1 > 4000)) = false → ((decide (xk.2.2.2 < 1)) = true → sfaultj3 xd xk K) ∧ ((decide (xk.2.2.2 < 1)) = false → sfaultj3 xd xk K)))))))))
set_option maxHeartbeats 4000000 in
set_option maxRecDepth 100000 in
set_option linter.unusedVariables false in
theorem sfault_ok {g : Ghost} (xd : Int × List UInt8) (xk : Int × Int × Int × Int) (K : Bool → Prop)
    (hF : sfaultF xd xk K) : CallsH Tryd.prog 25 #[.agg #[.int .i64 xd.1, .string ⟨⟨xd.2⟩⟩], .agg #[.int .i64 xk.1, .int .i64 xk.2.1, .int .i64 xk.2.2.1, .int .i64 xk.2.2.2]] g [] (fun g' H' v => ∃ (r0 : Bool), v = .bool r0 ∧ H' = [] ∧ K r0) := by
  refine CallsH.enter 53 [(0, .agg #[.int .i64 xd.1, .string ⟨⟨xd.2⟩⟩]), (1, .agg #[.int .i64 xk.1, .int .i64 xk.2.1, .int .i64 xk.2.2.1, .int .i64 xk.2.2.2])] Tryd.func25 rfl (by kernel_rfl) (by kernel_rfl) (by kernel_rfl) fun w0 => ?_
  refine Ok.seq ?_
  refine Ok.region ?_
  refine Ok.op rfl (OpOk.box (v := .agg #[.int .i64 xd.1, .string ⟨⟨xd.2⟩⟩]) (cs := #[.int .i64 xd.1, .string ⟨⟨xd.2⟩⟩]) rfl (by kernel_rfl) rfl fun b1 => ?_)
  refine Ok.op rfl (OpOk.box (v := .agg #[.int .i64 xk.1, .int .i64 xk.2.1, .int .i64 xk.2.2.1, .int .i64 xk.2.2.2]) (cs := #[.int .i64 xk.1, .int .i64 xk.2.1, .int .i64 xk.2.2.1, .int .i64 xk.2.2.2]) rfl (by kernel_rfl) rfl fun b2 => ?_)
  refine Ok.batch 1 [(2, .pointer (some ⟨b1, 0, none⟩)), (3, .pointer (some ⟨b2, 0, none⟩))] (by kernel_rfl) ?_
  refine Ok.nil ?_
  refine Ok.thenN ?_
  refine Ok.cut (fun a W => StA 53 [(4, .bool (sfaultV0 xd xk))] a ∧ StW w0 [] g W ∧ sfaultj3 xd xk K) ?_ ?_
  ·
    refine Ok.region ?_
    refine Ok.batch 1 [(2, .pointer (some ⟨b1, 0, none⟩)), (3, .pointer (some ⟨b2, 0, none⟩)), (5, .pointer (some ⟨b1, 0, none⟩))] (by kernel_rfl) ?_
    refine Ok.op rfl (OpOk.step (v := .int .i64 xd.1) (Yields.load 1 rfl rfl Tryd.underlying3 rfl (by kernel_rfl)) rfl rfl ?_)
    refine Ok.batch 2 [(2, .pointer (some ⟨b1, 0, none⟩)), (3, .pointer (some ⟨b2, 0, none⟩)), (8, .bool (decide (xd.1 < (-1000000000))))] (by kernel_rfl) ?_
    refine Ok.boolAt 8 (decide (xd.1 < (-1000000000))) rfl (fun hc3 => ?_) (fun hc3 => ?_)
    · replace hF := hF.1 hc3
      refine Ok.batch 45 [(4, .bool true)] (by kernel_rfl) ?_
      refine Ok.nil ?_
      refine Ok.thenN ?_
      refine Ok.reval 4 rfl (show (.bool true : Value) = .bool (sfaultV0 xd xk) from congrArg (Value.bool) (mor_t hc3)) ?_
      exact fun a W hA hW => ⟨hA.sub (by kernel_rfl), hW.sub (.cons _ (.cons _ .slnil)), hF⟩
    · replace hF := hF.2 hc3
      refine Ok.batch 1 [(3, .pointer (some ⟨b2, 0, none⟩)), (8, .bool false), (9, .pointer (some ⟨b1, 0, none⟩))] (by kernel_rfl) ?_
      refine Ok.opYes (j := 3) (d := 8) (want := false) (b := false) rfl (by kernel_rfl) (by kernel_rfl) rfl (OpOk.step (v := .int .i64 xd.1) (Yields.load 1 rfl rfl Tryd.underlying3 rfl (by kernel_rfl)) rfl rfl ?_)
      refine Ok.batch 3 [(3, .pointer (some ⟨b2, 0, none⟩)), (13, .bool (decide (xd.1 > 1000000000)))] (by kernel_rfl) ?_
      refine Ok.boolAt 13 (decide (xd.1 > 1000000000)) rfl (fun hc4 => ?_) (fun hc4 => ?_)
      · replace hF := hF.1 hc4
        refine Ok.batch 40 [(4, .bool true)] (by kernel_rfl) ?_
        refine Ok.nil ?_
        refine Ok.thenN ?_
        refine Ok.reval 4 rfl (show (.bool true : Value) = .bool (sfaultV0 xd xk) from congrArg (Value.bool) ((Eq.trans (mor_t hc4) (mor_f hc3)))) ?_
        exact fun a W hA hW => ⟨hA.sub (by kernel_rfl), hW.sub (.cons _ (.cons _ .slnil)), hF⟩
      · replace hF := hF.2 hc4
        refine Ok.batch 1 [(3, .pointer (some ⟨b2, 0, none⟩)), (13, .bool false), (14, .pointer (some ⟨b2, 0, none⟩))] (by kernel_rfl) ?_
        refine Ok.opYes (j := 8) (d := 13) (want := false) (b := false) rfl (by kernel_rfl) (by kernel_rfl) rfl (OpOk.step (v := .int .i64 xk.1) (Yields.load 0 rfl rfl Tryd.underlying3 rfl (by kernel_rfl)) rfl rfl ?_)
        refine Ok.batch 3 [(3, .pointer (some ⟨b2, 0, none⟩)), (18, .bool (decide (xk.1 < 0)))] (by kernel_rfl) ?_
        refine Ok.boolAt 18 (decide (xk.1 < 0)) rfl (fun hc5 => ?_) (fun hc5 => ?_)
        · replace hF := hF.1 hc5
          refine Ok.batch 35 [(4, .bool true)] (by kernel_rfl) ?_
          refine Ok.nil ?_
          refine Ok.thenN ?_
          refine Ok.reval 4 rfl (show (.bool true : Value) = .bool (sfaultV0 xd xk) from congrArg (Value.bool) ((Eq.trans ((Eq.trans (mor_t hc5) (mor_f hc4))) (mor_f hc3)))) ?_
          exact fun a W hA hW => ⟨hA.sub (by kernel_rfl), hW.sub (.cons _ (.cons _ .slnil)), hF⟩
        · replace hF := hF.2 hc5
          refine Ok.batch 1 [(3, .pointer (some ⟨b2, 0, none⟩)), (18, .bool false), (19, .pointer (some ⟨b2, 0, none⟩))] (by kernel_rfl) ?_
          refine Ok.opYes (j := 13) (d := 18) (want := false) (b := false) rfl (by kernel_rfl) (by kernel_rfl) rfl (OpOk.step (v := .int .i64 xk.1) (Yields.load 0 rfl rfl Tryd.underlying3 rfl (by kernel_rfl)) rfl rfl ?_)
          refine Ok.batch 3 [(3, .pointer (some ⟨b2, 0, none⟩)), (23, .bool (decide (xk.1 > 16777216)))] (by kernel_rfl) ?_
          refine Ok.boolAt 23 (decide (xk.1 > 16777216)) rfl (fun hc6 => ?_) (fun hc6 => ?_)
          · replace hF := hF.1 hc6
            refine Ok.batch 30 [(4, .bool true)] (by kernel_rfl) ?_
            refine Ok.nil ?_
            refine Ok.thenN ?_
            refine Ok.reval 4 rfl (show (.bool true : Value) = .bool (sfaultV0 xd xk) from congrArg (Value.bool) ((Eq.trans ((Eq.trans ((Eq.trans (mor_t hc6) (mor_f hc5))) (mor_f hc4))) (mor_f hc3)))) ?_
            exact fun a W hA hW => ⟨hA.sub (by kernel_rfl), hW.sub (.cons _ (.cons _ .slnil)), hF⟩
          · replace hF := hF.2 hc6
            refine Ok.batch 1 [(3, .pointer (some ⟨b2, 0, none⟩)), (23, .bool false), (24, .pointer (some ⟨b2, 1, none⟩))] (by kernel_rfl) ?_
            refine Ok.opYes (j := 18) (d := 23) (want := false) (b := false) rfl (by kernel_rfl) (by kernel_rfl) rfl (OpOk.step (v := .int .i64 xk.2.1) (Yields.load 0 rfl rfl Tryd.underlying3 rfl (by kernel_rfl)) rfl rfl ?_)
            refine Ok.batch 3 [(3, .pointer (some ⟨b2, 0, none⟩)), (28, .bool (decide (xk.2.1 < 0)))] (by kernel_rfl) ?_
            refine Ok.boolAt 28 (decide (xk.2.1 < 0)) rfl (fun hc7 => ?_) (fun hc7 => ?_)
            · replace hF := hF.1 hc7
              refine Ok.batch 25 [(4, .bool true)] (by kernel_rfl) ?_
              refine Ok.nil ?_
              refine Ok.thenN ?_
              refine Ok.reval 4 rfl (show (.bool true : Value) = .bool (sfaultV0 xd xk) from congrArg (Value.bool) ((Eq.trans ((Eq.trans ((Eq.trans ((Eq.trans (mor_t hc7) (mor_f hc6))) (mor_f hc5))) (mor_f hc4))) (mor_f hc3)))) ?_
              exact fun a W hA hW => ⟨hA.sub (by kernel_rfl), hW.sub (.cons _ (.cons _ .slnil)), hF⟩
            · replace hF := hF.2 hc7
              refine Ok.batch 1 [(3, .pointer (some ⟨b2, 0, none⟩)), (28, .bool false), (29, .pointer (some ⟨b2, 1, none⟩))] (by kernel_rfl) ?_
              refine Ok.opYes (j := 23) (d := 28) (want := false) (b := false) rfl (by kernel_rfl) (by kernel_rfl) rfl (OpOk.step (v := .int .i64 xk.2.1) (Yields.load 0 rfl rfl Tryd.underlying3 rfl (by kernel_rfl)) rfl rfl ?_)
              refine Ok.batch 3 [(3, .pointer (some ⟨b2, 0, none⟩)), (33, .bool (decide (xk.2.1 > 16777216)))] (by kernel_rfl) ?_
              refine Ok.boolAt 33 (decide (xk.2.1 > 16777216)) rfl (fun hc8 => ?_) (fun hc8 => ?_)
              · replace hF := hF.1 hc8
                refine Ok.batch 20 [(4, .bool true)] (by kernel_rfl) ?_
                refine Ok.nil ?_
                refine Ok.thenN ?_
                refine Ok.reval 4 rfl (show (.bool true : Value) = .bool (sfaultV0 xd xk) from congrArg (Value.bool) ((Eq.trans ((Eq.trans ((Eq.trans ((Eq.trans ((Eq.trans (mor_t hc8) (mor_f hc7))) (mor_f hc6))) (mor_f hc5))) (mor_f hc4))) (mor_f hc3)))) ?_
                exact fun a W hA hW => ⟨hA.sub (by kernel_rfl), hW.sub (.cons _ (.cons _ .slnil)), hF⟩
              · replace hF := hF.2 hc8
                refine Ok.batch 1 [(3, .pointer (some ⟨b2, 0, none⟩)), (33, .bool false), (34, .pointer (some ⟨b2, 2, none⟩))] (by kernel_rfl) ?_
                refine Ok.opYes (j := 28) (d := 33) (want := false) (b := false) rfl (by kernel_rfl) (by kernel_rfl) rfl (OpOk.step (v := .int .i64 xk.2.2.1) (Yields.load 0 rfl rfl Tryd.underlying3 rfl (by kernel_rfl)) rfl rfl ?_)
                refine Ok.batch 3 [(3, .pointer (some ⟨b2, 0, none⟩)), (38, .bool (decide (xk.2.2.1 < 1)))] (by kernel_rfl) ?_
                refine Ok.boolAt 38 (decide (xk.2.2.1 < 1)) rfl (fun hc9 => ?_) (fun hc9 => ?_)
                · replace hF := hF.1 hc9
                  refine Ok.batch 15 [(4, .bool true)] (by kernel_rfl) ?_
                  refine Ok.nil ?_
                  refine Ok.thenN ?_
                  refine Ok.reval 4 rfl (show (.bool true : Value) = .bool (sfaultV0 xd xk) from congrArg (Value.bool) ((Eq.trans ((Eq.trans ((Eq.trans ((Eq.trans ((Eq.trans ((Eq.trans (mor_t hc9) (mor_f hc8))) (mor_f hc7))) (mor_f hc6))) (mor_f hc5))) (mor_f hc4))) (mor_f hc3)))) ?_
                  exact fun a W hA hW => ⟨hA.sub (by kernel_rfl), hW.sub (.cons _ (.cons _ .slnil)), hF⟩
                · replace hF := hF.2 hc9
                  refine Ok.batch 1 [(3, .pointer (some ⟨b2, 0, none⟩)), (38, .bool false), (39, .pointer (some ⟨b2, 2, none⟩))] (by kernel_rfl) ?_
                  refine Ok.opYes (j := 33) (d := 38) (want := false) (b := false) rfl (by kernel_rfl) (by kernel_rfl) rfl (OpOk.step (v := .int .i64 xk.2.2.1) (Yields.load 0 rfl rfl Tryd.underlying3 rfl (by kernel_rfl)) rfl rfl ?_)
                  refine Ok.batch 3 [(3, .pointer (some ⟨b2, 0, none⟩)), (43, .bool (decide (xk.2.2.1 > 4000)))] (by kernel_rfl) ?_
                  refine Ok.boolAt 43 (decide (xk.2.2.1 > 4000)) rfl (fun hc10 => ?_) (fun hc10 => ?_)
                  · replace hF := hF.1 hc10
                    refine Ok.batch 10 [(4, .bool true)] (by kernel_rfl) ?_
                    refine Ok.nil ?_
                    refine Ok.thenN ?_
                    refine Ok.reval 4 rfl (show (.bool true : Value) = .bool (sfaultV0 xd xk) from congrArg (Value.bool) ((Eq.trans ((Eq.trans ((Eq.trans ((Eq.trans ((Eq.trans ((Eq.trans ((Eq.trans (mor_t hc10) (mor_f hc9))) (mor_f hc8))) (mor_f hc7))) (mor_f hc6))) (mor_f hc5))) (mor_f hc4))) (mor_f hc3)))) ?_
                    exact fun a W hA hW => ⟨hA.sub (by kernel_rfl), hW.sub (.cons _ (.cons _ .slnil)), hF⟩
                  · replace hF := hF.2 hc10
                    refine Ok.batch 1 [(3, .pointer (some ⟨b2, 0, none⟩)), (43, .bool false), (44, .pointer (some ⟨b2, 3, none⟩))] (by kernel_rfl) ?_
                    refine Ok.opYes (j := 38) (d := 43) (want := false) (b := false) rfl (by kernel_rfl) (by kernel_rfl) rfl (OpOk.step (v := .int .i64 xk.2.2.2) (Yields.load 0 rfl rfl Tryd.underlying3 rfl (by kernel_rfl)) rfl rfl ?_)
                    refine Ok.batch 3 [(3, .pointer (some ⟨b2, 0, none⟩)), (48, .bool (decide (xk.2.2.2 < 1)))] (by kernel_rfl) ?_
                    refine Ok.boolAt 48 (decide (xk.2.2.2 < 1)) rfl (fun hc11 => ?_) (fun hc11 => ?_)
                    · replace hF := hF.1 hc11
                      refine Ok.batch 5 [(4, .bool true)] (by kernel_rfl) ?_
                      refine Ok.nil ?_
                      refine Ok.thenN ?_
                      refine Ok.reval 4 rfl (show (.bool true : Value) = .bool (sfaultV0 xd xk) from congrArg (Value.bool) ((Eq.trans ((Eq.trans ((Eq.trans ((Eq.trans ((Eq.trans ((Eq.trans ((Eq.trans ((Eq.trans (mor_t hc11) (mor_f hc10))) (mor_f hc9))) (mor_f hc8))) (mor_f hc7))) (mor_f hc6))) (mor_f hc5))) (mor_f hc4))) (mor_f hc3)))) ?_
                      exact fun a W hA hW => ⟨hA.sub (by kernel_rfl), hW.sub (.cons _ (.cons _ .slnil)), hF⟩
                    · replace hF := hF.2 hc11
                      refine Ok.batch 1 [(48, .bool false), (49, .pointer (some ⟨b2, 3, none⟩))] (by kernel_rfl) ?_
                      refine Ok.opYes (j := 43) (d := 48) (want := false) (b := false) rfl (by kernel_rfl) (by kernel_rfl) rfl (OpOk.step (v := .int .i64 xk.2.2.2) (Yields.load 0 rfl rfl Tryd.underlying3 rfl (by kernel_rfl)) rfl rfl ?_)
                      refine Ok.batch 3 [(4, .bool (decide (xk.2.2.2 > 4000)))] (by kernel_rfl) ?_
                      refine Ok.nil ?_
                      refine Ok.thenN ?_
                      refine Ok.reval 4 rfl (show (.bool (decide (xk.2.2.2 > 4000)) : Value) = .bool (sfaultV0 xd xk) from congrArg (Value.bool) ((Eq.trans ((Eq.trans ((Eq.trans ((Eq.trans ((Eq.trans ((Eq.trans ((Eq.trans ((Eq.trans (mor_f hc11) (mor_f hc10))) (mor_f hc9))) (mor_f hc8))) (mor_f hc7))) (mor_f hc6))) (mor_f hc5))) (mor_f hc4))) (mor_f hc3)))) ?_
                      exact fun a W hA hW => ⟨hA.sub (by kernel_rfl), hW.sub (.cons _ (.cons _ .slnil)), hF⟩
  ·
    clear hF
    rintro a W ⟨hA, hW, hF⟩
    refine (?_ : Ok _ _ _ _ _ _) a W hA hW
    clear hA hW
    refine Ok.ret ?_
    exact Ok.resH (vs := [.bool (sfaultV0 xd xk)]) (.inl rfl) rfl (.cons (.tmp rfl) .nil) (Gext.refl w0 g) ⟨(sfaultV0 xd xk), rfl, rfl, hF⟩
def sfaultj3M (xd : Int × List UInt8) (xk : Int × Int × Int × Int) : Bool := (sfaultV0 xd xk)
set_option linter.unusedSimpArgs false in
set_option linter.unusedVariables false in
theorem sfaultj3_A (xd : Int × List UInt8) (xk : Int × Int × Int × Int) (P : Bool → Prop) (h : P (sfaultj3M xd xk)) : sfaultj3 xd xk (fun k0 => P k0) := by
  unfold sfaultj3M at h
  unfold sfaultj3
  exact h
def sfaultM (xd : Int × List UInt8) (xk : Int × Int × Int × Int) : Bool := (sfaultj3M xd xk)
set_option linter.unusedSimpArgs false in
set_option linter.unusedVariables false in
theorem sfaultF_A (xd : Int × List UInt8) (xk : Int × Int × Int × Int) (P : Bool → Prop) (h : P (sfaultM xd xk)) : sfaultF xd xk (fun k0 => P k0) := by
  unfold sfaultM at h
  unfold sfaultF
  refine ⟨fun hc0 => ?_, fun hc0 => ?_⟩
  · skip
    have hd0 := of_decide_eq_true hc0
    exact sfaultj3_A xd xk _ h
  · skip
    have hd0 := of_decide_eq_false hc0
    refine ⟨fun hc1 => ?_, fun hc1 => ?_⟩
    · skip
      have hd1 := of_decide_eq_true hc1
      exact sfaultj3_A xd xk _ h
    · skip
      have hd1 := of_decide_eq_false hc1
      refine ⟨fun hc2 => ?_, fun hc2 => ?_⟩
      · skip
        have hd2 := of_decide_eq_true hc2
        exact sfaultj3_A xd xk _ h
      · skip
        have hd2 := of_decide_eq_false hc2
        refine ⟨fun hc3 => ?_, fun hc3 => ?_⟩
        · skip
          have hd3 := of_decide_eq_true hc3
          exact sfaultj3_A xd xk _ h
        · skip
          have hd3 := of_decide_eq_false hc3
          refine ⟨fun hc4 => ?_, fun hc4 => ?_⟩
          · skip
            have hd4 := of_decide_eq_true hc4
            exact sfaultj3_A xd xk _ h
          · skip
            have hd4 := of_decide_eq_false hc4
            refine ⟨fun hc5 => ?_, fun hc5 => ?_⟩
            · skip
              have hd5 := of_decide_eq_true hc5
              exact sfaultj3_A xd xk _ h
            · skip
              have hd5 := of_decide_eq_false hc5
              refine ⟨fun hc6 => ?_, fun hc6 => ?_⟩
              · skip
                have hd6 := of_decide_eq_true hc6
                exact sfaultj3_A xd xk _ h
              · skip
                have hd6 := of_decide_eq_false hc6
                refine ⟨fun hc7 => ?_, fun hc7 => ?_⟩
                · skip
                  have hd7 := of_decide_eq_true hc7
                  exact sfaultj3_A xd xk _ h
                · skip
                  have hd7 := of_decide_eq_false hc7
                  refine ⟨fun hc8 => ?_, fun hc8 => ?_⟩
                  · skip
                    have hd8 := of_decide_eq_true hc8
                    exact sfaultj3_A xd xk _ h
                  · skip
                    have hd8 := of_decide_eq_false hc8
                    exact sfaultj3_A xd xk _ h
theorem sfault_F (xd : Int × List UInt8) (xk : Int × Int × Int × Int) : sfaultF xd xk (fun k0 => k0 = sfaultM xd xk) :=
  sfaultF_A xd xk (fun z => z = sfaultM xd xk) rfl
set_option linter.unusedVariables false in
theorem sfault_c {g : Ghost} (xd : Int × List UInt8) (xk : Int × Int × Int × Int)  : CallsG Tryd.prog 25 #[.agg #[.int .i64 xd.1, .string ⟨⟨xd.2⟩⟩], .agg #[.int .i64 xk.1, .int .i64 xk.2.1, .int .i64 xk.2.2.1, .int .i64 xk.2.2.2]] g (.bool (sfaultM xd xk)) :=
  (sfault_ok xd xk _ (sfault_F xd xk)).gives (by rintro g' H' v _ ⟨r0, rfl, rfl, hK⟩; subst hK; rfl)
def rpxj52 (xd : Int × List UInt8) (K : Int → Int → Prop) : Prop :=
  ((((xd.2 == ([] : List UInt8)) && (xd.1 == 0))) = true → K 0 0) ∧ ((((xd.2 == ([] : List UInt8)) && (xd.1 == 0))) = false → K 0 7)
def rpxF (xd : Int × List UInt8) (xk : Int × Int × Int × Int) (K : Int → Int → Prop) : Prop :=
  (((sfaultM xd xk)) = true → K 0 1) ∧ (((sfaultM xd xk)) = false → (((xd.2 == ([112, 120] : List UInt8))) = true → byP (IntKind.wrap .i64 (xd.1 * 64)) 1000 ∧ K (rcutM (wholeM (IntKind.wrap .i64 (xd.1 * 64)) 1000)) 0) ∧ (((xd.2 == ([112, 120] : List UInt8))) = false → (((xd.2 == ([101, 109] : List UInt8))) = true → byP (IntKind.wrap .i64 (xd.1 * xk.1)) 1000 ∧ K (rcutM (wholeM (IntKind.wrap .i64 (xd.1 * xk.1)) 1000)) 0) ∧ (((xd.2 == ([101, 109] : List UInt8))) = false → (((xd.2 == ([114, 101, 109] : List UInt8))) = true → byP (IntKind.wrap .i64 (xd.1 * xk.2.1)) 1000 ∧ K (rcutM (wholeM (IntKind.wrap .i64 (xd.1 * xk.2.1)) 1000)) 0) ∧ (((xd.2 == ([114, 101, 109] : List UInt8))) = false → (((xd.2 == ([118, 119] : List UInt8))) = true → byP (IntKind.wrap .i64 ((IntKind.wrap .i64 (xd.1 * 64)) * xk.2.2.1)) 100000 ∧ K (rcutM (wholeM (IntKind.wrap .i64 ((IntKind.wrap .i64 (xd.1 * 64)) * xk.2.2.1)) 100000)) 0) ∧ (((xd.2 == ([118, 119] : List UInt8))) = false → (((xd.2 == ([118, 104] : List UInt8))) = true → byP (IntKind.wrap .i64 ((IntKind.wrap .i64 (xd.1 * 64)) * xk.2.2.2)) 100000 ∧ K (rcutM (wholeM (IntKind.wrap .i64 ((IntKind.wrap .i64 (xd.1 * 64)) * xk.2.2.2)) 100000)) 0) ∧ (((xd.2 == ([118, 104] : List UInt8))) = false → (((xd.2 == ([] : List UInt8))) = true → rpxj52 xd K) ∧ (((xd.2 == ([] : List UInt8))) = false → rpxj52 xd K)))))))
set_option maxHeartbeats 4000000 in
set_option maxRecDepth 100000 in
set_option linter.unusedVariables false in
theorem rpx_ok {g : Ghost} (xd : Int × List UInt8) (xk : Int × Int × Int × Int) (K : Int → Int → Prop)
    (hF : rpxF xd xk K) : CallsH Tryd.prog 13 #[.agg #[.int .i64 xd.1, .string ⟨⟨xd.2⟩⟩], .agg #[.int .i64 xk.1, .int .i64 xk.2.1, .int .i64 xk.2.2.1, .int .i64 xk.2.2.2]] g [] (fun g' H' v => ∃ (r0 : Int), ∃ (r1 : Int), v = .tuple #[.int .i64 r0, .int .i64 r1] ∧ H' = [] ∧ K r0 r1) := by
  refine CallsH.enter 67 [(0, .agg #[.int .i64 xd.1, .string ⟨⟨xd.2⟩⟩]), (1, .agg #[.int .i64 xk.1, .int .i64 xk.2.1, .int .i64 xk.2.2.1, .int .i64 xk.2.2.2])] Tryd.func13 rfl (by kernel_rfl) (by kernel_rfl) (by kernel_rfl) fun w0 => ?_
  refine Ok.seq ?_
  refine Ok.region ?_
  refine Ok.op rfl (OpOk.box (v := .agg #[.int .i64 xd.1, .string ⟨⟨xd.2⟩⟩]) (cs := #[.int .i64 xd.1, .string ⟨⟨xd.2⟩⟩]) rfl (by kernel_rfl) rfl fun b1 => ?_)
  refine Ok.op rfl (OpOk.box (v := .agg #[.int .i64 xk.1, .int .i64 xk.2.1, .int .i64 xk.2.2.1, .int .i64 xk.2.2.2]) (cs := #[.int .i64 xk.1, .int .i64 xk.2.1, .int .i64 xk.2.2.1, .int .i64 xk.2.2.2]) rfl (by kernel_rfl) rfl fun b2 => ?_)
  refine Ok.batch 2 [(2, .pointer (some ⟨b1, 0, none⟩)), (3, .pointer (some ⟨b2, 0, none⟩))] (by kernel_rfl) ?_
  refine Ok.nil ?_
  refine Ok.thenN ?_
  refine Ok.seq ?_
  refine Ok.seq ?_
  refine Ok.region ?_
  refine Ok.op rfl (OpOk.step (v := .agg #[.int .i64 xd.1, .string ⟨⟨xd.2⟩⟩]) (Yields.loadAgg 1 2 #[.int .i64 xd.1, .string ⟨⟨xd.2⟩⟩] rfl rfl Tryd.underlying24 rfl (by kernel_rfl) (by kernel_rfl) (by kernel_rfl)) rfl rfl ?_)
  refine Ok.op rfl (OpOk.step (v := .agg #[.int .i64 xk.1, .int .i64 xk.2.1, .int .i64 xk.2.2.1, .int .i64 xk.2.2.2]) (Yields.loadAgg 0 4 #[.int .i64 xk.1, .int .i64 xk.2.1, .int .i64 xk.2.2.1, .int .i64 xk.2.2.2] rfl rfl Tryd.underlying35 rfl (by kernel_rfl) (by kernel_rfl) (by kernel_rfl)) rfl rfl ?_)
  refine Ok.op rfl (OpOk.callG (v := .bool (sfaultM xd xk)) (enters (by kernel_rfl) (fun _ => by kernel_rfl)) (fun W hW => sfault_c xd xk) rfl ?_)
  refine Ok.nil ?_
  refine Ok.thenN ?_
  refine Ok.cond (b := (sfaultM xd xk)) rfl (fun hc3 => ?_) (fun hc3 => ?_)
  · replace hF := hF.1 hc3
    refine Ok.seq ?_
    refine Ok.region ?_
    refine Ok.batch 2 [(4, .int .i64 0), (5, .int .i64 1)] (by kernel_rfl) ?_
    refine Ok.nil ?_
    refine Ok.thenN ?_
    refine Ok.ret ?_
    refine Ok.thenR ?_
    exact Ok.resP (vs := [.int .i64 0, .int .i64 1]) [] [] (by decide) rfl (.inl rfl) rfl (.cons (.tmp rfl) (.cons (.tmp rfl) .nil)) (Gext.refl w0 g) ⟨0, 1, rfl, rfl, hF⟩
  · replace hF := hF.2 hc3
    refine Ok.skip ?_
    refine Ok.thenN ?_
    refine Ok.seq ?_
    refine Ok.seq ?_
    refine Ok.region ?_
    refine Ok.batch 1 [(2, .pointer (some ⟨b1, 0, none⟩)), (3, .pointer (some ⟨b2, 0, none⟩)), (9, .pointer (some ⟨b1, 1, none⟩))] (by kernel_rfl) ?_
    refine Ok.op rfl (OpOk.step (v := .string ⟨⟨xd.2⟩⟩) (Yields.load 1 rfl rfl Tryd.underlying9 rfl (by kernel_rfl)) rfl rfl ?_)
    refine Ok.op rfl (OpOk.step (v := .bool (xd.2 == ([112, 120] : List UInt8))) (Yields.strCmp (f := .eql) (a := xd.2) (b := ([112, 120] : List UInt8)) (by kernel_rfl) (by kernel_rfl) rfl) rfl rfl ?_)
    refine Ok.nil ?_
    refine Ok.thenN ?_
    refine Ok.cond (b := (xd.2 == ([112, 120] : List UInt8))) rfl (fun hc4 => ?_) (fun hc4 => ?_)
    · replace hF := hF.1 hc4
      refine Ok.seq ?_
      refine Ok.region ?_
      refine Ok.batch 1 [(12, .pointer (some ⟨b1, 0, none⟩))] (by kernel_rfl) ?_
      refine Ok.op rfl (OpOk.step (v := .int .i64 xd.1) (Yields.load 1 rfl rfl Tryd.underlying3 rfl (by kernel_rfl)) rfl rfl ?_)
      refine Ok.batch 1 [(14, .int .i64 (IntKind.wrap .i64 (xd.1 * 64)))] (by kernel_rfl) ?_
      obtain ⟨hp5, hF⟩ := hF
      refine Ok.op rfl (OpOk.callG (v := .int .i64 (wholeM (IntKind.wrap .i64 (xd.1 * 64)) 1000)) (enters (by kernel_rfl) (fun _ => by kernel_rfl)) (fun W hW => whole_c (IntKind.wrap .i64 (xd.1 * 64)) 1000 hp5) rfl ?_)
      refine Ok.op rfl (OpOk.callG (v := .int .i64 (rcutM (wholeM (IntKind.wrap .i64 (xd.1 * 64)) 1000))) (enters (by kernel_rfl) (fun _ => by kernel_rfl)) (fun W hW => rcut_c (wholeM (IntKind.wrap .i64 (xd.1 * 64)) 1000)) rfl ?_)
      refine Ok.batch 2 [(4, .int .i64 (rcutM (wholeM (IntKind.wrap .i64 (xd.1 * 64)) 1000))), (5, .int .i64 0)] (by kernel_rfl) ?_
      refine Ok.nil ?_
      refine Ok.thenN ?_
      refine Ok.ret ?_
      refine Ok.thenR ?_
      exact Ok.resP (vs := [.int .i64 (rcutM (wholeM (IntKind.wrap .i64 (xd.1 * 64)) 1000)), .int .i64 0]) [] [] (by decide) rfl (.inl rfl) rfl (.cons (.tmp rfl) (.cons (.tmp rfl) .nil)) (Gext.refl w0 g) ⟨(rcutM (wholeM (IntKind.wrap .i64 (xd.1 * 64)) 1000)), 0, rfl, rfl, hF⟩
    · replace hF := hF.2 hc4
      refine Ok.skip ?_
      refine Ok.thenN ?_
      refine Ok.seq ?_
      refine Ok.seq ?_
      refine Ok.region ?_
      refine Ok.batch 1 [(2, .pointer (some ⟨b1, 0, none⟩)), (3, .pointer (some ⟨b2, 0, none⟩)), (17, .pointer (some ⟨b1, 1, none⟩))] (by kernel_rfl) ?_
      refine Ok.op rfl (OpOk.step (v := .string ⟨⟨xd.2⟩⟩) (Yields.load 1 rfl rfl Tryd.underlying9 rfl (by kernel_rfl)) rfl rfl ?_)
      refine Ok.op rfl (OpOk.step (v := .bool (xd.2 == ([101, 109] : List UInt8))) (Yields.strCmp (f := .eql) (a := xd.2) (b := ([101, 109] : List UInt8)) (by kernel_rfl) (by kernel_rfl) rfl) rfl rfl ?_)
      refine Ok.nil ?_
      refine Ok.thenN ?_
      refine Ok.cond (b := (xd.2 == ([101, 109] : List UInt8))) rfl (fun hc6 => ?_) (fun hc6 => ?_)
      · replace hF := hF.1 hc6
        refine Ok.seq ?_
        refine Ok.region ?_
        refine Ok.batch 1 [(3, .pointer (some ⟨b2, 0, none⟩)), (20, .pointer (some ⟨b1, 0, none⟩))] (by kernel_rfl) ?_
        refine Ok.op rfl (OpOk.step (v := .int .i64 xd.1) (Yields.load 1 rfl rfl Tryd.underlying3 rfl (by kernel_rfl)) rfl rfl ?_)
        refine Ok.batch 1 [(21, .int .i64 xd.1), (22, .pointer (some ⟨b2, 0, none⟩))] (by kernel_rfl) ?_
        refine Ok.op rfl (OpOk.step (v := .int .i64 xk.1) (Yields.load 0 rfl rfl Tryd.underlying3 rfl (by kernel_rfl)) rfl rfl ?_)
        refine Ok.batch 1 [(24, .int .i64 (IntKind.wrap .i64 (xd.1 * xk.1)))] (by kernel_rfl) ?_
        obtain ⟨hp7, hF⟩ := hF
        refine Ok.op rfl (OpOk.callG (v := .int .i64 (wholeM (IntKind.wrap .i64 (xd.1 * xk.1)) 1000)) (enters (by kernel_rfl) (fun _ => by kernel_rfl)) (fun W hW => whole_c (IntKind.wrap .i64 (xd.1 * xk.1)) 1000 hp7) rfl ?_)
        refine Ok.op rfl (OpOk.callG (v := .int .i64 (rcutM (wholeM (IntKind.wrap .i64 (xd.1 * xk.1)) 1000))) (enters (by kernel_rfl) (fun _ => by kernel_rfl)) (fun W hW => rcut_c (wholeM (IntKind.wrap .i64 (xd.1 * xk.1)) 1000)) rfl ?_)
        refine Ok.batch 2 [(4, .int .i64 (rcutM (wholeM (IntKind.wrap .i64 (xd.1 * xk.1)) 1000))), (5, .int .i64 0)] (by kernel_rfl) ?_
        refine Ok.nil ?_
        refine Ok.thenN ?_
        refine Ok.ret ?_
        refine Ok.thenR ?_
        exact Ok.resP (vs := [.int .i64 (rcutM (wholeM (IntKind.wrap .i64 (xd.1 * xk.1)) 1000)), .int .i64 0]) [] [] (by decide) rfl (.inl rfl) rfl (.cons (.tmp rfl) (.cons (.tmp rfl) .nil)) (Gext.refl w0 g) ⟨(rcutM (wholeM (IntKind.wrap .i64 (xd.1 * xk.1)) 1000)), 0, rfl, rfl, hF⟩
      · replace hF := hF.2 hc6
        refine Ok.skip ?_
        refine Ok.thenN ?_
        refine Ok.seq ?_
        refine Ok.seq ?_
        refine Ok.region ?_
        refine Ok.batch 1 [(2, .pointer (some ⟨b1, 0, none⟩)), (3, .pointer (some ⟨b2, 0, none⟩)), (27, .pointer (some ⟨b1, 1, none⟩))] (by kernel_rfl) ?_
        refine Ok.op rfl (OpOk.step (v := .string ⟨⟨xd.2⟩⟩) (Yields.load 1 rfl rfl Tryd.underlying9 rfl (by kernel_rfl)) rfl rfl ?_)
        refine Ok.op rfl (OpOk.step (v := .bool (xd.2 == ([114, 101, 109] : List UInt8))) (Yields.strCmp (f := .eql) (a := xd.2) (b := ([114, 101, 109] : List UInt8)) (by kernel_rfl) (by kernel_rfl) rfl) rfl rfl ?_)
        refine Ok.nil ?_
        refine Ok.thenN ?_
        refine Ok.cond (b := (xd.2 == ([114, 101, 109] : List UInt8))) rfl (fun hc8 => ?_) (fun hc8 => ?_)
        · replace hF := hF.1 hc8
          refine Ok.seq ?_
          refine Ok.region ?_
          refine Ok.batch 1 [(3, .pointer (some ⟨b2, 0, none⟩)), (30, .pointer (some ⟨b1, 0, none⟩))] (by kernel_rfl) ?_
          refine Ok.op rfl (OpOk.step (v := .int .i64 xd.1) (Yields.load 1 rfl rfl Tryd.underlying3 rfl (by kernel_rfl)) rfl rfl ?_)
          refine Ok.batch 1 [(31, .int .i64 xd.1), (32, .pointer (some ⟨b2, 1, none⟩))] (by kernel_rfl) ?_
          refine Ok.op rfl (OpOk.step (v := .int .i64 xk.2.1) (Yields.load 0 rfl rfl Tryd.underlying3 rfl (by kernel_rfl)) rfl rfl ?_)
          refine Ok.batch 1 [(34, .int .i64 (IntKind.wrap .i64 (xd.1 * xk.2.1)))] (by kernel_rfl) ?_
          obtain ⟨hp9, hF⟩ := hF
          refine Ok.op rfl (OpOk.callG (v := .int .i64 (wholeM (IntKind.wrap .i64 (xd.1 * xk.2.1)) 1000)) (enters (by kernel_rfl) (fun _ => by kernel_rfl)) (fun W hW => whole_c (IntKind.wrap .i64 (xd.1 * xk.2.1)) 1000 hp9) rfl ?_)
          refine Ok.op rfl (OpOk.callG (v := .int .i64 (rcutM (wholeM (IntKind.wrap .i64 (xd.1 * xk.2.1)) 1000))) (enters (by kernel_rfl) (fun _ => by kernel_rfl)) (fun W hW => rcut_c (wholeM (IntKind.wrap .i64 (xd.1 * xk.2.1)) 1000)) rfl ?_)
          refine Ok.batch 2 [(4, .int .i64 (rcutM (wholeM (IntKind.wrap .i64 (xd.1 * xk.2.1)) 1000))), (5, .int .i64 0)] (by kernel_rfl) ?_
          refine Ok.nil ?_
          refine Ok.thenN ?_
          refine Ok.ret ?_
          refine Ok.thenR ?_
          exact Ok.resP (vs := [.int .i64 (rcutM (wholeM (IntKind.wrap .i64 (xd.1 * xk.2.1)) 1000)), .int .i64 0]) [] [] (by decide) rfl (.inl rfl) rfl (.cons (.tmp rfl) (.cons (.tmp rfl) .nil)) (Gext.refl w0 g) ⟨(rcutM (wholeM (IntKind.wrap .i64 (xd.1 * xk.2.1)) 1000)), 0, rfl, rfl, hF⟩
        · replace hF := hF.2 hc8
          refine Ok.skip ?_
          refine Ok.thenN ?_
          refine Ok.seq ?_
          refine Ok.seq ?_
          refine Ok.region ?_
          refine Ok.batch 1 [(2, .pointer (some ⟨b1, 0, none⟩)), (3, .pointer (some ⟨b2, 0, none⟩)), (37, .pointer (some ⟨b1, 1, none⟩))] (by kernel_rfl) ?_
          refine Ok.op rfl (OpOk.step (v := .string ⟨⟨xd.2⟩⟩) (Yields.load 1 rfl rfl Tryd.underlying9 rfl (by kernel_rfl)) rfl rfl ?_)
          refine Ok.op rfl (OpOk.step (v := .bool (xd.2 == ([118, 119] : List UInt8))) (Yields.strCmp (f := .eql) (a := xd.2) (b := ([118, 119] : List UInt8)) (by kernel_rfl) (by kernel_rfl) rfl) rfl rfl ?_)
          refine Ok.nil ?_
          refine Ok.thenN ?_
          refine Ok.cond (b := (xd.2 == ([118, 119] : List UInt8))) rfl (fun hc10 => ?_) (fun hc10 => ?_)
          · replace hF := hF.1 hc10
            refine Ok.seq ?_
            refine Ok.region ?_
            refine Ok.batch 1 [(3, .pointer (some ⟨b2, 0, none⟩)), (40, .pointer (some ⟨b1, 0, none⟩))] (by kernel_rfl) ?_
            refine Ok.op rfl (OpOk.step (v := .int .i64 xd.1) (Yields.load 1 rfl rfl Tryd.underlying3 rfl (by kernel_rfl)) rfl rfl ?_)
            refine Ok.batch 2 [(42, .int .i64 (IntKind.wrap .i64 (xd.1 * 64))), (43, .pointer (some ⟨b2, 2, none⟩))] (by kernel_rfl) ?_
            refine Ok.op rfl (OpOk.step (v := .int .i64 xk.2.2.1) (Yields.load 0 rfl rfl Tryd.underlying3 rfl (by kernel_rfl)) rfl rfl ?_)
            refine Ok.batch 1 [(45, .int .i64 (IntKind.wrap .i64 ((IntKind.wrap .i64 (xd.1 * 64)) * xk.2.2.1)))] (by kernel_rfl) ?_
            obtain ⟨hp11, hF⟩ := hF
            refine Ok.op rfl (OpOk.callG (v := .int .i64 (wholeM (IntKind.wrap .i64 ((IntKind.wrap .i64 (xd.1 * 64)) * xk.2.2.1)) 100000)) (enters (by kernel_rfl) (fun _ => by kernel_rfl)) (fun W hW => whole_c (IntKind.wrap .i64 ((IntKind.wrap .i64 (xd.1 * 64)) * xk.2.2.1)) 100000 hp11) rfl ?_)
            refine Ok.op rfl (OpOk.callG (v := .int .i64 (rcutM (wholeM (IntKind.wrap .i64 ((IntKind.wrap .i64 (xd.1 * 64)) * xk.2.2.1)) 100000))) (enters (by kernel_rfl) (fun _ => by kernel_rfl)) (fun W hW => rcut_c (wholeM (IntKind.wrap .i64 ((IntKind.wrap .i64 (xd.1 * 64)) * xk.2.2.1)) 100000)) rfl ?_)
            refine Ok.batch 2 [(4, .int .i64 (rcutM (wholeM (IntKind.wrap .i64 ((IntKind.wrap .i64 (xd.1 * 64)) * xk.2.2.1)) 100000))), (5, .int .i64 0)] (by kernel_rfl) ?_
            refine Ok.nil ?_
            refine Ok.thenN ?_
            refine Ok.ret ?_
            refine Ok.thenR ?_
            exact Ok.resP (vs := [.int .i64 (rcutM (wholeM (IntKind.wrap .i64 ((IntKind.wrap .i64 (xd.1 * 64)) * xk.2.2.1)) 100000)), .int .i64 0]) [] [] (by decide) rfl (.inl rfl) rfl (.cons (.tmp rfl) (.cons (.tmp rfl) .nil)) (Gext.refl w0 g) ⟨(rcutM (wholeM (IntKind.wrap .i64 ((IntKind.wrap .i64 (xd.1 * 64)) * xk.2.2.1)) 100000)), 0, rfl, rfl, hF⟩
          · replace hF := hF.2 hc10
            refine Ok.skip ?_
            refine Ok.thenN ?_
            refine Ok.seq ?_
            refine Ok.seq ?_
            refine Ok.region ?_
            refine Ok.batch 1 [(2, .pointer (some ⟨b1, 0, none⟩)), (3, .pointer (some ⟨b2, 0, none⟩)), (48, .pointer (some ⟨b1, 1, none⟩))] (by kernel_rfl) ?_
            refine Ok.op rfl (OpOk.step (v := .string ⟨⟨xd.2⟩⟩) (Yields.load 1 rfl rfl Tryd.underlying9 rfl (by kernel_rfl)) rfl rfl ?_)
            refine Ok.op rfl (OpOk.step (v := .bool (xd.2 == ([118, 104] : List UInt8))) (Yields.strCmp (f := .eql) (a := xd.2) (b := ([118, 104] : List UInt8)) (by kernel_rfl) (by kernel_rfl) rfl) rfl rfl ?_)
            refine Ok.nil ?_
            refine Ok.thenN ?_
            refine Ok.cond (b := (xd.2 == ([118, 104] : List UInt8))) rfl (fun hc12 => ?_) (fun hc12 => ?_)
            · replace hF := hF.1 hc12
              refine Ok.seq ?_
              refine Ok.region ?_
              refine Ok.batch 1 [(3, .pointer (some ⟨b2, 0, none⟩)), (51, .pointer (some ⟨b1, 0, none⟩))] (by kernel_rfl) ?_
              refine Ok.op rfl (OpOk.step (v := .int .i64 xd.1) (Yields.load 1 rfl rfl Tryd.underlying3 rfl (by kernel_rfl)) rfl rfl ?_)
              refine Ok.batch 2 [(53, .int .i64 (IntKind.wrap .i64 (xd.1 * 64))), (54, .pointer (some ⟨b2, 3, none⟩))] (by kernel_rfl) ?_
              refine Ok.op rfl (OpOk.step (v := .int .i64 xk.2.2.2) (Yields.load 0 rfl rfl Tryd.underlying3 rfl (by kernel_rfl)) rfl rfl ?_)
              refine Ok.batch 1 [(56, .int .i64 (IntKind.wrap .i64 ((IntKind.wrap .i64 (xd.1 * 64)) * xk.2.2.2)))] (by kernel_rfl) ?_
              obtain ⟨hp13, hF⟩ := hF
              refine Ok.op rfl (OpOk.callG (v := .int .i64 (wholeM (IntKind.wrap .i64 ((IntKind.wrap .i64 (xd.1 * 64)) * xk.2.2.2)) 100000)) (enters (by kernel_rfl) (fun _ => by kernel_rfl)) (fun W hW => whole_c (IntKind.wrap .i64 ((IntKind.wrap .i64 (xd.1 * 64)) * xk.2.2.2)) 100000 hp13) rfl ?_)
              refine Ok.op rfl (OpOk.callG (v := .int .i64 (rcutM (wholeM (IntKind.wrap .i64 ((IntKind.wrap .i64 (xd.1 * 64)) * xk.2.2.2)) 100000))) (enters (by kernel_rfl) (fun _ => by kernel_rfl)) (fun W hW => rcut_c (wholeM (IntKind.wrap .i64 ((IntKind.wrap .i64 (xd.1 * 64)) * xk.2.2.2)) 100000)) rfl ?_)
              refine Ok.batch 2 [(4, .int .i64 (rcutM (wholeM (IntKind.wrap .i64 ((IntKind.wrap .i64 (xd.1 * 64)) * xk.2.2.2)) 100000))), (5, .int .i64 0)] (by kernel_rfl) ?_
              refine Ok.nil ?_
              refine Ok.thenN ?_
              refine Ok.ret ?_
              refine Ok.thenR ?_
              exact Ok.resP (vs := [.int .i64 (rcutM (wholeM (IntKind.wrap .i64 ((IntKind.wrap .i64 (xd.1 * 64)) * xk.2.2.2)) 100000)), .int .i64 0]) [] [] (by decide) rfl (.inl rfl) rfl (.cons (.tmp rfl) (.cons (.tmp rfl) .nil)) (Gext.refl w0 g) ⟨(rcutM (wholeM (IntKind.wrap .i64 ((IntKind.wrap .i64 (xd.1 * 64)) * xk.2.2.2)) 100000)), 0, rfl, rfl, hF⟩
            · replace hF := hF.2 hc12
              refine Ok.skip ?_
              refine Ok.thenN ?_
              refine Ok.seq ?_
              refine Ok.cut (fun a W => StA 67 [(66, .bool ((xd.2 == ([] : List UInt8)) && (xd.1 == 0)))] a ∧ StW w0 [] g W ∧ rpxj52 xd K) ?_ ?_
              ·
                refine Ok.region ?_
                refine Ok.batch 1 [(2, .pointer (some ⟨b1, 0, none⟩)), (59, .pointer (some ⟨b1, 1, none⟩))] (by kernel_rfl) ?_
                refine Ok.op rfl (OpOk.step (v := .string ⟨⟨xd.2⟩⟩) (Yields.load 1 rfl rfl Tryd.underlying9 rfl (by kernel_rfl)) rfl rfl ?_)
                refine Ok.op rfl (OpOk.step (v := .bool (xd.2 == ([] : List UInt8))) (Yields.strCmp (f := .eql) (a := xd.2) (b := ([] : List UInt8)) (by kernel_rfl) (by kernel_rfl) rfl) rfl rfl ?_)
                refine Ok.batch 1 [(2, .pointer (some ⟨b1, 0, none⟩)), (62, .bool (xd.2 == ([] : List UInt8)))] (by kernel_rfl) ?_
                refine Ok.boolAt 62 ((xd.2 == ([] : List UInt8))) rfl (fun hc15 => ?_) (fun hc15 => ?_)
                · replace hF := hF.1 hc15
                  refine Ok.batch 1 [(62, .bool true), (63, .pointer (some ⟨b1, 0, none⟩))] (by kernel_rfl) ?_
                  refine Ok.opYes (j := 3) (d := 62) (want := true) (b := true) rfl (by kernel_rfl) (by kernel_rfl) rfl (OpOk.step (v := .int .i64 xd.1) (Yields.load 1 rfl rfl Tryd.underlying3 rfl (by kernel_rfl)) rfl rfl ?_)
                  refine Ok.batch 2 [(66, .bool (xd.1 == 0))] (by kernel_rfl) ?_
                  refine Ok.nil ?_
                  refine Ok.thenN ?_
                  refine Ok.reval 66 rfl (show (.bool (xd.1 == 0) : Value) = .bool ((xd.2 == ([] : List UInt8)) && (xd.1 == 0)) from congrArg (Value.bool) (mand_t hc15)) ?_
                  exact fun a W hA hW => ⟨hA.sub (by kernel_rfl), hW.sub (.cons _ (.cons _ .slnil)), hF⟩
                · replace hF := hF.2 hc15
                  refine Ok.batch 4 [(66, .bool false)] (by kernel_rfl) ?_
                  refine Ok.nil ?_
                  refine Ok.thenN ?_
                  refine Ok.reval 66 rfl (show (.bool false : Value) = .bool ((xd.2 == ([] : List UInt8)) && (xd.1 == 0)) from congrArg (Value.bool) (mand_f hc15)) ?_
                  exact fun a W hA hW => ⟨hA.sub (by kernel_rfl), hW.sub (.cons _ (.cons _ .slnil)), hF⟩
              ·
                clear hF
                rintro a W ⟨hA, hW, hF⟩
                refine (?_ : Ok _ _ _ _ _ _) a W hA hW
                clear hA hW
                refine Ok.cond (b := ((xd.2 == ([] : List UInt8)) && (xd.1 == 0))) rfl (fun hc14 => ?_) (fun hc14 => ?_)
                · replace hF := hF.1 hc14
                  refine Ok.seq ?_
                  refine Ok.region ?_
                  refine Ok.batch 2 [(4, .int .i64 0), (5, .int .i64 0)] (by kernel_rfl) ?_
                  refine Ok.nil ?_
                  refine Ok.thenN ?_
                  refine Ok.ret ?_
                  refine Ok.thenR ?_
                  exact Ok.resH (vs := [.int .i64 0, .int .i64 0]) (.inl rfl) rfl (.cons (.tmp rfl) (.cons (.tmp rfl) .nil)) (Gext.refl w0 g) ⟨0, 0, rfl, rfl, hF⟩
                · replace hF := hF.2 hc14
                  refine Ok.skip ?_
                  refine Ok.thenN ?_
                  refine Ok.seq ?_
                  refine Ok.region ?_
                  refine Ok.batch 2 [(4, .int .i64 0), (5, .int .i64 7)] (by kernel_rfl) ?_
                  refine Ok.nil ?_
                  refine Ok.thenN ?_
                  refine Ok.ret ?_
                  exact Ok.resH (vs := [.int .i64 0, .int .i64 7]) (.inl rfl) rfl (.cons (.tmp rfl) (.cons (.tmp rfl) .nil)) (Gext.refl w0 g) ⟨0, 7, rfl, rfl, hF⟩
def rpxj52M (xd : Int × List UInt8) : Int × Int := (if ((xd.2 == ([] : List UInt8)) && (xd.1 == 0)) = true then (0, 0) else (0, 7))
set_option linter.unusedSimpArgs false in
set_option linter.unusedVariables false in
theorem rpxj52_A (xd : Int × List UInt8) (P : Int × Int → Prop) (h : P (rpxj52M xd)) : rpxj52 xd (fun k0 k1 => P (k0, k1)) := by
  unfold rpxj52M at h
  unfold rpxj52
  refine ⟨fun hc0 => ?_, fun hc0 => ?_⟩
  · rw [if_t hc0] at h
    have hd0 := hc0; try simp only [Bool.and_eq_true, Bool.or_eq_true, Bool.and_eq_false_iff, Bool.or_eq_false_iff, Bool.not_eq_true', Bool.not_eq_false', decide_eq_true_eq, decide_eq_false_iff_not, beq_iff_eq, beq_eq_false_iff_ne, ne_eq] at hd0
    exact h
  · rw [if_f hc0] at h
    have hd0 := hc0; try simp only [Bool.and_eq_true, Bool.or_eq_true, Bool.and_eq_false_iff, Bool.or_eq_false_iff, Bool.not_eq_true', Bool.not_eq_false', decide_eq_true_eq, decide_eq_false_iff_not, beq_iff_eq, beq_eq_false_iff_ne, ne_eq] at hd0
    exact h
def rpxM (xd : Int × List UInt8) (xk : Int × Int × Int × Int) : Int × Int := (if (sfaultM xd xk) = true then (0, 1) else (if (xd.2 == ([112, 120] : List UInt8)) = true then ((rcutM (wholeM (IntKind.wrap .i64 (xd.1 * 64)) 1000)), 0) else (if (xd.2 == ([101, 109] : List UInt8)) = true then ((rcutM (wholeM (IntKind.wrap .i64 (xd.1 * xk.1)) 1000)), 0) else (if (xd.2 == ([114, 101, 109] : List UInt8)) = true then ((rcutM (wholeM (IntKind.wrap .i64 (xd.1 * xk.2.1)) 1000)), 0) else (if (xd.2 == ([118, 119] : List UInt8)) = true then ((rcutM (wholeM (IntKind.wrap .i64 ((IntKind.wrap .i64 (xd.1 * 64)) * xk.2.2.1)) 100000)), 0) else (if (xd.2 == ([118, 104] : List UInt8)) = true then ((rcutM (wholeM (IntKind.wrap .i64 ((IntKind.wrap .i64 (xd.1 * 64)) * xk.2.2.2)) 100000)), 0) else (rpxj52M xd)))))))
set_option linter.unusedSimpArgs false in
set_option linter.unusedVariables false in
theorem rpxF_A (xd : Int × List UInt8) (xk : Int × Int × Int × Int) (P : Int × Int → Prop) (h : P (rpxM xd xk)) : rpxF xd xk (fun k0 k1 => P (k0, k1)) := by
  unfold rpxM at h
  unfold rpxF
  refine ⟨fun hc0 => ?_, fun hc0 => ?_⟩
  · rw [if_t hc0] at h
    exact h
  · rw [if_f hc0] at h
    refine ⟨fun hc1 => ?_, fun hc1 => ?_⟩
    · rw [if_t hc1] at h
      have hd1 := hc1; try simp only [Bool.and_eq_true, Bool.or_eq_true, Bool.and_eq_false_iff, Bool.or_eq_false_iff, Bool.not_eq_true', Bool.not_eq_false', decide_eq_true_eq, decide_eq_false_iff_not, beq_iff_eq, beq_eq_false_iff_ne, ne_eq] at hd1
      refine ⟨?_, ?_⟩
      · first | (unfold byP; decide) | omega | assumption | exact trivial | (have h0 := List.length_pos_iff.mpr (by assumption); omega) | (simp; omega) | (simp at *; omega)
      exact h
    · rw [if_f hc1] at h
      have hd1 := hc1; try simp only [Bool.and_eq_true, Bool.or_eq_true, Bool.and_eq_false_iff, Bool.or_eq_false_iff, Bool.not_eq_true', Bool.not_eq_false', decide_eq_true_eq, decide_eq_false_iff_not, beq_iff_eq, beq_eq_false_iff_ne, ne_eq] at hd1
      refine ⟨fun hc2 => ?_, fun hc2 => ?_⟩
      · rw [if_t hc2] at h
        have hd2 := hc2; try simp only [Bool.and_eq_true, Bool.or_eq_true, Bool.and_eq_false_iff, Bool.or_eq_false_iff, Bool.not_eq_true', Bool.not_eq_false', decide_eq_true_eq, decide_eq_false_iff_not, beq_iff_eq, beq_eq_false_iff_ne, ne_eq] at hd2
        refine ⟨?_, ?_⟩
        · first | (unfold byP; decide) | omega | assumption | exact trivial | (have h0 := List.length_pos_iff.mpr (by assumption); omega) | (simp; omega) | (simp at *; omega)
        exact h
      · rw [if_f hc2] at h
        have hd2 := hc2; try simp only [Bool.and_eq_true, Bool.or_eq_true, Bool.and_eq_false_iff, Bool.or_eq_false_iff, Bool.not_eq_true', Bool.not_eq_false', decide_eq_true_eq, decide_eq_false_iff_not, beq_iff_eq, beq_eq_false_iff_ne, ne_eq] at hd2
        refine ⟨fun hc3 => ?_, fun hc3 => ?_⟩
        · rw [if_t hc3] at h
          have hd3 := hc3; try simp only [Bool.and_eq_true, Bool.or_eq_true, Bool.and_eq_false_iff, Bool.or_eq_false_iff, Bool.not_eq_true', Bool.not_eq_false', decide_eq_true_eq, decide_eq_false_iff_not, beq_iff_eq, beq_eq_false_iff_ne, ne_eq] at hd3
          refine ⟨?_, ?_⟩
          · first | (unfold byP; decide) | omega | assumption | exact trivial | (have h0 := List.length_pos_iff.mpr (by assumption); omega) | (simp; omega) | (simp at *; omega)
          exact h
        · rw [if_f hc3] at h
          have hd3 := hc3; try simp only [Bool.and_eq_true, Bool.or_eq_true, Bool.and_eq_false_iff, Bool.or_eq_false_iff, Bool.not_eq_true', Bool.not_eq_false', decide_eq_true_eq, decide_eq_false_iff_not, beq_iff_eq, beq_eq_false_iff_ne, ne_eq] at hd3
          refine ⟨fun hc4 => ?_, fun hc4 => ?_⟩
          · rw [if_t hc4] at h
            have hd4 := hc4; try simp only [Bool.and_eq_true, Bool.or_eq_true, Bool.and_eq_false_iff, Bool.or_eq_false_iff, Bool.not_eq_true', Bool.not_eq_false', decide_eq_true_eq, decide_eq_false_iff_not, beq_iff_eq, beq_eq_false_iff_ne, ne_eq] at hd4
            refine ⟨?_, ?_⟩
            · first | (unfold byP; decide) | omega | assumption | exact trivial | (have h0 := List.length_pos_iff.mpr (by assumption); omega) | (simp; omega) | (simp at *; omega)
            exact h
          · rw [if_f hc4] at h
            have hd4 := hc4; try simp only [Bool.and_eq_true, Bool.or_eq_true, Bool.and_eq_false_iff, Bool.or_eq_false_iff, Bool.not_eq_true', Bool.not_eq_false', decide_eq_true_eq, decide_eq_false_iff_not, beq_iff_eq, beq_eq_false_iff_ne, ne_eq] at hd4
            refine ⟨fun hc5 => ?_, fun hc5 => ?_⟩
            · rw [if_t hc5] at h
              have hd5 := hc5; try simp only [Bool.and_eq_true, Bool.or_eq_true, Bool.and_eq_false_iff, Bool.or_eq_false_iff, Bool.not_eq_true', Bool.not_eq_false', decide_eq_true_eq, decide_eq_false_iff_not, beq_iff_eq, beq_eq_false_iff_ne, ne_eq] at hd5
              refine ⟨?_, ?_⟩
              · first | (unfold byP; decide) | omega | assumption | exact trivial | (have h0 := List.length_pos_iff.mpr (by assumption); omega) | (simp; omega) | (simp at *; omega)
              exact h
            · rw [if_f hc5] at h
              have hd5 := hc5; try simp only [Bool.and_eq_true, Bool.or_eq_true, Bool.and_eq_false_iff, Bool.or_eq_false_iff, Bool.not_eq_true', Bool.not_eq_false', decide_eq_true_eq, decide_eq_false_iff_not, beq_iff_eq, beq_eq_false_iff_ne, ne_eq] at hd5
              refine ⟨fun hc6 => ?_, fun hc6 => ?_⟩
              · skip
                have hd6 := hc6; try simp only [Bool.and_eq_true, Bool.or_eq_true, Bool.and_eq_false_iff, Bool.or_eq_false_iff, Bool.not_eq_true', Bool.not_eq_false', decide_eq_true_eq, decide_eq_false_iff_not, beq_iff_eq, beq_eq_false_iff_ne, ne_eq] at hd6
                exact rpxj52_A xd _ h
              · skip
                have hd6 := hc6; try simp only [Bool.and_eq_true, Bool.or_eq_true, Bool.and_eq_false_iff, Bool.or_eq_false_iff, Bool.not_eq_true', Bool.not_eq_false', decide_eq_true_eq, decide_eq_false_iff_not, beq_iff_eq, beq_eq_false_iff_ne, ne_eq] at hd6
                exact rpxj52_A xd _ h
theorem rpx_F (xd : Int × List UInt8) (xk : Int × Int × Int × Int) : rpxF xd xk (fun k0 k1 => (k0, k1) = rpxM xd xk) :=
  rpxF_A xd xk (fun z => z = rpxM xd xk) rfl
set_option linter.unusedVariables false in
theorem rpx_c {g : Ghost} (xd : Int × List UInt8) (xk : Int × Int × Int × Int)  : CallsG Tryd.prog 13 #[.agg #[.int .i64 xd.1, .string ⟨⟨xd.2⟩⟩], .agg #[.int .i64 xk.1, .int .i64 xk.2.1, .int .i64 xk.2.2.1, .int .i64 xk.2.2.2]] g (.tuple #[.int .i64 ((rpxM xd xk).1), .int .i64 ((rpxM xd xk).2)]) :=
  (rpx_ok xd xk _ (rpx_F xd xk)).gives (by rintro g' H' v _ ⟨r0, r1, rfl, rfl, hK⟩; obtain ⟨rfl, rfl⟩ : r0 = (rpxM xd xk).1 ∧ r1 = (rpxM xd xk).2 := ⟨congrArg (fun z => z.1) hK, congrArg (fun z => z.2) hK⟩; rfl)
theorem whole_down (n by' : Int) (h : 2 ≤ by' ∧ by' ≤ 100000) (hn : -9223372036854775808 ≤ n ∧ n ≤ 9223372036854775807) : downM n by' = wholeM n by' := by
  unfold downM downj5M downV0 wholeM wholej5M wholeV0
  have h1 := Int.tdiv_mul_add_tmod n by'
  have h2 : (n.tdiv by').natAbs ≤ n.natAbs / 2 := by rw [Int.natAbs_tdiv]; exact Nat.div_le_div_left (by omega) (by decide)
  have h3 : (n.tmod by').natAbs < by'.natAbs := by rw [Int.natAbs_tmod]; exact Nat.mod_lt _ (by omega)
  have h4 : (n.tdiv by' * by').natAbs ≤ n.natAbs := by rw [Int.natAbs_mul, Int.natAbs_tdiv]; exact Nat.div_mul_le_self _ _
  rw [w64 (x := n.tdiv by') (by omega), w64 (x := n.tdiv by' * by') (by omega)]
  have e : decide (n.tmod by' < 0) = decide (n.tdiv by' * by' > n) := decide_eq_decide.2 (by omega)
  rw [e]
theorem cut_cut (n : Int) : dcutM n = rcutM n := by
  unfold dcutM rcutM
  repeat' split
  all_goals omega
theorem fault_eq (d : Int × List UInt8) (k : Int × Int × Int × Int) : dpxV0 d k = sfaultM d k := by
  unfold dpxV0 sfaultM sfaultj3M sfaultV0 dinM
  rw [Bool.eq_iff_iff]
  simp only [Bool.or_eq_true, Bool.not_eq_true', Bool.and_eq_false_iff, decide_eq_false_iff_not, decide_eq_true_eq]
  omega
theorem wrap_range (x : Int) : -9223372036854775808 ≤ IntKind.wrap .i64 x ∧ IntKind.wrap .i64 x ≤ 9223372036854775807 := by rw [IntKind.wrap_i64]; omega
theorem fault_no {d : Int × List UInt8} {k : Int × Int × Int × Int} (h : sfaultM d k = false) : (-1000000000 ≤ d.1 ∧ d.1 ≤ 1000000000) ∧ (1 ≤ k.2.2.1 ∧ k.2.2.1 ≤ 4000) ∧ (1 ≤ k.2.2.2 ∧ k.2.2.2 ≤ 4000) := by
  unfold sfaultM sfaultj3M sfaultV0 at h
  simp only [Bool.or_eq_false_iff, decide_eq_false_iff_not] at h
  omega
theorem px_one (x y by' : Int) (h : 2 ≤ by' ∧ by' ≤ 100000) (e : x = y) : dcutM (downM (IntKind.wrap .i64 x) by') = rcutM (wholeM (IntKind.wrap .i64 y) by') := by
  rw [e, whole_down _ _ h (wrap_range _), cut_cut]
theorem zero_known : dcutM (downM (IntKind.wrap .i64 0) 1000) = 0 := by decide +kernel
set_option linter.unusedSimpArgs false in
theorem px_eq (d : Int × List UInt8) (k : Int × Int × Int × Int) : dpxM d k = rpxM d k := by
  show dpxj4M d k = rpxM d k
  unfold dpxj4M rpxM
  rw [fault_eq]
  cases hf : sfaultM d k
  · have hb := fault_no hf
    rw [if_f rfl, if_f rfl]
    unfold dpxj37M dpxj13M dpxV1 dpxV2 rpxj52M
    cases e1 : d.2 == ([112, 120] : List UInt8)
    · cases e2 : d.2 == ([101, 109] : List UInt8)
      · cases e3 : d.2 == ([114, 101, 109] : List UInt8)
        · cases e4 : d.2 == ([118, 119] : List UInt8)
          · cases e5 : d.2 == ([118, 104] : List UInt8)
            · cases e6 : d.2 == ([] : List UInt8)
              · simp only [bne, Bool.not_false, Bool.true_or, Bool.false_eq_true, if_false, if_true, Bool.false_and]
              · cases e7 : d.1 == 0
                · simp [bne, e7]
                · have h0 : d.1 = 0 := by simpa using e7
                  simp only [bne, e7, h0, Bool.false_eq_true, if_false, Bool.not_true, Bool.or_self, Bool.true_and, Bool.not_false, Int.zero_mul, beq_self_eq_true, if_true]
                  exact congrArg (fun x => (x, (0 : Int))) zero_known
            · simp only [Bool.false_eq_true, if_false, if_true]
              rw [px_one _ _ _ ⟨by decide, by decide⟩ (show d.1 * IntKind.wrap .i64 (64 * k.2.2.2) = IntKind.wrap .i64 (d.1 * 64) * k.2.2.2 by rw [w64 (by omega), w64 (by omega), Int.mul_assoc])]
          · simp only [Bool.false_eq_true, if_false, if_true]
            rw [px_one _ _ _ ⟨by decide, by decide⟩ (show d.1 * IntKind.wrap .i64 (64 * k.2.2.1) = IntKind.wrap .i64 (d.1 * 64) * k.2.2.1 by rw [w64 (by omega), w64 (by omega), Int.mul_assoc])]
        · simp only [Bool.false_eq_true, if_false, if_true]
          rw [px_one _ _ _ ⟨by decide, by decide⟩ rfl]
      · simp only [Bool.false_eq_true, if_false, if_true]
        rw [px_one _ _ _ ⟨by decide, by decide⟩ rfl]
    · simp only [Bool.false_eq_true, if_false, if_true]
      rw [px_one _ _ _ ⟨by decide, by decide⟩ rfl]
  · rw [if_t rfl, if_t rfl]
theorem nonempty_all {α : Type} [BEq α] [LawfulBEq α] (v x : α) : (v == x) = (x == v) := Bool.beq_comm
def unitsF (K : (List (List UInt8)) → Prop) : Prop :=
  K ([([] : List UInt8), ([112, 120] : List UInt8), ([101, 109] : List UInt8), ([114, 101, 109] : List UInt8), ([118, 119] : List UInt8), ([118, 104] : List UInt8), ([37] : List UInt8)] : List (List UInt8))
set_option maxHeartbeats 4000000 in
set_option maxRecDepth 100000 in
set_option linter.unusedVariables false in
theorem units_ok {g : Ghost}  (K : (List (List UInt8)) → Prop)
    (hF : unitsF K) : CallsH Tryd.prog 18 #[] g [] (fun g' H' v => ∃ (r0 : List (List UInt8)), ∃ (ar0_0 : Option Addr) (cr0_0 : Nat), v = .slice ar0_0 r0.length cr0_0 ∧ Rep g' (.slice (.str)) [.slice ar0_0 r0.length cr0_0] r0 ∧ H' = [] ∧ K r0) := by
  refine CallsH.enter 2 [] Tryd.func18 rfl (by kernel_rfl) (by kernel_rfl) (by kernel_rfl) fun w0 => ?_
  refine Ok.seq ?_
  refine Ok.region ?_
  refine Ok.batch 1 [] (by kernel_rfl) ?_
  refine Ok.nil ?_
  refine Ok.thenN ?_
  refine Ok.seq ?_
  refine Ok.region ?_
  have hL1 : RepL g (.str) ([.string ⟨⟨([] : List UInt8)⟩⟩, .string ⟨⟨([112, 120] : List UInt8)⟩⟩, .string ⟨⟨([101, 109] : List UInt8)⟩⟩, .string ⟨⟨([114, 101, 109] : List UInt8)⟩⟩, .string ⟨⟨([118, 119] : List UInt8)⟩⟩, .string ⟨⟨([118, 104] : List UInt8)⟩⟩, .string ⟨⟨([37] : List UInt8)⟩⟩] : List Value) ([([] : List UInt8), ([112, 120] : List UInt8), ([101, 109] : List UInt8), ([114, 101, 109] : List UInt8), ([118, 119] : List UInt8), ([118, 104] : List UInt8), ([37] : List UInt8)] : List (List UInt8)) := (RepL.flat (by kernel_rfl) (by kernel_rfl))
  refine Ok.op rfl (OpOk.lit (E := 9) (.str) ([([] : List UInt8), ([112, 120] : List UInt8), ([101, 109] : List UInt8), ([114, 101, 109] : List UInt8), ([118, 119] : List UInt8), ([118, 104] : List UInt8), ([37] : List UInt8)] : List (List UInt8)) ([.string ⟨⟨([] : List UInt8)⟩⟩, .string ⟨⟨([112, 120] : List UInt8)⟩⟩, .string ⟨⟨([101, 109] : List UInt8)⟩⟩, .string ⟨⟨([114, 101, 109] : List UInt8)⟩⟩, .string ⟨⟨([118, 119] : List UInt8)⟩⟩, .string ⟨⟨([118, 104] : List UInt8)⟩⟩, .string ⟨⟨([37] : List UInt8)⟩⟩] : List Value) (by kernel_rfl) (by kernel_rfl) rfl (by kernel_rfl) hL1 rfl fun b1 => ?_)
  refine Ok.batch 1 [(0, .slice (some ⟨b1, 0, none⟩) ([([] : List UInt8), ([112, 120] : List UInt8), ([101, 109] : List UInt8), ([114, 101, 109] : List UInt8), ([118, 119] : List UInt8), ([118, 104] : List UInt8), ([37] : List UInt8)] : List (List UInt8)).length 7)] (by kernel_rfl) ?_
  refine Ok.nil ?_
  refine Ok.thenN ?_
  refine Ok.ret ?_
  refine Ok.freeze (H' := []) 0 rfl hL1 rfl fun g2 hx2 hRf2 => ?_
  exact Ok.resH (vs := [.slice (some ⟨b1, 0, none⟩) ([([] : List UInt8), ([112, 120] : List UInt8), ([101, 109] : List UInt8), ([114, 101, 109] : List UInt8), ([118, 119] : List UInt8), ([118, 104] : List UInt8), ([37] : List UInt8)] : List (List UInt8)).length 7]) (.inl rfl) rfl (.cons (.tmp rfl) .nil) hx2 ⟨([([] : List UInt8), ([112, 120] : List UInt8), ([101, 109] : List UInt8), ([114, 101, 109] : List UInt8), ([118, 119] : List UInt8), ([118, 104] : List UInt8), ([37] : List UInt8)] : List (List UInt8)), (some ⟨b1, 0, none⟩), 7, rfl, hRf2, rfl, hF⟩
def unitsM : List (List UInt8) := ([([] : List UInt8), ([112, 120] : List UInt8), ([101, 109] : List UInt8), ([114, 101, 109] : List UInt8), ([118, 119] : List UInt8), ([118, 104] : List UInt8), ([37] : List UInt8)] : List (List UInt8))
set_option linter.unusedSimpArgs false in
set_option linter.unusedVariables false in
theorem unitsF_A (P : List (List UInt8) → Prop) (h : P (unitsM)) : unitsF (fun k0 => P k0) := by
  unfold unitsM at h
  unfold unitsF
  exact h
theorem units_F : unitsF (fun k0 => k0 = unitsM) :=
  unitsF_A (fun z => z = unitsM) rfl
set_option linter.unusedVariables false in
theorem units_c {g : Ghost}   : CallsH Tryd.prog 18 #[] g [] (fun g' H' v => ∃ (ar0_0 : Option Addr) (cr0_0 : Nat), v = .slice ar0_0 unitsM.length cr0_0 ∧ Rep g' (.slice (.str)) [.slice ar0_0 unitsM.length cr0_0] unitsM ∧ H' = []) :=
  (units_ok  _ (units_F )).mono (by rintro g' H' v _ ⟨r0, ar0_0, cr0_0, rfl, hRr0_0, rfl, hK⟩; subst hK; exact ⟨ar0_0, cr0_0, rfl, hRr0_0, rfl⟩)
def inP (l : List (List UInt8)) (_ : List UInt8) : Prop := l.length ≤ 1000000
def rinS (l : List (List UInt8)) (s : List UInt8) : Bool := l.contains s
def rinl7b (xl : List (List UInt8)) (xs : List UInt8) (K : Bool → Prop) (x5l7 : Int) (C7 : Int → Prop) : Prop :=
  ((decide (x5l7 < (xl.length : Int))) = true → (0 : Int) ≤ x5l7 ∧ Int.toNat x5l7 < xl.length ∧ ((((xl.getD (Int.toNat x5l7) default) == xs)) = true → K true) ∧ ((((xl.getD (Int.toNat x5l7) default) == xs)) = false → C7 (IntKind.wrap .i64 (x5l7 + 1)))) ∧ ((decide (x5l7 < (xl.length : Int))) = false → K false)
def rinl7 (xl : List (List UInt8)) (xs : List UInt8) (K : Bool → Prop) : Nat → Int → Prop
  | 0, _ => False
  | k + 1, x5l7 => rinl7b xl xs K x5l7 (rinl7 xl xs K k)
def rinF (xl : List (List UInt8)) (xs : List UInt8) (K : Bool → Prop) : Prop :=
  ∃ k, rinl7 xl xs K k 0
set_option maxHeartbeats 4000000 in
set_option maxRecDepth 100000 in
set_option linter.unusedVariables false in
theorem rin_ok {g : Ghost} {axl_0 : Option Addr} {cxl_0 : Nat} (xl : List (List UInt8)) (xs : List UInt8) (hRxl_0 : Rep g (.slice (.str)) [.slice axl_0 xl.length cxl_0] xl) (K : Bool → Prop)
    (hF : rinF xl xs K) : CallsH Tryd.prog 17 #[.slice axl_0 xl.length cxl_0, .string ⟨⟨xs⟩⟩] g [] (fun g' H' v => ∃ (r0 : Bool), v = .bool r0 ∧ H' = [] ∧ K r0) := by
  refine CallsH.enter 18 [(0, .slice axl_0 xl.length cxl_0), (1, .string ⟨⟨xs⟩⟩)] Tryd.func17 rfl (by kernel_rfl) (by kernel_rfl) (by kernel_rfl) fun w0 => ?_
  refine Ok.seq ?_
  refine Ok.region ?_
  refine Ok.batch 1 [(0, .slice axl_0 xl.length cxl_0), (1, .string ⟨⟨xs⟩⟩)] (by kernel_rfl) ?_
  refine Ok.nil ?_
  refine Ok.thenN ?_
  refine Ok.seq ?_
  refine Ok.seq ?_
  refine Ok.region ?_
  refine Ok.batch 1 [(0, .slice axl_0 xl.length cxl_0), (1, .string ⟨⟨xs⟩⟩), (5, .int .i64 0)] (by kernel_rfl) ?_
  refine Ok.nil ?_
  refine Ok.thenN ?_
  refine Ok.block ?_
  obtain ⟨k, hF⟩ := hF
  refine Ok.loop (fun k a W => ∃ (x5l7 : Int), StA 18 [(0, .slice axl_0 xl.length cxl_0), (1, .string ⟨⟨xs⟩⟩), (5, .int .i64 x5l7)] a ∧ StW w0 [] g W ∧ rinl7 xl xs K k x5l7) k ?_ ?_
  ·
    exact fun a W hA hW => ⟨0, hA.sub (by kernel_rfl), hW, hF⟩
  ·
    clear hF
    rintro k7 a W ⟨x5l7, hA, hW, hF⟩
    cases k7 with
    | zero => exact (hF : False).elim
    | succ k7 =>
      refine (?_ : Ok _ _ _ _ _ _) a W hA hW
      clear hA hW
      refine Ok.seq ?_
      refine Ok.seq ?_
      refine Ok.region ?_
      refine Ok.batch 4 [(0, .slice axl_0 xl.length cxl_0), (1, .string ⟨⟨xs⟩⟩), (5, .int .i64 x5l7), (9, .bool (decide (x5l7 < (xl.length : Int))))] (by kernel_rfl) ?_
      refine Ok.nil ?_
      refine Ok.thenN ?_
      refine Ok.cond (b := decide (x5l7 < (xl.length : Int))) rfl (fun hc1 => ?_) (fun hc1 => ?_)
      · replace hF := hF.1 hc1
        refine Ok.skip ?_
        refine Ok.thenN ?_
        refine Ok.seq ?_
        refine Ok.block ?_
        refine Ok.seq ?_
        refine Ok.region ?_
        refine Ok.batch 2 [(0, .slice axl_0 xl.length cxl_0), (1, .string ⟨⟨xs⟩⟩), (5, .int .i64 x5l7), (12, .slice axl_0 xl.length cxl_0), (13, .int .i64 x5l7)] (by kernel_rfl) ?_
        obtain ⟨h03, h13, hF⟩ := hF
        have he3 := get_of (l := xl) (default : List UInt8) h13
        generalize hg3 : (xl.getD (Int.toNat x5l7) default) = e3 at he3 hF ⊢
        refine Ok.op rfl (OpOk.indexRo (e := .str) (i := x5l7) (el := e3) rfl rfl Tryd.underlying44 (by kernel_rfl) hRxl_0 h03 he3 rfl fun q2 o2 cs2 _ hat2 hr2 => ?_)
        obtain rfl := hr2
        replace hat2 : At g q2 o2 [.string ⟨⟨e3⟩⟩] := hat2
        refine Ok.op rfl (OpOk.step (v := .string ⟨⟨e3⟩⟩) (Yields.loadRo 0 hat2 (by kernel_rfl) Tryd.underlying9 rfl (by kernel_rfl)) rfl rfl ?_)
        refine Ok.batch 1 [(0, .slice axl_0 xl.length cxl_0), (1, .string ⟨⟨xs⟩⟩), (5, .int .i64 x5l7), (15, .string ⟨⟨e3⟩⟩), (16, .string ⟨⟨xs⟩⟩)] (by kernel_rfl) ?_
        refine Ok.op rfl (OpOk.step (v := .bool (e3 == xs)) (Yields.strCmp (f := .eql) (a := e3) (b := xs) (by kernel_rfl) (by kernel_rfl) rfl) rfl rfl ?_)
        refine Ok.nil ?_
        refine Ok.thenN ?_
        refine Ok.cond (b := (e3 == xs)) rfl (fun hc4 => ?_) (fun hc4 => ?_)
        · replace hF := hF.1 hc4
          refine Ok.seq ?_
          refine Ok.region ?_
          refine Ok.batch 1 [(4, .bool true)] (by kernel_rfl) ?_
          refine Ok.nil ?_
          refine Ok.thenN ?_
          refine Ok.ret ?_
          refine Ok.blockR ?_
          refine Ok.thenR ?_
          refine Ok.thenR ?_
          refine Ok.blockR ?_
          refine Ok.thenR ?_
          exact Ok.resH (vs := [.bool true]) (.inl rfl) rfl (.cons (.tmp rfl) .nil) (Gext.refl w0 g) ⟨true, rfl, rfl, hF⟩
        · replace hF := hF.2 hc4
          refine Ok.skip ?_
          refine Ok.blockN ?_
          refine Ok.thenN ?_
          refine Ok.region ?_
          refine Ok.batch 3 [(0, .slice axl_0 xl.length cxl_0), (1, .string ⟨⟨xs⟩⟩), (5, .int .i64 (IntKind.wrap .i64 (x5l7 + 1)))] (by kernel_rfl) ?_
          refine Ok.nil ?_
          refine Ok.thenN ?_
          subst hg3
          exact fun a W hA hW => ⟨k7, Nat.lt_succ_self _, IntKind.wrap .i64 (x5l7 + 1), hA.sub (by kernel_rfl), hW, hF⟩
      · replace hF := hF.2 hc1
        refine Ok.exit ?_
        refine Ok.thenE ?_
        refine Ok.thenE ?_
        refine Ok.blockHit ?_
        refine Ok.thenN ?_
        refine Ok.seq ?_
        refine Ok.region ?_
        refine Ok.batch 1 [(4, .bool false)] (by kernel_rfl) ?_
        refine Ok.nil ?_
        refine Ok.thenN ?_
        refine Ok.ret ?_
        exact Ok.resH (vs := [.bool false]) (.inl rfl) rfl (.cons (.tmp rfl) .nil) (Gext.refl w0 g) ⟨false, rfl, rfl, hF⟩
theorem contains_drop {l : List (List UInt8)} {s : List UInt8} {i : Nat} (h : i < l.length) : (l.drop i).contains s = (s == l.getD i default || (l.drop (i + 1)).contains s) := by
  rw [drop_get (l := l) default h, List.contains_cons]
theorem rin_F (l : List (List UInt8)) (s : List UInt8) (hp : inP l s) : rinF l s (fun r => r = rinS l s) := by
  unfold inP at hp
  have loop : ∀ (k i : Nat), i + k = l.length → rinS l s = (l.drop i).contains s → rinl7 l s (fun r => r = rinS l s) (k + 1) (i : Int) := by
    intro k
    induction k with
    | zero =>
      intro i h h2
      rw [List.drop_of_length_le (by omega)] at h2
      exact ⟨fun hc => by have := of_decide_eq_true hc; omega, fun _ => h2.symm⟩
    | succ k ih =>
      intro i h h2
      rw [contains_drop (by omega)] at h2
      refine ⟨fun _ => ⟨by omega, by omega, fun hc => ?_, fun hc => ?_⟩, fun hc => by have := of_decide_eq_false hc; omega⟩
      · rw [Int.toNat_natCast, Bool.beq_comm] at hc
        rw [h2, hc]; rfl
      · rw [Int.toNat_natCast, Bool.beq_comm] at hc
        rw [hc, Bool.false_or] at h2
        rw [w64 (by omega)]
        exact ih (i + 1) (by omega) h2
  exact ⟨_, loop l.length 0 (by omega) (by rw [List.drop_zero]; rfl)⟩
set_option linter.unusedVariables false in
theorem rin_c {g : Ghost} {axl_0 : Option Addr} {cxl_0 : Nat} (xl : List (List UInt8)) (xs : List UInt8) (hRxl_0 : Rep g (.slice (.str)) [.slice axl_0 xl.length cxl_0] xl)  (hp : inP xl xs) : CallsG Tryd.prog 17 #[.slice axl_0 xl.length cxl_0, .string ⟨⟨xs⟩⟩] g (.bool (rinS xl xs)) :=
  (rin_ok xl xs hRxl_0 _ (rin_F xl xs hp)).gives (by rintro g' H' v _ ⟨r0, rfl, rfl, hK⟩; subst hK; rfl)
def sidxl7b (xs : List (List UInt8)) (xv : List UInt8) (K : Int → Prop) (x8l7 : Int) (C7 : Int → Prop) : Prop :=
  ((decide (x8l7 < (xs.length : Int))) = true → (0 : Int) ≤ x8l7 ∧ Int.toNat x8l7 < xs.length ∧ (((xv == (xs.getD (Int.toNat x8l7) default))) = true → K x8l7) ∧ (((xv == (xs.getD (Int.toNat x8l7) default))) = false → C7 (IntKind.wrap .i64 (x8l7 + 1)))) ∧ ((decide (x8l7 < (xs.length : Int))) = false → K (-1))
def sidxl7 (xs : List (List UInt8)) (xv : List UInt8) (K : Int → Prop) : Nat → Int → Prop
  | 0, _ => False
  | k + 1, x8l7 => sidxl7b xs xv K x8l7 (sidxl7 xs xv K k)
def sidxF (xs : List (List UInt8)) (xv : List UInt8) (K : Int → Prop) : Prop :=
  ∃ k, sidxl7 xs xv K k 0
set_option maxHeartbeats 4000000 in
set_option maxRecDepth 100000 in
set_option linter.unusedVariables false in
theorem sidx_ok {g : Ghost} {axs_0 : Option Addr} {cxs_0 : Nat} (xs : List (List UInt8)) (xv : List UInt8) (hRxs_0 : Rep g (.slice (.str)) [.slice axs_0 xs.length cxs_0] xs) (K : Int → Prop)
    (hF : sidxF xs xv K) : CallsH Tryd.prog 29 #[.slice axs_0 xs.length cxs_0, .string ⟨⟨xv⟩⟩] g [] (fun g' H' v => ∃ (r0 : Int), v = .int .i64 r0 ∧ H' = [] ∧ K r0) := by
  refine CallsH.enter 19 [(0, .slice axs_0 xs.length cxs_0), (1, .string ⟨⟨xv⟩⟩)] Tryd.func29 rfl (by kernel_rfl) (by kernel_rfl) (by kernel_rfl) fun w0 => ?_
  refine Ok.seq ?_
  refine Ok.region ?_
  refine Ok.batch 1 [(0, .slice axs_0 xs.length cxs_0), (1, .string ⟨⟨xv⟩⟩)] (by kernel_rfl) ?_
  refine Ok.nil ?_
  refine Ok.thenN ?_
  refine Ok.seq ?_
  refine Ok.seq ?_
  refine Ok.region ?_
  refine Ok.batch 3 [(0, .slice axs_0 xs.length cxs_0), (1, .string ⟨⟨xv⟩⟩), (7, .int .i64 (xs.length : Int)), (8, .int .i64 0)] (by kernel_rfl) ?_
  refine Ok.nil ?_
  refine Ok.thenN ?_
  refine Ok.block ?_
  obtain ⟨k, hF⟩ := hF
  refine Ok.loop (fun k a W => ∃ (x8l7 : Int), StA 19 [(0, .slice axs_0 xs.length cxs_0), (1, .string ⟨⟨xv⟩⟩), (7, .int .i64 (xs.length : Int)), (8, .int .i64 x8l7)] a ∧ StW w0 [] g W ∧ sidxl7 xs xv K k x8l7) k ?_ ?_
  ·
    exact fun a W hA hW => ⟨0, hA.sub (by kernel_rfl), hW, hF⟩
  ·
    clear hF
    rintro k7 a W ⟨x8l7, hA, hW, hF⟩
    cases k7 with
    | zero => exact (hF : False).elim
    | succ k7 =>
      refine (?_ : Ok _ _ _ _ _ _) a W hA hW
      clear hA hW
      refine Ok.seq ?_
      refine Ok.region ?_
      refine Ok.batch 1 [(0, .slice axs_0 xs.length cxs_0), (1, .string ⟨⟨xv⟩⟩), (7, .int .i64 (xs.length : Int)), (8, .int .i64 x8l7), (9, .bool (decide (x8l7 < (xs.length : Int))))] (by kernel_rfl) ?_
      refine Ok.nil ?_
      refine Ok.thenN ?_
      refine Ok.seq ?_
      refine Ok.cond (b := decide (x8l7 < (xs.length : Int))) rfl (fun hc1 => ?_) (fun hc1 => ?_)
      · replace hF := hF.1 hc1
        refine Ok.skip ?_
        refine Ok.thenN ?_
        refine Ok.seq ?_
        refine Ok.block ?_
        refine Ok.seq ?_
        refine Ok.region ?_
        refine Ok.batch 2 [(0, .slice axs_0 xs.length cxs_0), (1, .string ⟨⟨xv⟩⟩), (5, .int .i64 x8l7), (7, .int .i64 (xs.length : Int)), (8, .int .i64 x8l7)] (by kernel_rfl) ?_
        refine Ok.nil ?_
        refine Ok.thenN ?_
        refine Ok.seq ?_
        refine Ok.region ?_
        refine Ok.batch 3 [(0, .slice axs_0 xs.length cxs_0), (1, .string ⟨⟨xv⟩⟩), (5, .int .i64 x8l7), (7, .int .i64 (xs.length : Int)), (8, .int .i64 x8l7), (11, .string ⟨⟨xv⟩⟩), (12, .slice axs_0 xs.length cxs_0), (13, .int .i64 x8l7)] (by kernel_rfl) ?_
        obtain ⟨h03, h13, hF⟩ := hF
        have he3 := get_of (l := xs) (default : List UInt8) h13
        generalize hg3 : (xs.getD (Int.toNat x8l7) default) = e3 at he3 hF ⊢
        refine Ok.op rfl (OpOk.indexRo (e := .str) (i := x8l7) (el := e3) rfl rfl Tryd.underlying44 (by kernel_rfl) hRxs_0 h03 he3 rfl fun q2 o2 cs2 _ hat2 hr2 => ?_)
        obtain rfl := hr2
        replace hat2 : At g q2 o2 [.string ⟨⟨e3⟩⟩] := hat2
        refine Ok.op rfl (OpOk.step (v := .string ⟨⟨e3⟩⟩) (Yields.loadRo 0 hat2 (by kernel_rfl) Tryd.underlying9 rfl (by kernel_rfl)) rfl rfl ?_)
        refine Ok.op rfl (OpOk.step (v := .bool (xv == e3)) (Yields.strCmp (f := .eql) (a := xv) (b := e3) (by kernel_rfl) (by kernel_rfl) rfl) rfl rfl ?_)
        refine Ok.nil ?_
        refine Ok.thenN ?_
        refine Ok.cond (b := (xv == e3)) rfl (fun hc4 => ?_) (fun hc4 => ?_)
        · replace hF := hF.1 hc4
          refine Ok.seq ?_
          refine Ok.region ?_
          refine Ok.batch 2 [(4, .int .i64 x8l7)] (by kernel_rfl) ?_
          refine Ok.nil ?_
          refine Ok.thenN ?_
          refine Ok.ret ?_
          refine Ok.blockR ?_
          refine Ok.thenR ?_
          refine Ok.thenR ?_
          refine Ok.blockR ?_
          refine Ok.thenR ?_
          exact Ok.resH (vs := [.int .i64 x8l7]) (.inl rfl) rfl (.cons (.tmp rfl) .nil) (Gext.refl w0 g) ⟨x8l7, rfl, rfl, hF⟩
        · replace hF := hF.2 hc4
          refine Ok.skip ?_
          refine Ok.blockN ?_
          refine Ok.thenN ?_
          refine Ok.region ?_
          refine Ok.batch 2 [(0, .slice axs_0 xs.length cxs_0), (1, .string ⟨⟨xv⟩⟩), (7, .int .i64 (xs.length : Int)), (8, .int .i64 (IntKind.wrap .i64 (x8l7 + 1)))] (by kernel_rfl) ?_
          refine Ok.nil ?_
          refine Ok.thenN ?_
          subst hg3
          exact fun a W hA hW => ⟨k7, Nat.lt_succ_self _, IntKind.wrap .i64 (x8l7 + 1), hA.sub (by kernel_rfl), hW, hF⟩
      · replace hF := hF.2 hc1
        refine Ok.exit ?_
        refine Ok.thenE ?_
        refine Ok.thenE ?_
        refine Ok.blockHit ?_
        refine Ok.thenN ?_
        refine Ok.seq ?_
        refine Ok.region ?_
        refine Ok.batch 1 [(4, .int .i64 (-1))] (by kernel_rfl) ?_
        refine Ok.nil ?_
        refine Ok.thenN ?_
        refine Ok.ret ?_
        exact Ok.resH (vs := [.int .i64 (-1)]) (.inl rfl) rfl (.cons (.tmp rfl) .nil) (Gext.refl w0 g) ⟨(-1), rfl, rfl, hF⟩
def sidxN (v : List UInt8) : List (List UInt8) → Nat → Int
  | [], _ => -1
  | x :: l, i => if (v == x) = true then (i : Int) else sidxN v l (i + 1)
def sidxS (l : List (List UInt8)) (s : List UInt8) : Int := sidxN s l 0
theorem sidx_F (l : List (List UInt8)) (s : List UInt8) (hp : inP l s) : sidxF l s (fun r => r = sidxS l s) := by
  unfold inP at hp
  have loop : ∀ (k i : Nat), i + k = l.length → sidxS l s = sidxN s (l.drop i) i → sidxl7 l s (fun r => r = sidxS l s) (k + 1) (i : Int) := by
    intro k
    induction k with
    | zero =>
      intro i h h2
      rw [List.drop_of_length_le (by omega)] at h2
      exact ⟨fun hc => by have := of_decide_eq_true hc; omega, fun _ => h2.symm⟩
    | succ k ih =>
      intro i h h2
      rw [drop_get (l := l) default (by omega), sidxN] at h2
      refine ⟨fun _ => ⟨by omega, by omega, fun hc => ?_, fun hc => ?_⟩, fun hc => by have := of_decide_eq_false hc; omega⟩
      · rw [Int.toNat_natCast] at hc
        rw [h2, if_t hc]
      · rw [Int.toNat_natCast] at hc
        rw [if_f hc] at h2
        rw [w64 (by omega)]
        exact ih (i + 1) (by omega) h2
  exact ⟨_, loop l.length 0 (by omega) rfl⟩
set_option linter.unusedVariables false in
theorem sidx_c {g : Ghost} {axs_0 : Option Addr} {cxs_0 : Nat} (xs : List (List UInt8)) (xv : List UInt8) (hRxs_0 : Rep g (.slice (.str)) [.slice axs_0 xs.length cxs_0] xs)  (hp : inP xs xv) : CallsG Tryd.prog 29 #[.slice axs_0 xs.length cxs_0, .string ⟨⟨xv⟩⟩] g (.int .i64 (sidxS xs xv)) :=
  (sidx_ok xs xv hRxs_0 _ (sidx_F xs xv hp)).gives (by rintro g' H' v _ ⟨r0, rfl, rfl, hK⟩; subst hK; rfl)
theorem sidx_con (s : List UInt8) : ∀ (l : List (List UInt8)) (i : Nat), decide (sidxN s l i ≥ 0) = l.contains s
  | [], _ => rfl
  | x :: l, i => by
    rw [sidxN, List.contains_cons]
    cases h : s == x
    · rw [if_f rfl, Bool.false_or, sidx_con s l (i + 1)]
    · rw [if_t rfl]; simp
def sconF (xs : List (List UInt8)) (xv : List UInt8) (K : Bool → Prop) : Prop :=
  inP xs xv ∧ K (decide ((sidxS xs xv) ≥ 0))
set_option maxHeartbeats 4000000 in
set_option maxRecDepth 100000 in
set_option linter.unusedVariables false in
theorem scon_ok {g : Ghost} {axs_0 : Option Addr} {cxs_0 : Nat} (xs : List (List UInt8)) (xv : List UInt8) (hRxs_0 : Rep g (.slice (.str)) [.slice axs_0 xs.length cxs_0] xs) (K : Bool → Prop)
    (hF : sconF xs xv K) : CallsH Tryd.prog 15 #[.slice axs_0 xs.length cxs_0, .string ⟨⟨xv⟩⟩] g [] (fun g' H' v => ∃ (r0 : Bool), v = .bool r0 ∧ H' = [] ∧ K r0) := by
  refine CallsH.enter 9 [(0, .slice axs_0 xs.length cxs_0), (1, .string ⟨⟨xv⟩⟩)] Tryd.func15 rfl (by kernel_rfl) (by kernel_rfl) (by kernel_rfl) fun w0 => ?_
  refine Ok.seq ?_
  refine Ok.region ?_
  refine Ok.batch 1 [(0, .slice axs_0 xs.length cxs_0), (1, .string ⟨⟨xv⟩⟩)] (by kernel_rfl) ?_
  refine Ok.nil ?_
  refine Ok.thenN ?_
  refine Ok.seq ?_
  refine Ok.region ?_
  refine Ok.batch 2 [(5, .slice axs_0 xs.length cxs_0), (6, .string ⟨⟨xv⟩⟩)] (by kernel_rfl) ?_
  obtain ⟨hp1, hF⟩ := hF
  refine Ok.op rfl (OpOk.callG (v := .int .i64 (sidxS xs xv)) (enters (by kernel_rfl) (fun _ => by kernel_rfl)) (fun W hW => sidx_c xs xv (hRxs_0.mono hW.sees) hp1) rfl ?_)
  refine Ok.batch 2 [(4, .bool (decide ((sidxS xs xv) ≥ 0)))] (by kernel_rfl) ?_
  refine Ok.nil ?_
  refine Ok.thenN ?_
  refine Ok.ret ?_
  exact Ok.resH (vs := [.bool (decide ((sidxS xs xv) ≥ 0))]) (.inl rfl) rfl (.cons (.tmp rfl) .nil) (Gext.refl w0 g) ⟨(decide ((sidxS xs xv) ≥ 0)), rfl, rfl, hF⟩
def sconM (xs : List (List UInt8)) (xv : List UInt8) : Bool := (decide ((sidxS xs xv) ≥ 0))
set_option linter.unusedSimpArgs false in
set_option linter.unusedVariables false in
theorem sconF_A (xs : List (List UInt8)) (xv : List UInt8) (hp : inP xs xv) (P : Bool → Prop) (h : P (sconM xs xv)) : sconF xs xv (fun k0 => P k0) := by
  unfold sconM at h
  unfold sconF
  refine ⟨?_, ?_⟩
  · first | exact hp | omega | assumption | exact trivial | (have h0 := List.length_pos_iff.mpr (by assumption); omega) | (simp; omega) | (simp at *; omega)
  exact h
theorem scon_F (xs : List (List UInt8)) (xv : List UInt8) (hp : inP xs xv) : sconF xs xv (fun k0 => k0 = sconM xs xv) :=
  sconF_A xs xv hp (fun z => z = sconM xs xv) rfl
set_option linter.unusedVariables false in
theorem scon_c {g : Ghost} {axs_0 : Option Addr} {cxs_0 : Nat} (xs : List (List UInt8)) (xv : List UInt8) (hRxs_0 : Rep g (.slice (.str)) [.slice axs_0 xs.length cxs_0] xs)  (hp : inP xs xv) : CallsG Tryd.prog 15 #[.slice axs_0 xs.length cxs_0, .string ⟨⟨xv⟩⟩] g (.bool (sconM xs xv)) :=
  (scon_ok xs xv hRxs_0 _ (scon_F xs xv hp)).gives (by rintro g' H' v _ ⟨r0, rfl, rfl, hK⟩; subst hK; rfl)
theorem scon_eq (l : List (List UInt8)) (s : List UInt8) : sconM l s = l.contains s := sidx_con s l 0
def rdimV0 (xs : List UInt8) : Bool :=
  ((((cutS xs).length : Int) != 1) || ((((cutS xs).getD (Int.toNat 0) default).1 != 7) || (!(rinS unitsM ((cutS xs).getD (Int.toNat 0) default).2.2.1))))
def rdimj6 (xs : List UInt8) (K : (Int × List UInt8) → Bool → Prop) : Prop :=
  (((rdimV0 xs)) = true → K (0, ([] : List UInt8)) false) ∧ (((rdimV0 xs)) = false → (0 : Int) ≤ 0 ∧ Int.toNat 0 < (cutS xs).length ∧ K (((cutS xs).getD (Int.toNat 0) default).2.2.2, ((cutS xs).getD (Int.toNat 0) default).2.2.1) true)
def rdimF (xs : List UInt8) (K : (Int × List UInt8) → Bool → Prop) : Prop :=
  cutP xs ∧ (((((cutS xs).length : Int) != 1)) = true → rdimj6 xs K) ∧ (((((cutS xs).length : Int) != 1)) = false → (0 : Int) ≤ 0 ∧ Int.toNat 0 < (cutS xs).length ∧ (((((cutS xs).getD (Int.toNat 0) default).1 != 7)) = true → rdimj6 xs K) ∧ (((((cutS xs).getD (Int.toNat 0) default).1 != 7)) = false → inP unitsM ((cutS xs).getD (Int.toNat 0) default).2.2.1 ∧ rdimj6 xs K))
set_option maxHeartbeats 4000000 in
set_option maxRecDepth 100000 in
set_option linter.unusedVariables false in
theorem rdim_ok {g : Ghost} (xs : List UInt8) (K : (Int × List UInt8) → Bool → Prop)
    (hF : rdimF xs K) : CallsH Tryd.prog 8 #[.string ⟨⟨xs⟩⟩] g [] (fun g' H' v => ∃ (r0 : Int × List UInt8), ∃ (r1 : Bool), v = .tuple #[.agg #[.int .i64 r0.1, .string ⟨⟨r0.2⟩⟩], .bool r1] ∧ H' = [] ∧ K r0 r1) := by
  refine CallsH.enter 36 [(0, .string ⟨⟨xs⟩⟩)] Tryd.func8 rfl (by kernel_rfl) (by kernel_rfl) (by kernel_rfl) fun w0 => ?_
  refine Ok.seq ?_
  refine Ok.region ?_
  refine Ok.op rfl (OpOk.alloc (z := .agg #[.int .i64 0, .string ⟨⟨([] : List UInt8)⟩⟩]) (cs := #[.int .i64 0, .string ⟨⟨([] : List UInt8)⟩⟩]) (by kernel_rfl) (by kernel_rfl) rfl fun b1 => ?_)
  refine Ok.batch 1 [(0, .string ⟨⟨xs⟩⟩), (2, .pointer (some ⟨b1, 0, none⟩))] (by kernel_rfl) ?_
  refine Ok.nil ?_
  refine Ok.thenN ?_
  refine Ok.seq ?_
  refine Ok.region ?_
  refine Ok.batch 1 [(2, .pointer (some ⟨b1, 0, none⟩)), (5, .string ⟨⟨xs⟩⟩)] (by kernel_rfl) ?_
  obtain ⟨hp2, hF⟩ := hF
  refine Ok.op rfl (OpOk.callH [] [.blk b1 (.cells #[.int .i64 0, .string ⟨⟨([] : List UInt8)⟩⟩] 24)] (enters (by kernel_rfl) (fun _ => by kernel_rfl)) rfl (rtoks_c xs hp2) rfl fun g3 _ _ hx3 hV3 => ?_)
  obtain ⟨a3_0, c3_0, rfl, hR3_0, rfl⟩ := hV3
  refine Ok.batch 1 [(2, .pointer (some ⟨b1, 0, none⟩)), (4, .slice a3_0 (cutS xs).length c3_0)] (by kernel_rfl) ?_
  refine Ok.nil ?_
  refine Ok.thenN ?_
  refine Ok.seq ?_
  refine Ok.cut (fun a W => ∃ gj6 : Ghost, Gext w0 g3 gj6 ∧ StA 36 [(2, .pointer (some ⟨b1, 0, none⟩)), (4, .slice a3_0 (cutS xs).length c3_0), (25, .bool (rdimV0 xs))] a ∧ StW w0 [.blk b1 (.cells #[.int .i64 0, .string ⟨⟨([] : List UInt8)⟩⟩] 24)] gj6 W ∧ rdimj6 xs K) ?_ ?_
  ·
    refine Ok.mix [] [] [.blk b1 (.cells #[.int .i64 0, .string ⟨⟨([] : List UInt8)⟩⟩] 24)] [(0, true), (1, true), (2, true), (3, true), (4, true), (5, true), (6, true), (7, true), (8, true), (9, true), (10, true), (12, true), (13, true), (14, true), (15, true), (11, false), (16, false), (17, true), (18, true)] (by kernel_rfl) (by kernel_rfl) (.cons_cons _ .slnil) ?_
    refine OkM.batch 4 [(2, .pointer (some ⟨b1, 0, none⟩)), (4, .slice a3_0 (cutS xs).length c3_0), (10, .bool (((cutS xs).length : Int) != 1))] (by kernel_rfl) ?_
    refine OkM.boolAt 10 ((((cutS xs).length : Int) != 1)) rfl (fun hc8 => ?_) (fun hc8 => ?_)
    · replace hF := hF.1 hc8
      refine OkM.batch 11 [(2, .pointer (some ⟨b1, 0, none⟩)), (4, .slice a3_0 (cutS xs).length c3_0), (17, .bool true), (22, undef)] (by kernel_rfl) ?_
      refine OkM.tailNo (j := 10) (d := 17) (want := false) (b := true) rfl rfl (by kernel_rfl) (by kernel_rfl) rfl rfl (by kernel_rfl) (show _ = [.blk b1 (.cells #[.int .i64 0, .string ⟨⟨([] : List UInt8)⟩⟩] 24)] from rfl) (Gle.refl _) (.cons_cons _ .slnil) ?_
      refine OkM.tailNo (j := 10) (d := 17) (want := false) (b := true) rfl rfl (by kernel_rfl) (by kernel_rfl) rfl rfl (by kernel_rfl) (show _ = [.blk b1 (.cells #[.int .i64 0, .string ⟨⟨([] : List UInt8)⟩⟩] 24)] from rfl) (Gle.refl _) (.cons_cons _ .slnil) ?_
      refine OkM.batch 2 [(2, .pointer (some ⟨b1, 0, none⟩)), (4, .slice a3_0 (cutS xs).length c3_0), (25, .bool true)] (by kernel_rfl) ?_
      refine OkM.nil ?_
      refine Ok.thenN ?_
      refine Ok.reval 25 rfl (show (.bool true : Value) = .bool (rdimV0 xs) from congrArg (Value.bool) (mor_t hc8)) ?_
      exact fun a W hA hW => ⟨g3, (Gext.refl w0 g3), hA.sub (by kernel_rfl), hW, hF⟩
    · replace hF := hF.2 hc8
      refine OkM.batch 1 [(2, .pointer (some ⟨b1, 0, none⟩)), (4, .slice a3_0 (cutS xs).length c3_0), (10, .bool false), (11, .slice a3_0 (cutS xs).length c3_0)] (by kernel_rfl) ?_
      obtain ⟨h010, h110, hF⟩ := hF
      have he10 := get_of (l := (cutS xs)) (default : Int × List UInt8 × List UInt8 × Int) h110
      generalize hg10 : ((cutS xs).getD (Int.toNat 0) default) = e10 at he10 hF ⊢
      refine OkM.headYes (j := 3) (d := 10) (want := false) (b := false) rfl rfl (show _ = [.blk b1 (.cells #[.int .i64 0, .string ⟨⟨([] : List UInt8)⟩⟩] 24)] from rfl) (by kernel_rfl) (by kernel_rfl) rfl (OpQ.indexRo (e := .pair (.int .i64) (.pair (.str) (.pair (.str) (.int .i64)))) (i := 0) (el := e10) rfl rfl Tryd.underlying39 (by kernel_rfl) hR3_0 h010 he10 rfl fun q9 o9 cs9 _ hat9 hr9 => ?_)
      obtain ⟨_, _, rfl, rfl, ⟨_, _, rfl, rfl, ⟨_, _, rfl, rfl, rfl⟩⟩⟩ := hr9
      replace hat9 : At g3 q9 o9 [.int .i64 e10.1, .string ⟨⟨e10.2.1⟩⟩, .string ⟨⟨e10.2.2.1⟩⟩, .int .i64 e10.2.2.2] := hat9
      refine OkM.batch 1 [(2, .pointer (some ⟨b1, 0, none⟩)), (4, .slice a3_0 (cutS xs).length c3_0), (10, .bool false), (13, .pointer (some ⟨q9, o9, none⟩))] (by kernel_rfl) ?_
      refine OkM.headYes (j := 3) (d := 10) (want := false) (b := false) rfl rfl (show _ = [.blk b1 (.cells #[.int .i64 0, .string ⟨⟨([] : List UInt8)⟩⟩] 24)] from rfl) (by kernel_rfl) (by kernel_rfl) rfl (OpQ.step (v := .int .i64 e10.1) (Yields.loadRo 0 hat9 (by kernel_rfl) Tryd.underlying3 rfl (by kernel_rfl)) rfl rfl ?_)
      refine OkM.batch 3 [(2, .pointer (some ⟨b1, 0, none⟩)), (4, .slice a3_0 (cutS xs).length c3_0), (17, .bool (e10.1 != 7))] (by kernel_rfl) ?_
      refine OkM.boolAt 17 ((e10.1 != 7)) rfl (fun hc11 => ?_) (fun hc11 => ?_)
      · replace hF := hF.1 hc11
        refine OkM.batch 4 [(2, .pointer (some ⟨b1, 0, none⟩)), (4, .slice a3_0 (cutS xs).length c3_0), (17, .bool true), (22, undef)] (by kernel_rfl) ?_
        refine OkM.tailNo (j := 10) (d := 17) (want := false) (b := true) rfl rfl (by kernel_rfl) (by kernel_rfl) rfl rfl (by kernel_rfl) (show _ = [.blk b1 (.cells #[.int .i64 0, .string ⟨⟨([] : List UInt8)⟩⟩] 24)] from rfl) (Gle.refl _) (.cons_cons _ .slnil) ?_
        refine OkM.tailNo (j := 10) (d := 17) (want := false) (b := true) rfl rfl (by kernel_rfl) (by kernel_rfl) rfl rfl (by kernel_rfl) (show _ = [.blk b1 (.cells #[.int .i64 0, .string ⟨⟨([] : List UInt8)⟩⟩] 24)] from rfl) (Gle.refl _) (.cons_cons _ .slnil) ?_
        refine OkM.batch 2 [(2, .pointer (some ⟨b1, 0, none⟩)), (4, .slice a3_0 (cutS xs).length c3_0), (25, .bool true)] (by kernel_rfl) ?_
        refine OkM.nil ?_
        refine Ok.thenN ?_
        subst hg10
        refine Ok.reval 25 rfl (show (.bool true : Value) = .bool (rdimV0 xs) from congrArg (Value.bool) ((Eq.trans (mor_t hc11) (mor_f hc8)))) ?_
        exact fun a W hA hW => ⟨g3, (Gext.refl w0 g3), hA.sub (by kernel_rfl), hW, hF⟩
      · replace hF := hF.2 hc11
        refine OkM.batch 1 [(2, .pointer (some ⟨b1, 0, none⟩)), (4, .slice a3_0 (cutS xs).length c3_0), (17, .bool false), (19, .slice a3_0 (cutS xs).length c3_0)] (by kernel_rfl) ?_
        refine OkM.headYes (j := 10) (d := 17) (want := false) (b := false) rfl rfl (show _ = [.blk b1 (.cells #[.int .i64 0, .string ⟨⟨([] : List UInt8)⟩⟩] 24)] from rfl) (by kernel_rfl) (by kernel_rfl) rfl (OpQ.indexRo (e := .pair (.int .i64) (.pair (.str) (.pair (.str) (.int .i64)))) (i := 0) (el := e10) rfl rfl Tryd.underlying39 (by kernel_rfl) hR3_0 h010 he10 rfl fun q12 o12 cs12 _ hat12 hr12 => ?_)
        obtain ⟨_, _, rfl, rfl, ⟨_, _, rfl, rfl, ⟨_, _, rfl, rfl, rfl⟩⟩⟩ := hr12
        replace hat12 : At g3 q12 o12 [.int .i64 e10.1, .string ⟨⟨e10.2.1⟩⟩, .string ⟨⟨e10.2.2.1⟩⟩, .int .i64 e10.2.2.2] := hat12
        refine OkM.batch 1 [(2, .pointer (some ⟨b1, 0, none⟩)), (4, .slice a3_0 (cutS xs).length c3_0), (17, .bool false), (21, .pointer (some ⟨q12, o12 + 2, none⟩))] (by kernel_rfl) ?_
        refine OkM.headYes (j := 10) (d := 17) (want := false) (b := false) rfl rfl (show _ = [.blk b1 (.cells #[.int .i64 0, .string ⟨⟨([] : List UInt8)⟩⟩] 24)] from rfl) (by kernel_rfl) (by kernel_rfl) rfl (OpQ.step (v := .string ⟨⟨e10.2.2.1⟩⟩) (Yields.loadRo 2 hat12 (by kernel_rfl) Tryd.underlying9 rfl (by kernel_rfl)) rfl rfl ?_)
        refine OkM.tailYes (j := 10) (d := 17) (want := false) (b := false) rfl rfl (by kernel_rfl) (by kernel_rfl) rfl (OpOk.callH [] [.blk b1 (.cells #[.int .i64 0, .string ⟨⟨([] : List UInt8)⟩⟩] 24)] (enters (by kernel_rfl) (fun _ => by kernel_rfl)) rfl (units_c ) rfl fun g13 _ _ hx13 hV13 => ?_)
        obtain ⟨a13_0, c13_0, rfl, hR13_0, rfl⟩ := hV13
        replace hR3_0 := hR3_0.mono hx13.1
        refine OkM.leaf (i := 11) (show _ = [.blk b1 (.cells #[.int .i64 0, .string ⟨⟨([] : List UInt8)⟩⟩] 24)] from rfl) hx13.1 (.cons_cons _ .slnil) ?_
        obtain ⟨hp14, hF⟩ := hF
        refine OkM.tailYes (j := 10) (d := 17) (want := false) (b := false) rfl rfl (by kernel_rfl) (by kernel_rfl) rfl (OpOk.callG (v := .bool (rinS unitsM e10.2.2.1)) (enters (by kernel_rfl) (fun _ => by kernel_rfl)) (fun W hW => rin_c unitsM e10.2.2.1 (hR13_0.mono hW.sees) hp14) rfl ?_)
        refine OkM.leaf (i := 16) (show _ = [.blk b1 (.cells #[.int .i64 0, .string ⟨⟨([] : List UInt8)⟩⟩] 24)] from rfl) hx13.1 (.cons_cons _ .slnil) ?_
        refine OkM.batch 2 [(2, .pointer (some ⟨b1, 0, none⟩)), (4, .slice a3_0 (cutS xs).length c3_0), (25, .bool (!(rinS unitsM e10.2.2.1)))] (by kernel_rfl) ?_
        refine OkM.nil ?_
        refine Ok.thenN ?_
        subst hg10
        refine Ok.reval 25 rfl (show (.bool (!(rinS unitsM ((cutS xs).getD (Int.toNat 0) default).2.2.1)) : Value) = .bool (rdimV0 xs) from congrArg (Value.bool) ((Eq.trans (mor_f hc11) (mor_f hc8)))) ?_
        exact fun a W hA hW => ⟨g13, hx13, hA.sub (by kernel_rfl), hW, hF⟩
  ·
    clear hF
    rintro a W ⟨gj6, hxj6, hA, hW, hF⟩
    refine (?_ : Ok _ _ _ _ _ _) a W hA hW
    clear hA hW
    replace hR3_0 := hR3_0.mono hxj6.1
    refine Ok.cond (b := (rdimV0 xs)) rfl (fun hc4 => ?_) (fun hc4 => ?_)
    · replace hF := hF.1 hc4
      refine Ok.seq ?_
      refine Ok.region ?_
      refine Ok.batch 1 [(2, .pointer (some ⟨b1, 0, none⟩)), (26, .agg #[.int .i64 0, .string ⟨⟨([] : List UInt8)⟩⟩])] (by kernel_rfl) ?_
      refine Ok.op rfl (OpOk.store (k := 2) (v := .agg #[.int .i64 0, .string ⟨⟨([] : List UInt8)⟩⟩]) (H' := [.blk b1 (.cells #[.int .i64 0, .string ⟨⟨([] : List UInt8)⟩⟩] 24)]) 0 rfl rfl rfl (by kernel_rfl) (by kernel_rfl) (by kernel_rfl) (by kernel_rfl) (by kernel_rfl) ?_)
      refine Ok.batch 1 [(2, .pointer (some ⟨b1, 0, none⟩)), (3, .bool false)] (by kernel_rfl) ?_
      refine Ok.nil ?_
      refine Ok.thenN ?_
      refine Ok.ret ?_
      refine Ok.thenR ?_
      exact Ok.resP (vs := [.agg #[.int .i64 0, .string ⟨⟨([] : List UInt8)⟩⟩], .bool false]) [] [] (by decide) rfl (.inl rfl) rfl (.cons (.cellAgg 0 2 #[.int .i64 0, .string ⟨⟨([] : List UInt8)⟩⟩] rfl rfl Tryd.underlying24 rfl (by kernel_rfl) (by kernel_rfl) (by kernel_rfl)) (.cons (.tmp rfl) .nil)) (hx3.trans hxj6) ⟨(0, ([] : List UInt8)), false, rfl, rfl, hF⟩
    · replace hF := hF.2 hc4
      refine Ok.skip ?_
      refine Ok.thenN ?_
      refine Ok.seq ?_
      refine Ok.mix [] [] [] [(0, true), (1, true), (2, true), (3, true), (4, true), (5, true), (6, true), (7, true), (8, true), (9, false), (10, true)] (by kernel_rfl) (by kernel_rfl) (.cons _ .slnil) ?_
      refine OkM.batch 1 [(2, .pointer (some ⟨b1, 0, none⟩)), (4, .slice a3_0 (cutS xs).length c3_0), (27, .slice a3_0 (cutS xs).length c3_0)] (by kernel_rfl) ?_
      obtain ⟨h06, h16, hF⟩ := hF
      have he6 := get_of (l := (cutS xs)) (default : Int × List UInt8 × List UInt8 × Int) h16
      generalize hg6 : ((cutS xs).getD (Int.toNat 0) default) = e6 at he6 hF ⊢
      refine OkM.head rfl rfl (show _ = [] from rfl) (OpQ.indexRo (e := .pair (.int .i64) (.pair (.str) (.pair (.str) (.int .i64)))) (i := 0) (el := e6) rfl rfl Tryd.underlying39 (by kernel_rfl) hR3_0 h06 he6 rfl fun q5 o5 cs5 _ hat5 hr5 => ?_)
      obtain ⟨_, _, rfl, rfl, ⟨_, _, rfl, rfl, ⟨_, _, rfl, rfl, rfl⟩⟩⟩ := hr5
      replace hat5 : At gj6 q5 o5 [.int .i64 e6.1, .string ⟨⟨e6.2.1⟩⟩, .string ⟨⟨e6.2.2.1⟩⟩, .int .i64 e6.2.2.2] := hat5
      refine OkM.batch 1 [(2, .pointer (some ⟨b1, 0, none⟩)), (4, .slice a3_0 (cutS xs).length c3_0), (29, .pointer (some ⟨q5, o5 + 3, none⟩))] (by kernel_rfl) ?_
      refine OkM.head rfl rfl (show _ = [] from rfl) (OpQ.step (v := .int .i64 e6.2.2.2) (Yields.loadRo 3 hat5 (by kernel_rfl) Tryd.underlying3 rfl (by kernel_rfl)) rfl rfl ?_)
      refine OkM.batch 1 [(2, .pointer (some ⟨b1, 0, none⟩)), (30, .int .i64 e6.2.2.2), (31, .slice a3_0 (cutS xs).length c3_0)] (by kernel_rfl) ?_
      refine OkM.head rfl rfl (show _ = [] from rfl) (OpQ.indexRo (e := .pair (.int .i64) (.pair (.str) (.pair (.str) (.int .i64)))) (i := 0) (el := e6) rfl rfl Tryd.underlying39 (by kernel_rfl) hR3_0 h06 he6 rfl fun q7 o7 cs7 _ hat7 hr7 => ?_)
      obtain ⟨_, _, rfl, rfl, ⟨_, _, rfl, rfl, ⟨_, _, rfl, rfl, rfl⟩⟩⟩ := hr7
      replace hat7 : At gj6 q7 o7 [.int .i64 e6.1, .string ⟨⟨e6.2.1⟩⟩, .string ⟨⟨e6.2.2.1⟩⟩, .int .i64 e6.2.2.2] := hat7
      refine OkM.batch 1 [(2, .pointer (some ⟨b1, 0, none⟩)), (30, .int .i64 e6.2.2.2), (33, .pointer (some ⟨q7, o7 + 2, none⟩))] (by kernel_rfl) ?_
      refine OkM.head rfl rfl (show _ = [] from rfl) (OpQ.step (v := .string ⟨⟨e6.2.2.1⟩⟩) (Yields.loadRo 2 hat7 (by kernel_rfl) Tryd.underlying9 rfl (by kernel_rfl)) rfl rfl ?_)
      refine OkM.batch 1 [(2, .pointer (some ⟨b1, 0, none⟩)), (35, .agg #[.int .i64 e6.2.2.2, .string ⟨⟨e6.2.2.1⟩⟩])] (by kernel_rfl) ?_
      refine OkM.tail rfl rfl (OpOk.store (k := 2) (v := .agg #[.int .i64 e6.2.2.2, .string ⟨⟨e6.2.2.1⟩⟩]) (H' := [.blk b1 (.cells #[.int .i64 e6.2.2.2, .string ⟨⟨e6.2.2.1⟩⟩] 24)]) 0 rfl rfl rfl (by kernel_rfl) (by kernel_rfl) (by kernel_rfl) (by kernel_rfl) (by kernel_rfl) ?_)
      refine OkM.leaf (i := 9) (show _ = [] from rfl) (Gle.refl _) (.cons _ .slnil) ?_
      refine OkM.batch 1 [(2, .pointer (some ⟨b1, 0, none⟩)), (3, .bool true)] (by kernel_rfl) ?_
      refine OkM.nil ?_
      refine Ok.thenN ?_
      refine Ok.ret ?_
      exact Ok.resP (vs := [.agg #[.int .i64 e6.2.2.2, .string ⟨⟨e6.2.2.1⟩⟩], .bool true]) [] [] (by decide) rfl (.inl rfl) rfl (.cons (.cellAgg 0 2 #[.int .i64 e6.2.2.2, .string ⟨⟨e6.2.2.1⟩⟩] rfl rfl Tryd.underlying24 rfl (by kernel_rfl) (by kernel_rfl) (by kernel_rfl)) (.cons (.tmp rfl) .nil)) (hx3.trans hxj6) ⟨(e6.2.2.2, e6.2.2.1), true, rfl, rfl, hF⟩
def rdimS (s : List UInt8) : (Int × List UInt8) × Bool := if rdimV0 s = true then ((0, []), false) else ((((cutS s).getD (Int.toNat 0) default).2.2.2, ((cutS s).getD (Int.toNat 0) default).2.2.1), true)
theorem one_len {s : List UInt8} (h : ((((cutS s).length : Int) != 1)) = false) : Int.toNat 0 < (cutS s).length := by
  have : (cutS s).length = 1 := by
    simp at h
    omega
  rw [this]; decide
theorem rdim_F (s : List UInt8) (hp : cutP s) : rdimF s (fun a b => (a, b) = rdimS s) := by
  have key : rdimj6 s (fun a b => (a, b) = rdimS s) := by
    refine ⟨fun h => ?_, fun h => ⟨by omega, ?_, ?_⟩⟩
    · unfold rdimS; rw [if_t h]
    · unfold rdimV0 at h
      rw [Bool.or_eq_false_iff] at h
      exact one_len h.1
    · unfold rdimS; rw [if_f h]
  refine ⟨hp, fun _ => key, fun h => ⟨by omega, one_len h, fun _ => key, fun _ => ?_⟩⟩
  first | exact key | exact ⟨by unfold inP; decide, key⟩
set_option linter.unusedVariables false in
theorem rdim_c {g : Ghost} (xs : List UInt8)  (hp : cutP xs) : CallsG Tryd.prog 8 #[.string ⟨⟨xs⟩⟩] g (.tuple #[.agg #[.int .i64 ((rdimS xs).1).1, .string ⟨⟨((rdimS xs).1).2⟩⟩], .bool ((rdimS xs).2)]) :=
  (rdim_ok xs _ (rdim_F xs hp)).gives (by rintro g' H' v _ ⟨r0, r1, rfl, rfl, hK⟩; obtain ⟨rfl, rfl⟩ : r0 = (rdimS xs).1 ∧ r1 = (rdimS xs).2 := ⟨congrArg (fun z => z.1) hK, congrArg (fun z => z.2) hK⟩; rfl)
def DUnits : List (List UInt8) := [[], [112, 120], [101, 109], [114, 101, 109], [118, 119], [118, 104], [37]]
def dreadV0 (xs : List UInt8) : Bool :=
  ((((cutS xs).length : Int) != 1) || ((((cutS xs).getD (Int.toNat 0) default).1 != 7) || (!(sconM DUnits ((cutS xs).getD (Int.toNat 0) default).2.2.1))))
def dreadj6 (xs : List UInt8) (K : (Int × List UInt8) → Int → Prop) : Prop :=
  (((dreadV0 xs)) = true → K (0, ([] : List UInt8)) 4) ∧ (((dreadV0 xs)) = false → (0 : Int) ≤ 0 ∧ Int.toNat 0 < (cutS xs).length ∧ K (((cutS xs).getD (Int.toNat 0) default).2.2.2, ((cutS xs).getD (Int.toNat 0) default).2.2.1) 0)
def dreadF (xs : List UInt8) (K : (Int × List UInt8) → Int → Prop) : Prop :=
  cutP xs ∧ (((((cutS xs).length : Int) != 1)) = true → dreadj6 xs K) ∧ (((((cutS xs).length : Int) != 1)) = false → (0 : Int) ≤ 0 ∧ Int.toNat 0 < (cutS xs).length ∧ (((((cutS xs).getD (Int.toNat 0) default).1 != 7)) = true → dreadj6 xs K) ∧ (((((cutS xs).getD (Int.toNat 0) default).1 != 7)) = false → inP DUnits ((cutS xs).getD (Int.toNat 0) default).2.2.1 ∧ dreadj6 xs K))
set_option maxHeartbeats 4000000 in
set_option maxRecDepth 100000 in
set_option linter.unusedVariables false in
theorem dread_ok {g : Ghost} (xs : List UInt8) (hG0 : Glob g 0 (.slice (.str)) DUnits) (hG1 : SomeInt g 1) (K : (Int × List UInt8) → Int → Prop)
    (hF : dreadF xs K) : CallsH Tryd.prog 7 #[.string ⟨⟨xs⟩⟩] g [] (fun g' H' v => ∃ (r0 : Int × List UInt8), ∃ (r1 : Int), v = .tuple #[.agg #[.int .i64 r0.1, .string ⟨⟨r0.2⟩⟩], .int .i64 r1] ∧ H' = [] ∧ K r0 r1) := by
  refine CallsH.enter 36 [(0, .string ⟨⟨xs⟩⟩)] Tryd.func7 rfl (by kernel_rfl) (by kernel_rfl) (by kernel_rfl) fun w0 => ?_
  refine Ok.seq ?_
  refine Ok.region ?_
  refine Ok.op rfl (OpOk.alloc (z := .agg #[.int .i64 0, .string ⟨⟨([] : List UInt8)⟩⟩]) (cs := #[.int .i64 0, .string ⟨⟨([] : List UInt8)⟩⟩]) (by kernel_rfl) (by kernel_rfl) rfl fun b1 => ?_)
  refine Ok.batch 1 [(0, .string ⟨⟨xs⟩⟩), (2, .pointer (some ⟨b1, 0, none⟩))] (by kernel_rfl) ?_
  refine Ok.nil ?_
  refine Ok.thenN ?_
  refine Ok.seq ?_
  refine Ok.region ?_
  refine Ok.batch 1 [(2, .pointer (some ⟨b1, 0, none⟩)), (5, .string ⟨⟨xs⟩⟩)] (by kernel_rfl) ?_
  obtain ⟨hp2, hF⟩ := hF
  refine Ok.op rfl (OpOk.callH [] [.blk b1 (.cells #[.int .i64 0, .string ⟨⟨([] : List UInt8)⟩⟩] 24)] (enters (by kernel_rfl) (fun _ => by kernel_rfl)) rfl (cut_c xs hG1 hp2) rfl fun g3 _ _ hx3 hV3 => ?_)
  obtain ⟨a3_0, c3_0, rfl, hR3_0, rfl⟩ := hV3
  replace hG0 := hG0.mono hx3.1
  replace hG1 := hG1.mono hx3.1
  refine Ok.batch 1 [(2, .pointer (some ⟨b1, 0, none⟩)), (4, .slice a3_0 (cutS xs).length c3_0)] (by kernel_rfl) ?_
  refine Ok.nil ?_
  refine Ok.thenN ?_
  refine Ok.seq ?_
  refine Ok.cut (fun a W => ∃ gj6 : Ghost, Gext w0 g3 gj6 ∧ StA 36 [(2, .pointer (some ⟨b1, 0, none⟩)), (4, .slice a3_0 (cutS xs).length c3_0), (25, .bool (dreadV0 xs))] a ∧ StW w0 [.blk b1 (.cells #[.int .i64 0, .string ⟨⟨([] : List UInt8)⟩⟩] 24)] gj6 W ∧ dreadj6 xs K) ?_ ?_
  ·
    refine Ok.quiet' (by kernel_rfl) (by kernel_rfl) ?_
    refine OkQ.batch 4 [(2, .pointer (some ⟨b1, 0, none⟩)), (4, .slice a3_0 (cutS xs).length c3_0), (10, .bool (((cutS xs).length : Int) != 1))] (by kernel_rfl) ?_
    refine OkQ.boolAt 10 ((((cutS xs).length : Int) != 1)) rfl (fun hc8 => ?_) (fun hc8 => ?_)
    · replace hF := hF.1 hc8
      refine OkQ.batch 15 [(2, .pointer (some ⟨b1, 0, none⟩)), (4, .slice a3_0 (cutS xs).length c3_0), (25, .bool true)] (by kernel_rfl) ?_
      refine OkQ.nil ?_
      refine Ok.thenN ?_
      refine Ok.reval 25 rfl (show (.bool true : Value) = .bool (dreadV0 xs) from congrArg (Value.bool) (mor_t hc8)) ?_
      exact fun a W hA hW => ⟨g3, (Gext.refl w0 g3), hA.sub (by kernel_rfl), hW, hF⟩
    · replace hF := hF.2 hc8
      refine OkQ.batch 1 [(2, .pointer (some ⟨b1, 0, none⟩)), (4, .slice a3_0 (cutS xs).length c3_0), (10, .bool false), (11, .slice a3_0 (cutS xs).length c3_0)] (by kernel_rfl) ?_
      obtain ⟨h010, h110, hF⟩ := hF
      have he10 := get_of (l := (cutS xs)) (default : Int × List UInt8 × List UInt8 × Int) h110
      generalize hg10 : ((cutS xs).getD (Int.toNat 0) default) = e10 at he10 hF ⊢
      refine OkQ.opYes (j := 3) (d := 10) (want := false) (b := false) rfl (by kernel_rfl) (by kernel_rfl) rfl (OpQ.indexRo (e := .pair (.int .i64) (.pair (.str) (.pair (.str) (.int .i64)))) (i := 0) (el := e10) rfl rfl Tryd.underlying39 (by kernel_rfl) hR3_0 h010 he10 rfl fun q9 o9 cs9 _ hat9 hr9 => ?_)
      obtain ⟨_, _, rfl, rfl, ⟨_, _, rfl, rfl, ⟨_, _, rfl, rfl, rfl⟩⟩⟩ := hr9
      replace hat9 : At g3 q9 o9 [.int .i64 e10.1, .string ⟨⟨e10.2.1⟩⟩, .string ⟨⟨e10.2.2.1⟩⟩, .int .i64 e10.2.2.2] := hat9
      refine OkQ.batch 1 [(2, .pointer (some ⟨b1, 0, none⟩)), (4, .slice a3_0 (cutS xs).length c3_0), (10, .bool false), (13, .pointer (some ⟨q9, o9, none⟩))] (by kernel_rfl) ?_
      refine OkQ.opYes (j := 3) (d := 10) (want := false) (b := false) rfl (by kernel_rfl) (by kernel_rfl) rfl (OpQ.step (v := .int .i64 e10.1) (Yields.loadRo 0 hat9 (by kernel_rfl) Tryd.underlying3 rfl (by kernel_rfl)) rfl rfl ?_)
      refine OkQ.batch 3 [(2, .pointer (some ⟨b1, 0, none⟩)), (4, .slice a3_0 (cutS xs).length c3_0), (17, .bool (e10.1 != 7))] (by kernel_rfl) ?_
      refine OkQ.boolAt 17 ((e10.1 != 7)) rfl (fun hc11 => ?_) (fun hc11 => ?_)
      · replace hF := hF.1 hc11
        refine OkQ.batch 8 [(2, .pointer (some ⟨b1, 0, none⟩)), (4, .slice a3_0 (cutS xs).length c3_0), (25, .bool true)] (by kernel_rfl) ?_
        refine OkQ.nil ?_
        refine Ok.thenN ?_
        subst hg10
        refine Ok.reval 25 rfl (show (.bool true : Value) = .bool (dreadV0 xs) from congrArg (Value.bool) ((Eq.trans (mor_t hc11) (mor_f hc8)))) ?_
        exact fun a W hA hW => ⟨g3, (Gext.refl w0 g3), hA.sub (by kernel_rfl), hW, hF⟩
      · replace hF := hF.2 hc11
        obtain ⟨_, hat12, a12, c12, rfl, hm12, hr12⟩ := id hG0
        have hR12 : Rep g3 (.slice (.str)) [.slice a12 DUnits.length c12] DUnits := ⟨a12, c12, rfl, hm12, hr12⟩
        refine OkQ.opYes (j := 10) (d := 17) (want := false) (b := false) rfl (by kernel_rfl) (by kernel_rfl) rfl (OpQ.step (v := .slice a12 DUnits.length c12) (Yields.loadRo 0 hat12 (by kernel_rfl) Tryd.underlying44 rfl (by kernel_rfl)) rfl rfl ?_)
        refine OkQ.batch 1 [(2, .pointer (some ⟨b1, 0, none⟩)), (4, .slice a3_0 (cutS xs).length c3_0), (17, .bool false), (18, .slice a12 DUnits.length c12), (19, .slice a3_0 (cutS xs).length c3_0)] (by kernel_rfl) ?_
        refine OkQ.opYes (j := 10) (d := 17) (want := false) (b := false) rfl (by kernel_rfl) (by kernel_rfl) rfl (OpQ.indexRo (e := .pair (.int .i64) (.pair (.str) (.pair (.str) (.int .i64)))) (i := 0) (el := e10) rfl rfl Tryd.underlying39 (by kernel_rfl) hR3_0 h010 he10 rfl fun q13 o13 cs13 _ hat13 hr13 => ?_)
        obtain ⟨_, _, rfl, rfl, ⟨_, _, rfl, rfl, ⟨_, _, rfl, rfl, rfl⟩⟩⟩ := hr13
        replace hat13 : At g3 q13 o13 [.int .i64 e10.1, .string ⟨⟨e10.2.1⟩⟩, .string ⟨⟨e10.2.2.1⟩⟩, .int .i64 e10.2.2.2] := hat13
        refine OkQ.batch 1 [(2, .pointer (some ⟨b1, 0, none⟩)), (4, .slice a3_0 (cutS xs).length c3_0), (17, .bool false), (18, .slice a12 DUnits.length c12), (21, .pointer (some ⟨q13, o13 + 2, none⟩))] (by kernel_rfl) ?_
        refine OkQ.opYes (j := 10) (d := 17) (want := false) (b := false) rfl (by kernel_rfl) (by kernel_rfl) rfl (OpQ.step (v := .string ⟨⟨e10.2.2.1⟩⟩) (Yields.loadRo 2 hat13 (by kernel_rfl) Tryd.underlying9 rfl (by kernel_rfl)) rfl rfl ?_)
        obtain ⟨hp14, hF⟩ := hF
        refine OkQ.opYes (j := 10) (d := 17) (want := false) (b := false) rfl (by kernel_rfl) (by kernel_rfl) rfl (OpQ.callG (v := .bool (sconM DUnits e10.2.2.1)) (enters (by kernel_rfl) (fun _ => by kernel_rfl)) (fun W hW => scon_c DUnits e10.2.2.1 (hR12.mono hW.sees) hp14) rfl ?_)
        refine OkQ.batch 2 [(2, .pointer (some ⟨b1, 0, none⟩)), (4, .slice a3_0 (cutS xs).length c3_0), (25, .bool (!(sconM DUnits e10.2.2.1)))] (by kernel_rfl) ?_
        refine OkQ.nil ?_
        refine Ok.thenN ?_
        subst hg10
        refine Ok.reval 25 rfl (show (.bool (!(sconM DUnits ((cutS xs).getD (Int.toNat 0) default).2.2.1)) : Value) = .bool (dreadV0 xs) from congrArg (Value.bool) ((Eq.trans (mor_f hc11) (mor_f hc8)))) ?_
        exact fun a W hA hW => ⟨g3, (Gext.refl w0 g3), hA.sub (by kernel_rfl), hW, hF⟩
  ·
    clear hF
    rintro a W ⟨gj6, hxj6, hA, hW, hF⟩
    refine (?_ : Ok _ _ _ _ _ _) a W hA hW
    clear hA hW
    replace hR3_0 := hR3_0.mono hxj6.1
    replace hG0 := hG0.mono hxj6.1
    replace hG1 := hG1.mono hxj6.1
    refine Ok.cond (b := (dreadV0 xs)) rfl (fun hc4 => ?_) (fun hc4 => ?_)
    · replace hF := hF.1 hc4
      refine Ok.seq ?_
      refine Ok.region ?_
      refine Ok.batch 1 [(2, .pointer (some ⟨b1, 0, none⟩)), (26, .agg #[.int .i64 0, .string ⟨⟨([] : List UInt8)⟩⟩])] (by kernel_rfl) ?_
      refine Ok.op rfl (OpOk.store (k := 2) (v := .agg #[.int .i64 0, .string ⟨⟨([] : List UInt8)⟩⟩]) (H' := [.blk b1 (.cells #[.int .i64 0, .string ⟨⟨([] : List UInt8)⟩⟩] 24)]) 0 rfl rfl rfl (by kernel_rfl) (by kernel_rfl) (by kernel_rfl) (by kernel_rfl) (by kernel_rfl) ?_)
      refine Ok.batch 1 [(2, .pointer (some ⟨b1, 0, none⟩)), (3, .int .i64 4)] (by kernel_rfl) ?_
      refine Ok.nil ?_
      refine Ok.thenN ?_
      refine Ok.ret ?_
      refine Ok.thenR ?_
      exact Ok.resP (vs := [.agg #[.int .i64 0, .string ⟨⟨([] : List UInt8)⟩⟩], .int .i64 4]) [] [] (by decide) rfl (.inl rfl) rfl (.cons (.cellAgg 0 2 #[.int .i64 0, .string ⟨⟨([] : List UInt8)⟩⟩] rfl rfl Tryd.underlying24 rfl (by kernel_rfl) (by kernel_rfl) (by kernel_rfl)) (.cons (.tmp rfl) .nil)) (hx3.trans hxj6) ⟨(0, ([] : List UInt8)), 4, rfl, rfl, hF⟩
    · replace hF := hF.2 hc4
      refine Ok.skip ?_
      refine Ok.thenN ?_
      refine Ok.seq ?_
      refine Ok.mix [] [] [] [(0, true), (1, true), (2, true), (3, true), (4, true), (5, true), (6, true), (7, true), (8, true), (9, false), (10, true)] (by kernel_rfl) (by kernel_rfl) (.cons _ .slnil) ?_
      refine OkM.batch 1 [(2, .pointer (some ⟨b1, 0, none⟩)), (4, .slice a3_0 (cutS xs).length c3_0), (27, .slice a3_0 (cutS xs).length c3_0)] (by kernel_rfl) ?_
      obtain ⟨h06, h16, hF⟩ := hF
      have he6 := get_of (l := (cutS xs)) (default : Int × List UInt8 × List UInt8 × Int) h16
      generalize hg6 : ((cutS xs).getD (Int.toNat 0) default) = e6 at he6 hF ⊢
      refine OkM.head rfl rfl (show _ = [] from rfl) (OpQ.indexRo (e := .pair (.int .i64) (.pair (.str) (.pair (.str) (.int .i64)))) (i := 0) (el := e6) rfl rfl Tryd.underlying39 (by kernel_rfl) hR3_0 h06 he6 rfl fun q5 o5 cs5 _ hat5 hr5 => ?_)
      obtain ⟨_, _, rfl, rfl, ⟨_, _, rfl, rfl, ⟨_, _, rfl, rfl, rfl⟩⟩⟩ := hr5
      replace hat5 : At gj6 q5 o5 [.int .i64 e6.1, .string ⟨⟨e6.2.1⟩⟩, .string ⟨⟨e6.2.2.1⟩⟩, .int .i64 e6.2.2.2] := hat5
      refine OkM.batch 1 [(2, .pointer (some ⟨b1, 0, none⟩)), (4, .slice a3_0 (cutS xs).length c3_0), (29, .pointer (some ⟨q5, o5 + 3, none⟩))] (by kernel_rfl) ?_
      refine OkM.head rfl rfl (show _ = [] from rfl) (OpQ.step (v := .int .i64 e6.2.2.2) (Yields.loadRo 3 hat5 (by kernel_rfl) Tryd.underlying3 rfl (by kernel_rfl)) rfl rfl ?_)
      refine OkM.batch 1 [(2, .pointer (some ⟨b1, 0, none⟩)), (30, .int .i64 e6.2.2.2), (31, .slice a3_0 (cutS xs).length c3_0)] (by kernel_rfl) ?_
      refine OkM.head rfl rfl (show _ = [] from rfl) (OpQ.indexRo (e := .pair (.int .i64) (.pair (.str) (.pair (.str) (.int .i64)))) (i := 0) (el := e6) rfl rfl Tryd.underlying39 (by kernel_rfl) hR3_0 h06 he6 rfl fun q7 o7 cs7 _ hat7 hr7 => ?_)
      obtain ⟨_, _, rfl, rfl, ⟨_, _, rfl, rfl, ⟨_, _, rfl, rfl, rfl⟩⟩⟩ := hr7
      replace hat7 : At gj6 q7 o7 [.int .i64 e6.1, .string ⟨⟨e6.2.1⟩⟩, .string ⟨⟨e6.2.2.1⟩⟩, .int .i64 e6.2.2.2] := hat7
      refine OkM.batch 1 [(2, .pointer (some ⟨b1, 0, none⟩)), (30, .int .i64 e6.2.2.2), (33, .pointer (some ⟨q7, o7 + 2, none⟩))] (by kernel_rfl) ?_
      refine OkM.head rfl rfl (show _ = [] from rfl) (OpQ.step (v := .string ⟨⟨e6.2.2.1⟩⟩) (Yields.loadRo 2 hat7 (by kernel_rfl) Tryd.underlying9 rfl (by kernel_rfl)) rfl rfl ?_)
      refine OkM.batch 1 [(2, .pointer (some ⟨b1, 0, none⟩)), (35, .agg #[.int .i64 e6.2.2.2, .string ⟨⟨e6.2.2.1⟩⟩])] (by kernel_rfl) ?_
      refine OkM.tail rfl rfl (OpOk.store (k := 2) (v := .agg #[.int .i64 e6.2.2.2, .string ⟨⟨e6.2.2.1⟩⟩]) (H' := [.blk b1 (.cells #[.int .i64 e6.2.2.2, .string ⟨⟨e6.2.2.1⟩⟩] 24)]) 0 rfl rfl rfl (by kernel_rfl) (by kernel_rfl) (by kernel_rfl) (by kernel_rfl) (by kernel_rfl) ?_)
      refine OkM.leaf (i := 9) (show _ = [] from rfl) (Gle.refl _) (.cons _ .slnil) ?_
      refine OkM.batch 1 [(2, .pointer (some ⟨b1, 0, none⟩)), (3, .int .i64 0)] (by kernel_rfl) ?_
      refine OkM.nil ?_
      refine Ok.thenN ?_
      refine Ok.ret ?_
      exact Ok.resP (vs := [.agg #[.int .i64 e6.2.2.2, .string ⟨⟨e6.2.2.1⟩⟩], .int .i64 0]) [] [] (by decide) rfl (.inl rfl) rfl (.cons (.cellAgg 0 2 #[.int .i64 e6.2.2.2, .string ⟨⟨e6.2.2.1⟩⟩] rfl rfl Tryd.underlying24 rfl (by kernel_rfl) (by kernel_rfl) (by kernel_rfl)) (.cons (.tmp rfl) .nil)) (hx3.trans hxj6) ⟨(e6.2.2.2, e6.2.2.1), 0, rfl, rfl, hF⟩
def dreadS (s : List UInt8) : (Int × List UInt8) × Int := if dreadV0 s = true then ((0, []), 4) else ((((cutS s).getD (Int.toNat 0) default).2.2.2, ((cutS s).getD (Int.toNat 0) default).2.2.1), 0)
theorem dread_F (s : List UInt8) (hp : cutP s) : dreadF s (fun a b => (a, b) = dreadS s) := by
  have key : dreadj6 s (fun a b => (a, b) = dreadS s) := by
    refine ⟨fun h => ?_, fun h => ⟨by omega, ?_, ?_⟩⟩
    · unfold dreadS; rw [if_t h]
    · unfold dreadV0 at h
      rw [Bool.or_eq_false_iff] at h
      exact one_len h.1
    · unfold dreadS; rw [if_f h]
  refine ⟨hp, fun _ => key, fun h => ⟨by omega, one_len h, fun _ => key, fun _ => ?_⟩⟩
  first | exact key | exact ⟨by unfold inP; decide, key⟩
set_option linter.unusedVariables false in
theorem dread_c {g : Ghost} (xs : List UInt8) (hG0 : Glob g 0 (.slice (.str)) DUnits) (hG1 : SomeInt g 1)  (hp : cutP xs) : CallsG Tryd.prog 7 #[.string ⟨⟨xs⟩⟩] g (.tuple #[.agg #[.int .i64 ((dreadS xs).1).1, .string ⟨⟨((dreadS xs).1).2⟩⟩], .int .i64 ((dreadS xs).2)]) :=
  (dread_ok xs hG0 hG1 _ (dread_F xs hp)).gives (by rintro g' H' v _ ⟨r0, r1, rfl, rfl, hK⟩; obtain ⟨rfl, rfl⟩ : r0 = (dreadS xs).1 ∧ r1 = (dreadS xs).2 := ⟨congrArg (fun z => z.1) hK, congrArg (fun z => z.2) hK⟩; rfl)
def halfV0 : Bool :=
  ((((dreadS ([49, 46, 53, 48, 101, 109] : List UInt8)).2) == 0) && ([((((dreadS ([49, 46, 53, 48, 101, 109] : List UInt8)).1).1) == 1500), ((((dreadS ([49, 46, 53, 48, 101, 109] : List UInt8)).1).2) == ([101, 109] : List UInt8))].all id))
def halfj5 (K : Bool → Prop) : Prop :=
  K halfV0
def halfF (K : Bool → Prop) : Prop :=
  cutP ([49, 46, 53, 48, 101, 109] : List UInt8) ∧ (((((dreadS ([49, 46, 53, 48, 101, 109] : List UInt8)).2) == 0)) = true → halfj5 K) ∧ (((((dreadS ([49, 46, 53, 48, 101, 109] : List UInt8)).2) == 0)) = false → halfj5 K)
set_option maxHeartbeats 4000000 in
set_option maxRecDepth 100000 in
set_option linter.unusedVariables false in
theorem half_ok {g : Ghost}  (hG0 : Glob g 0 (.slice (.str)) DUnits) (hG1 : SomeInt g 1) (K : Bool → Prop)
    (hF : halfF K) : CallsH Tryd.prog 6 #[] g [] (fun g' H' v => ∃ (r0 : Bool), v = .bool r0 ∧ H' = [] ∧ K r0) := by
  refine CallsH.enter 14 [] Tryd.func6 rfl (by kernel_rfl) (by kernel_rfl) (by kernel_rfl) fun w0 => ?_
  refine Ok.seq ?_
  refine Ok.region ?_
  refine Ok.batch 1 [] (by kernel_rfl) ?_
  refine Ok.nil ?_
  refine Ok.thenN ?_
  refine Ok.seq ?_
  refine Ok.region ?_
  obtain ⟨hp1, hF⟩ := hF
  refine Ok.op rfl (OpOk.callG (v := .tuple #[.agg #[.int .i64 (((dreadS ([49, 46, 53, 48, 101, 109] : List UInt8)).1).1), .string ⟨⟨((dreadS ([49, 46, 53, 48, 101, 109] : List UInt8)).1).2⟩⟩], .int .i64 ((dreadS ([49, 46, 53, 48, 101, 109] : List UInt8)).2)]) (enters (by kernel_rfl) (fun _ => by kernel_rfl)) (fun W hW => dread_c ([49, 46, 53, 48, 101, 109] : List UInt8) (hG0.mono hW.sees) (hG1.mono hW.sees) hp1) rfl ?_)
  refine Ok.batch 3 [(5, .agg #[.int .i64 (((dreadS ([49, 46, 53, 48, 101, 109] : List UInt8)).1).1), .string ⟨⟨((dreadS ([49, 46, 53, 48, 101, 109] : List UInt8)).1).2⟩⟩]), (6, .int .i64 ((dreadS ([49, 46, 53, 48, 101, 109] : List UInt8)).2))] (by kernel_rfl) ?_
  refine Ok.op rfl (OpOk.alloc (z := .agg #[.int .i64 0, .string ⟨⟨([] : List UInt8)⟩⟩]) (cs := #[.int .i64 0, .string ⟨⟨([] : List UInt8)⟩⟩]) (by kernel_rfl) (by kernel_rfl) rfl fun b2 => ?_)
  refine Ok.op rfl (OpOk.store (k := 2) (v := .agg #[.int .i64 (((dreadS ([49, 46, 53, 48, 101, 109] : List UInt8)).1).1), .string ⟨⟨((dreadS ([49, 46, 53, 48, 101, 109] : List UInt8)).1).2⟩⟩]) (H' := [.blk b2 (.cells #[.int .i64 (((dreadS ([49, 46, 53, 48, 101, 109] : List UInt8)).1).1), .string ⟨⟨((dreadS ([49, 46, 53, 48, 101, 109] : List UInt8)).1).2⟩⟩] 24)]) 0 rfl rfl rfl (by kernel_rfl) (by kernel_rfl) (by kernel_rfl) (by kernel_rfl) (by kernel_rfl) ?_)
  refine Ok.batch 1 [(1, .pointer (some ⟨b2, 0, none⟩)), (2, .int .i64 ((dreadS ([49, 46, 53, 48, 101, 109] : List UInt8)).2))] (by kernel_rfl) ?_
  refine Ok.nil ?_
  refine Ok.thenN ?_
  refine Ok.cut (fun a W => StA 14 [(0, .bool halfV0)] a ∧ StW w0 [] g W ∧ halfj5 K) ?_ ?_
  ·
    refine Ok.region ?_
    refine Ok.batch 3 [(1, .pointer (some ⟨b2, 0, none⟩)), (9, .bool (((dreadS ([49, 46, 53, 48, 101, 109] : List UInt8)).2) == 0))] (by kernel_rfl) ?_
    refine Ok.boolAt 9 ((((dreadS ([49, 46, 53, 48, 101, 109] : List UInt8)).2) == 0)) rfl (fun hc3 => ?_) (fun hc3 => ?_)
    · replace hF := hF.1 hc3
      refine Ok.opYes (j := 2) (d := 9) (want := true) (b := true) rfl (by kernel_rfl) (by kernel_rfl) rfl (OpOk.step (v := .agg #[.int .i64 (((dreadS ([49, 46, 53, 48, 101, 109] : List UInt8)).1).1), .string ⟨⟨((dreadS ([49, 46, 53, 48, 101, 109] : List UInt8)).1).2⟩⟩]) (Yields.loadAgg 0 2 #[.int .i64 (((dreadS ([49, 46, 53, 48, 101, 109] : List UInt8)).1).1), .string ⟨⟨((dreadS ([49, 46, 53, 48, 101, 109] : List UInt8)).1).2⟩⟩] rfl rfl Tryd.underlying24 rfl (by kernel_rfl) (by kernel_rfl) (by kernel_rfl)) rfl rfl ?_)
      refine Ok.batch 1 [(9, .bool true), (10, .agg #[.int .i64 (((dreadS ([49, 46, 53, 48, 101, 109] : List UInt8)).1).1), .string ⟨⟨((dreadS ([49, 46, 53, 48, 101, 109] : List UInt8)).1).2⟩⟩]), (11, .agg #[.int .i64 1500, .string ⟨⟨([101, 109] : List UInt8)⟩⟩])] (by kernel_rfl) ?_
      refine Ok.opYes (j := 2) (d := 9) (want := true) (b := true) rfl (by kernel_rfl) (by kernel_rfl) rfl (OpOk.step (v := .bool ([((((dreadS ([49, 46, 53, 48, 101, 109] : List UInt8)).1).1) == 1500), ((((dreadS ([49, 46, 53, 48, 101, 109] : List UInt8)).1).2) == ([101, 109] : List UInt8))].all id)) (Yields.eqAgg (k := 2) rfl rfl (.struct (k := 1) Tryd.underlying24 (by kernel_rfl) ⟨by decide, ⟨.int .i64 (((dreadS ([49, 46, 53, 48, 101, 109] : List UInt8)).1).1), .int .i64 1500, fun _ => by kernel_rfl, fun _ => by kernel_rfl, EqR.mono (k := 1) (.int Tryd.underlying3) (by decide)⟩, ⟨by decide, ⟨.string ⟨⟨((dreadS ([49, 46, 53, 48, 101, 109] : List UInt8)).1).2⟩⟩, .string ⟨⟨([101, 109] : List UInt8)⟩⟩, fun _ => by kernel_rfl, fun _ => by kernel_rfl, EqR.mono (k := 1) (.str Tryd.underlying9) (by decide)⟩, trivial⟩⟩) rfl (by kernel_rfl)) rfl rfl ?_)
      refine Ok.batch 2 [(0, .bool ([((((dreadS ([49, 46, 53, 48, 101, 109] : List UInt8)).1).1) == 1500), ((((dreadS ([49, 46, 53, 48, 101, 109] : List UInt8)).1).2) == ([101, 109] : List UInt8))].all id))] (by kernel_rfl) ?_
      refine Ok.nil ?_
      refine Ok.thenN ?_
      refine Ok.reval 0 rfl (show (.bool ([((((dreadS ([49, 46, 53, 48, 101, 109] : List UInt8)).1).1) == 1500), ((((dreadS ([49, 46, 53, 48, 101, 109] : List UInt8)).1).2) == ([101, 109] : List UInt8))].all id) : Value) = .bool halfV0 from congrArg (Value.bool) (mand_t hc3)) ?_
      exact fun a W hA hW => ⟨hA.sub (by kernel_rfl), hW.sub (.cons _ .slnil), hF⟩
    · replace hF := hF.2 hc3
      refine Ok.batch 5 [(0, .bool false)] (by kernel_rfl) ?_
      refine Ok.nil ?_
      refine Ok.thenN ?_
      refine Ok.reval 0 rfl (show (.bool false : Value) = .bool halfV0 from congrArg (Value.bool) (mand_f hc3)) ?_
      exact fun a W hA hW => ⟨hA.sub (by kernel_rfl), hW.sub (.cons _ .slnil), hF⟩
  ·
    clear hF
    rintro a W ⟨hA, hW, hF⟩
    refine (?_ : Ok _ _ _ _ _ _) a W hA hW
    clear hA hW
    refine Ok.ret ?_
    exact Ok.resH (vs := [.bool halfV0]) (.inl rfl) rfl (.cons (.tmp rfl) .nil) (Gext.refl w0 g) ⟨halfV0, rfl, rfl, hF⟩
theorem half_known : dreadS [49, 46, 53, 48, 101, 109] = ((1500, [101, 109]), 0) := by decide +kernel
theorem half_F : halfF (fun r => r = true) := by
  have key : halfj5 (fun r => r = true) := by
    unfold halfj5 halfV0
    rw [half_known]; rfl
  exact ⟨by unfold cutP; decide, fun _ => key, fun _ => key⟩
set_option linter.unusedVariables false in
theorem half_c {g : Ghost}  (hG0 : Glob g 0 (.slice (.str)) DUnits) (hG1 : SomeInt g 1)  : CallsG Tryd.prog 6 #[] g (.bool true) :=
  (half_ok  hG0 hG1 _ (half_F )).gives (by rintro g' H' v _ ⟨r0, rfl, rfl, hK⟩; subst hK; rfl)
def lpxF (xd : Int × List UInt8) (xk : Int × Int × Int × Int) (K : Bool → Prop) : Prop :=
  K ((true && (((dpxM xd xk).1) == ((rpxM xd xk).1))) && (((dpxM xd xk).2) == ((rpxM xd xk).2)))
set_option maxHeartbeats 4000000 in
set_option maxRecDepth 100000 in
set_option linter.unusedVariables false in
theorem lpx_ok {g : Ghost} (xd : Int × List UInt8) (xk : Int × Int × Int × Int) (hG0 : Glob g 0 (.slice (.str)) DUnits) (hG1 : SomeInt g 1) (K : Bool → Prop)
    (hF : lpxF xd xk K) : CallsH Tryd.prog 5 #[.agg #[.int .i64 xd.1, .string ⟨⟨xd.2⟩⟩], .agg #[.int .i64 xk.1, .int .i64 xk.2.1, .int .i64 xk.2.2.1, .int .i64 xk.2.2.2]] g [] (fun g' H' v => ∃ (r0 : Bool), v = .bool r0 ∧ H' = [] ∧ K r0) := by
  refine CallsH.enter 34 [(0, .agg #[.int .i64 xd.1, .string ⟨⟨xd.2⟩⟩]), (1, .agg #[.int .i64 xk.1, .int .i64 xk.2.1, .int .i64 xk.2.2.1, .int .i64 xk.2.2.2])] Tryd.func5 rfl (by kernel_rfl) (by kernel_rfl) (by kernel_rfl) fun w0 => ?_
  refine Ok.seq ?_
  refine Ok.region ?_
  refine Ok.op rfl (OpOk.box (v := .agg #[.int .i64 xd.1, .string ⟨⟨xd.2⟩⟩]) (cs := #[.int .i64 xd.1, .string ⟨⟨xd.2⟩⟩]) rfl (by kernel_rfl) rfl fun b1 => ?_)
  refine Ok.op rfl (OpOk.box (v := .agg #[.int .i64 xk.1, .int .i64 xk.2.1, .int .i64 xk.2.2.1, .int .i64 xk.2.2.2]) (cs := #[.int .i64 xk.1, .int .i64 xk.2.1, .int .i64 xk.2.2.1, .int .i64 xk.2.2.2]) rfl (by kernel_rfl) rfl fun b2 => ?_)
  refine Ok.batch 1 [(2, .pointer (some ⟨b1, 0, none⟩)), (3, .pointer (some ⟨b2, 0, none⟩))] (by kernel_rfl) ?_
  refine Ok.nil ?_
  refine Ok.thenN ?_
  refine Ok.seq ?_
  refine Ok.region ?_
  refine Ok.op rfl (OpOk.callG (v := .bool true) (enters (by kernel_rfl) (fun _ => by kernel_rfl)) (fun W hW => half_c  (hG0.mono hW.sees) (hG1.mono hW.sees)) rfl ?_)
  refine Ok.batch 1 [(2, .pointer (some ⟨b1, 0, none⟩)), (3, .pointer (some ⟨b2, 0, none⟩)), (5, .bool true)] (by kernel_rfl) ?_
  refine Ok.nil ?_
  refine Ok.thenN ?_
  refine Ok.seq ?_
  refine Ok.region ?_
  refine Ok.op rfl (OpOk.step (v := .agg #[.int .i64 xd.1, .string ⟨⟨xd.2⟩⟩]) (Yields.loadAgg 1 2 #[.int .i64 xd.1, .string ⟨⟨xd.2⟩⟩] rfl rfl Tryd.underlying24 rfl (by kernel_rfl) (by kernel_rfl) (by kernel_rfl)) rfl rfl ?_)
  refine Ok.op rfl (OpOk.step (v := .agg #[.int .i64 xk.1, .int .i64 xk.2.1, .int .i64 xk.2.2.1, .int .i64 xk.2.2.2]) (Yields.loadAgg 0 4 #[.int .i64 xk.1, .int .i64 xk.2.1, .int .i64 xk.2.2.1, .int .i64 xk.2.2.2] rfl rfl Tryd.underlying35 rfl (by kernel_rfl) (by kernel_rfl) (by kernel_rfl)) rfl rfl ?_)
  refine Ok.op rfl (OpOk.callG (v := .tuple #[.int .i64 ((dpxM xd xk).1), .int .i64 ((dpxM xd xk).2)]) (enters (by kernel_rfl) (fun _ => by kernel_rfl)) (fun W hW => dpx_c xd xk) rfl ?_)
  refine Ok.batch 5 [(2, .pointer (some ⟨b1, 0, none⟩)), (3, .pointer (some ⟨b2, 0, none⟩)), (5, .bool true), (6, .int .i64 ((dpxM xd xk).1)), (7, .int .i64 ((dpxM xd xk).2))] (by kernel_rfl) ?_
  refine Ok.nil ?_
  refine Ok.thenN ?_
  refine Ok.seq ?_
  refine Ok.region ?_
  refine Ok.op rfl (OpOk.step (v := .agg #[.int .i64 xd.1, .string ⟨⟨xd.2⟩⟩]) (Yields.loadAgg 1 2 #[.int .i64 xd.1, .string ⟨⟨xd.2⟩⟩] rfl rfl Tryd.underlying24 rfl (by kernel_rfl) (by kernel_rfl) (by kernel_rfl)) rfl rfl ?_)
  refine Ok.op rfl (OpOk.step (v := .agg #[.int .i64 xk.1, .int .i64 xk.2.1, .int .i64 xk.2.2.1, .int .i64 xk.2.2.2]) (Yields.loadAgg 0 4 #[.int .i64 xk.1, .int .i64 xk.2.1, .int .i64 xk.2.2.1, .int .i64 xk.2.2.2] rfl rfl Tryd.underlying35 rfl (by kernel_rfl) (by kernel_rfl) (by kernel_rfl)) rfl rfl ?_)
  refine Ok.op rfl (OpOk.callG (v := .tuple #[.int .i64 ((rpxM xd xk).1), .int .i64 ((rpxM xd xk).2)]) (enters (by kernel_rfl) (fun _ => by kernel_rfl)) (fun W hW => rpx_c xd xk) rfl ?_)
  refine Ok.batch 5 [(5, .bool true), (6, .int .i64 ((dpxM xd xk).1)), (7, .int .i64 ((dpxM xd xk).2)), (8, .int .i64 ((rpxM xd xk).1)), (9, .int .i64 ((rpxM xd xk).2))] (by kernel_rfl) ?_
  refine Ok.nil ?_
  refine Ok.thenN ?_
  refine Ok.seq ?_
  refine Ok.region ?_
  refine Ok.batch 2 [(6, .int .i64 ((dpxM xd xk).1)), (7, .int .i64 ((dpxM xd xk).2)), (8, .int .i64 ((rpxM xd xk).1)), (9, .int .i64 ((rpxM xd xk).2)), (24, .bool true)] (by kernel_rfl) ?_
  refine Ok.midway 4 [(7, .int .i64 ((dpxM xd xk).2)), (9, .int .i64 ((rpxM xd xk).2)), (28, .bool (true && (((dpxM xd xk).1) == ((rpxM xd xk).1))))] (fun hR3 => ?_) ?_
  · refine Ok.boolAt 24 (true) rfl (fun hc4 => ?_) (fun hc4 => ?_)
    · skip
      refine Ok.batch 4 [(7, .int .i64 ((dpxM xd xk).2)), (9, .int .i64 ((rpxM xd xk).2)), (28, .bool (((dpxM xd xk).1) == ((rpxM xd xk).1)))] (by kernel_rfl) ?_
      refine Ok.reval 28 rfl (show (.bool (((dpxM xd xk).1) == ((rpxM xd xk).1)) : Value) = .bool (true && (((dpxM xd xk).1) == ((rpxM xd xk).1))) from congrArg Value.bool (mand_t hc4)) ?_
      refine Ok.batch 0 [(7, .int .i64 ((dpxM xd xk).2)), (9, .int .i64 ((rpxM xd xk).2)), (28, .bool (true && (((dpxM xd xk).1) == ((rpxM xd xk).1))))] (by kernel_rfl) ?_
      exact hR3
    · skip
      refine Ok.batch 4 [(7, .int .i64 ((dpxM xd xk).2)), (9, .int .i64 ((rpxM xd xk).2)), (28, .bool false)] (by kernel_rfl) ?_
      refine Ok.reval 28 rfl (show (.bool false : Value) = .bool (true && (((dpxM xd xk).1) == ((rpxM xd xk).1))) from congrArg Value.bool (mand_f hc4)) ?_
      refine Ok.batch 0 [(7, .int .i64 ((dpxM xd xk).2)), (9, .int .i64 ((rpxM xd xk).2)), (28, .bool (true && (((dpxM xd xk).1) == ((rpxM xd xk).1))))] (by kernel_rfl) ?_
      exact hR3
  refine Ok.batch 1 [(7, .int .i64 ((dpxM xd xk).2)), (9, .int .i64 ((rpxM xd xk).2)), (29, .bool (true && (((dpxM xd xk).1) == ((rpxM xd xk).1))))] (by kernel_rfl) ?_
  refine Ok.midway 4 [(33, .bool ((true && (((dpxM xd xk).1) == ((rpxM xd xk).1))) && (((dpxM xd xk).2) == ((rpxM xd xk).2))))] (fun hR5 => ?_) ?_
  · refine Ok.boolAt 29 ((true && (((dpxM xd xk).1) == ((rpxM xd xk).1)))) rfl (fun hc6 => ?_) (fun hc6 => ?_)
    · skip
      refine Ok.batch 4 [(33, .bool (((dpxM xd xk).2) == ((rpxM xd xk).2)))] (by kernel_rfl) ?_
      refine Ok.reval 33 rfl (show (.bool (((dpxM xd xk).2) == ((rpxM xd xk).2)) : Value) = .bool ((true && (((dpxM xd xk).1) == ((rpxM xd xk).1))) && (((dpxM xd xk).2) == ((rpxM xd xk).2))) from congrArg Value.bool (mand_t hc6)) ?_
      refine Ok.batch 0 [(33, .bool ((true && (((dpxM xd xk).1) == ((rpxM xd xk).1))) && (((dpxM xd xk).2) == ((rpxM xd xk).2))))] (by kernel_rfl) ?_
      exact hR5
    · skip
      refine Ok.batch 4 [(33, .bool false)] (by kernel_rfl) ?_
      refine Ok.reval 33 rfl (show (.bool false : Value) = .bool ((true && (((dpxM xd xk).1) == ((rpxM xd xk).1))) && (((dpxM xd xk).2) == ((rpxM xd xk).2))) from congrArg Value.bool (mand_f hc6)) ?_
      refine Ok.batch 0 [(33, .bool ((true && (((dpxM xd xk).1) == ((rpxM xd xk).1))) && (((dpxM xd xk).2) == ((rpxM xd xk).2))))] (by kernel_rfl) ?_
      exact hR5
  refine Ok.batch 1 [(4, .bool ((true && (((dpxM xd xk).1) == ((rpxM xd xk).1))) && (((dpxM xd xk).2) == ((rpxM xd xk).2))))] (by kernel_rfl) ?_
  refine Ok.nil ?_
  refine Ok.thenN ?_
  refine Ok.ret ?_
  exact Ok.resP (vs := [.bool ((true && (((dpxM xd xk).1) == ((rpxM xd xk).1))) && (((dpxM xd xk).2) == ((rpxM xd xk).2)))]) [] [] (by decide) rfl (.inl rfl) rfl (.cons (.tmp rfl) .nil) (Gext.refl w0 g) ⟨((true && (((dpxM xd xk).1) == ((rpxM xd xk).1))) && (((dpxM xd xk).2) == ((rpxM xd xk).2))), rfl, rfl, hF⟩
theorem lpx_F (d : Int × List UInt8) (k : Int × Int × Int × Int) : lpxF d k (fun r => r = true) := by
  unfold lpxF
  rw [px_eq]
  simp
set_option linter.unusedVariables false in
theorem lpx_c {g : Ghost} (xd : Int × List UInt8) (xk : Int × Int × Int × Int) (hG0 : Glob g 0 (.slice (.str)) DUnits) (hG1 : SomeInt g 1)  : CallsG Tryd.prog 5 #[.agg #[.int .i64 xd.1, .string ⟨⟨xd.2⟩⟩], .agg #[.int .i64 xk.1, .int .i64 xk.2.1, .int .i64 xk.2.2.1, .int .i64 xk.2.2.2]] g (.bool ((fun _ _ => true) xd xk)) :=
  (lpx_ok xd xk hG0 hG1 _ (lpx_F xd xk)).gives (by rintro g' H' v _ ⟨r0, rfl, rfl, hK⟩; subst hK; rfl)
def lreadV0 (xs : List UInt8) : Bool :=
  (true && ((([((((dreadS xs).1).1) == (((rdimS (shortS xs 400)).1).1)), ((((dreadS xs).1).2) == (((rdimS (shortS xs 400)).1).2))].all id) && ((((dreadS xs).2) == 0) == (rdimS (shortS xs 400)).2)) && (((rdimS (shortS xs 400)).2) || (((dreadS xs).2) == 4))))
def lreadj17 (xs : List UInt8) (K : Bool → Prop) : Prop :=
  K (lreadV0 xs)
def lreadF (xs : List UInt8) (K : Bool → Prop) : Prop :=
  cutP xs ∧ shortP xs 400 ∧ cutP (shortS xs 400) ∧ ((decide ((xs.length : Int) > 400)) = true → K true) ∧ ((decide ((xs.length : Int) > 400)) = false → ((true) = true → lreadj17 xs K) ∧ ((true) = false → lreadj17 xs K))
set_option maxHeartbeats 4000000 in
set_option maxRecDepth 100000 in
set_option linter.unusedVariables false in
theorem lread_ok {g : Ghost} (xs : List UInt8) (hG0 : Glob g 0 (.slice (.str)) DUnits) (hG1 : SomeInt g 1) (K : Bool → Prop)
    (hF : lreadF xs K) : CallsH Tryd.prog 3 #[.string ⟨⟨xs⟩⟩] g [] (fun g' H' v => ∃ (r0 : Bool), v = .bool r0 ∧ H' = [] ∧ K r0) := by
  refine CallsH.enter 43 [(0, .string ⟨⟨xs⟩⟩)] Tryd.func3 rfl (by kernel_rfl) (by kernel_rfl) (by kernel_rfl) fun w0 => ?_
  refine Ok.seq ?_
  refine Ok.region ?_
  refine Ok.batch 1 [(0, .string ⟨⟨xs⟩⟩)] (by kernel_rfl) ?_
  refine Ok.nil ?_
  refine Ok.thenN ?_
  refine Ok.seq ?_
  refine Ok.region ?_
  refine Ok.op rfl (OpOk.callG (v := .bool true) (enters (by kernel_rfl) (fun _ => by kernel_rfl)) (fun W hW => half_c  (hG0.mono hW.sees) (hG1.mono hW.sees)) rfl ?_)
  refine Ok.batch 1 [(0, .string ⟨⟨xs⟩⟩), (3, .bool true)] (by kernel_rfl) ?_
  refine Ok.nil ?_
  refine Ok.thenN ?_
  refine Ok.seq ?_
  refine Ok.region ?_
  refine Ok.batch 1 [(0, .string ⟨⟨xs⟩⟩), (3, .bool true), (10, .string ⟨⟨xs⟩⟩)] (by kernel_rfl) ?_
  obtain ⟨hp1, hF⟩ := hF
  refine Ok.op rfl (OpOk.callG (v := .tuple #[.agg #[.int .i64 (((dreadS xs).1).1), .string ⟨⟨((dreadS xs).1).2⟩⟩], .int .i64 ((dreadS xs).2)]) (enters (by kernel_rfl) (fun _ => by kernel_rfl)) (fun W hW => dread_c xs (hG0.mono hW.sees) (hG1.mono hW.sees) hp1) rfl ?_)
  refine Ok.batch 3 [(0, .string ⟨⟨xs⟩⟩), (3, .bool true), (12, .agg #[.int .i64 (((dreadS xs).1).1), .string ⟨⟨((dreadS xs).1).2⟩⟩]), (13, .int .i64 ((dreadS xs).2))] (by kernel_rfl) ?_
  refine Ok.op rfl (OpOk.alloc (z := .agg #[.int .i64 0, .string ⟨⟨([] : List UInt8)⟩⟩]) (cs := #[.int .i64 0, .string ⟨⟨([] : List UInt8)⟩⟩]) (by kernel_rfl) (by kernel_rfl) rfl fun b2 => ?_)
  refine Ok.op rfl (OpOk.store (k := 2) (v := .agg #[.int .i64 (((dreadS xs).1).1), .string ⟨⟨((dreadS xs).1).2⟩⟩]) (H' := [.blk b2 (.cells #[.int .i64 (((dreadS xs).1).1), .string ⟨⟨((dreadS xs).1).2⟩⟩] 24)]) 0 rfl rfl rfl (by kernel_rfl) (by kernel_rfl) (by kernel_rfl) (by kernel_rfl) (by kernel_rfl) ?_)
  refine Ok.batch 1 [(0, .string ⟨⟨xs⟩⟩), (3, .bool true), (4, .pointer (some ⟨b2, 0, none⟩)), (5, .int .i64 ((dreadS xs).2))] (by kernel_rfl) ?_
  refine Ok.nil ?_
  refine Ok.thenN ?_
  refine Ok.seq ?_
  refine Ok.region ?_
  refine Ok.batch 1 [(0, .string ⟨⟨xs⟩⟩), (3, .bool true), (4, .pointer (some ⟨b2, 0, none⟩)), (5, .int .i64 ((dreadS xs).2)), (15, .string ⟨⟨xs⟩⟩)] (by kernel_rfl) ?_
  obtain ⟨hp3, hF⟩ := hF
  refine Ok.op rfl (OpOk.callG (v := .string ⟨⟨(shortS xs 400)⟩⟩) (enters (by kernel_rfl) (fun _ => by kernel_rfl)) (fun W hW => short_c xs 400 hp3) rfl ?_)
  obtain ⟨hp4, hF⟩ := hF
  refine Ok.op rfl (OpOk.callG (v := .tuple #[.agg #[.int .i64 (((rdimS (shortS xs 400)).1).1), .string ⟨⟨((rdimS (shortS xs 400)).1).2⟩⟩], .bool ((rdimS (shortS xs 400)).2)]) (enters (by kernel_rfl) (fun _ => by kernel_rfl)) (fun W hW => rdim_c (shortS xs 400) hp4) rfl ?_)
  refine Ok.batch 3 [(0, .string ⟨⟨xs⟩⟩), (3, .bool true), (4, .pointer (some ⟨b2, 0, none⟩)), (5, .int .i64 ((dreadS xs).2)), (18, .agg #[.int .i64 (((rdimS (shortS xs 400)).1).1), .string ⟨⟨((rdimS (shortS xs 400)).1).2⟩⟩]), (19, .bool ((rdimS (shortS xs 400)).2))] (by kernel_rfl) ?_
  refine Ok.op rfl (OpOk.alloc (z := .agg #[.int .i64 0, .string ⟨⟨([] : List UInt8)⟩⟩]) (cs := #[.int .i64 0, .string ⟨⟨([] : List UInt8)⟩⟩]) (by kernel_rfl) (by kernel_rfl) rfl fun b5 => ?_)
  refine Ok.op rfl (OpOk.store (k := 2) (v := .agg #[.int .i64 (((rdimS (shortS xs 400)).1).1), .string ⟨⟨((rdimS (shortS xs 400)).1).2⟩⟩]) (H' := [.blk b5 (.cells #[.int .i64 (((rdimS (shortS xs 400)).1).1), .string ⟨⟨((rdimS (shortS xs 400)).1).2⟩⟩] 24), .blk b2 (.cells #[.int .i64 (((dreadS xs).1).1), .string ⟨⟨((dreadS xs).1).2⟩⟩] 24)]) 0 rfl rfl rfl (by kernel_rfl) (by kernel_rfl) (by kernel_rfl) (by kernel_rfl) (by kernel_rfl) ?_)
  refine Ok.batch 1 [(0, .string ⟨⟨xs⟩⟩), (3, .bool true), (4, .pointer (some ⟨b2, 0, none⟩)), (5, .int .i64 ((dreadS xs).2)), (6, .pointer (some ⟨b5, 0, none⟩)), (7, .bool ((rdimS (shortS xs 400)).2))] (by kernel_rfl) ?_
  refine Ok.nil ?_
  refine Ok.thenN ?_
  refine Ok.seq ?_
  refine Ok.seq ?_
  refine Ok.region ?_
  refine Ok.batch 3 [(3, .bool true), (4, .pointer (some ⟨b2, 0, none⟩)), (5, .int .i64 ((dreadS xs).2)), (6, .pointer (some ⟨b5, 0, none⟩)), (7, .bool ((rdimS (shortS xs 400)).2)), (22, .bool (decide ((xs.length : Int) > 400)))] (by kernel_rfl) ?_
  refine Ok.nil ?_
  refine Ok.thenN ?_
  refine Ok.cond (b := decide ((xs.length : Int) > 400)) rfl (fun hc6 => ?_) (fun hc6 => ?_)
  · replace hF := hF.1 hc6
    refine Ok.seq ?_
    refine Ok.region ?_
    refine Ok.batch 2 [(2, .bool true)] (by kernel_rfl) ?_
    refine Ok.nil ?_
    refine Ok.thenN ?_
    refine Ok.ret ?_
    refine Ok.thenR ?_
    exact Ok.resP (vs := [.bool true]) [] [] (by decide) rfl (.inl rfl) rfl (.cons (.tmp rfl) .nil) (Gext.refl w0 g) ⟨true, rfl, rfl, hF⟩
  · replace hF := hF.2 hc6
    refine Ok.skip ?_
    refine Ok.thenN ?_
    refine Ok.cut (fun a W => StA 43 [(2, .bool (lreadV0 xs))] a ∧ StW w0 [] g W ∧ lreadj17 xs K) ?_ ?_
    ·
      refine Ok.region ?_
      refine Ok.batch 2 [(4, .pointer (some ⟨b2, 0, none⟩)), (5, .int .i64 ((dreadS xs).2)), (6, .pointer (some ⟨b5, 0, none⟩)), (7, .bool ((rdimS (shortS xs 400)).2)), (25, .bool true)] (by kernel_rfl) ?_
      refine Ok.boolAt 25 (true) rfl (fun hc7 => ?_) (fun hc7 => ?_)
      · replace hF := hF.1 hc7
        refine Ok.opYes (j := 1) (d := 25) (want := true) (b := true) rfl (by kernel_rfl) (by kernel_rfl) rfl (OpOk.step (v := .agg #[.int .i64 (((dreadS xs).1).1), .string ⟨⟨((dreadS xs).1).2⟩⟩]) (Yields.loadAgg 1 2 #[.int .i64 (((dreadS xs).1).1), .string ⟨⟨((dreadS xs).1).2⟩⟩] rfl rfl Tryd.underlying24 rfl (by kernel_rfl) (by kernel_rfl) (by kernel_rfl)) rfl rfl ?_)
        refine Ok.opYes (j := 1) (d := 25) (want := true) (b := true) rfl (by kernel_rfl) (by kernel_rfl) rfl (OpOk.step (v := .agg #[.int .i64 (((rdimS (shortS xs 400)).1).1), .string ⟨⟨((rdimS (shortS xs 400)).1).2⟩⟩]) (Yields.loadAgg 0 2 #[.int .i64 (((rdimS (shortS xs 400)).1).1), .string ⟨⟨((rdimS (shortS xs 400)).1).2⟩⟩] rfl rfl Tryd.underlying24 rfl (by kernel_rfl) (by kernel_rfl) (by kernel_rfl)) rfl rfl ?_)
        refine Ok.opYes (j := 1) (d := 25) (want := true) (b := true) rfl (by kernel_rfl) (by kernel_rfl) rfl (OpOk.step (v := .bool ([((((dreadS xs).1).1) == (((rdimS (shortS xs 400)).1).1)), ((((dreadS xs).1).2) == (((rdimS (shortS xs 400)).1).2))].all id)) (Yields.eqAgg (k := 2) rfl rfl (.struct (k := 1) Tryd.underlying24 (by kernel_rfl) ⟨by decide, ⟨.int .i64 (((dreadS xs).1).1), .int .i64 (((rdimS (shortS xs 400)).1).1), fun _ => by kernel_rfl, fun _ => by kernel_rfl, EqR.mono (k := 1) (.int Tryd.underlying3) (by decide)⟩, ⟨by decide, ⟨.string ⟨⟨((dreadS xs).1).2⟩⟩, .string ⟨⟨((rdimS (shortS xs 400)).1).2⟩⟩, fun _ => by kernel_rfl, fun _ => by kernel_rfl, EqR.mono (k := 1) (.str Tryd.underlying9) (by decide)⟩, trivial⟩⟩) rfl (by kernel_rfl)) rfl rfl ?_)
        refine Ok.batch 2 [(5, .int .i64 ((dreadS xs).2)), (7, .bool ((rdimS (shortS xs 400)).2)), (30, .bool ([((((dreadS xs).1).1) == (((rdimS (shortS xs 400)).1).1)), ((((dreadS xs).1).2) == (((rdimS (shortS xs 400)).1).2))].all id))] (by kernel_rfl) ?_
        refine Ok.midway 5 [(5, .int .i64 ((dreadS xs).2)), (7, .bool ((rdimS (shortS xs 400)).2)), (35, .bool (([((((dreadS xs).1).1) == (((rdimS (shortS xs 400)).1).1)), ((((dreadS xs).1).2) == (((rdimS (shortS xs 400)).1).2))].all id) && ((((dreadS xs).2) == 0) == (rdimS (shortS xs 400)).2)))] (fun hR8 => ?_) ?_
        · refine Ok.boolAt 30 (([((((dreadS xs).1).1) == (((rdimS (shortS xs 400)).1).1)), ((((dreadS xs).1).2) == (((rdimS (shortS xs 400)).1).2))].all id)) rfl (fun hc9 => ?_) (fun hc9 => ?_)
          · skip
            refine Ok.batch 5 [(5, .int .i64 ((dreadS xs).2)), (7, .bool ((rdimS (shortS xs 400)).2)), (35, .bool ((((dreadS xs).2) == 0) == (rdimS (shortS xs 400)).2))] (by kernel_rfl) ?_
            refine Ok.reval 35 rfl (show (.bool ((((dreadS xs).2) == 0) == (rdimS (shortS xs 400)).2) : Value) = .bool (([((((dreadS xs).1).1) == (((rdimS (shortS xs 400)).1).1)), ((((dreadS xs).1).2) == (((rdimS (shortS xs 400)).1).2))].all id) && ((((dreadS xs).2) == 0) == (rdimS (shortS xs 400)).2)) from congrArg Value.bool (mand_t hc9)) ?_
            refine Ok.batch 0 [(5, .int .i64 ((dreadS xs).2)), (7, .bool ((rdimS (shortS xs 400)).2)), (35, .bool (([((((dreadS xs).1).1) == (((rdimS (shortS xs 400)).1).1)), ((((dreadS xs).1).2) == (((rdimS (shortS xs 400)).1).2))].all id) && ((((dreadS xs).2) == 0) == (rdimS (shortS xs 400)).2)))] (by kernel_rfl) ?_
            exact hR8
          · skip
            refine Ok.batch 5 [(5, .int .i64 ((dreadS xs).2)), (7, .bool ((rdimS (shortS xs 400)).2)), (35, .bool false)] (by kernel_rfl) ?_
            refine Ok.reval 35 rfl (show (.bool false : Value) = .bool (([((((dreadS xs).1).1) == (((rdimS (shortS xs 400)).1).1)), ((((dreadS xs).1).2) == (((rdimS (shortS xs 400)).1).2))].all id) && ((((dreadS xs).2) == 0) == (rdimS (shortS xs 400)).2)) from congrArg Value.bool (mand_f hc9)) ?_
            refine Ok.batch 0 [(5, .int .i64 ((dreadS xs).2)), (7, .bool ((rdimS (shortS xs 400)).2)), (35, .bool (([((((dreadS xs).1).1) == (((rdimS (shortS xs 400)).1).1)), ((((dreadS xs).1).2) == (((rdimS (shortS xs 400)).1).2))].all id) && ((((dreadS xs).2) == 0) == (rdimS (shortS xs 400)).2)))] (by kernel_rfl) ?_
            exact hR8
        refine Ok.batch 1 [(5, .int .i64 ((dreadS xs).2)), (7, .bool ((rdimS (shortS xs 400)).2)), (36, .bool (([((((dreadS xs).1).1) == (((rdimS (shortS xs 400)).1).1)), ((((dreadS xs).1).2) == (((rdimS (shortS xs 400)).1).2))].all id) && ((((dreadS xs).2) == 0) == (rdimS (shortS xs 400)).2)))] (by kernel_rfl) ?_
        refine Ok.midway 6 [(42, .bool ((([((((dreadS xs).1).1) == (((rdimS (shortS xs 400)).1).1)), ((((dreadS xs).1).2) == (((rdimS (shortS xs 400)).1).2))].all id) && ((((dreadS xs).2) == 0) == (rdimS (shortS xs 400)).2)) && (((rdimS (shortS xs 400)).2) || (((dreadS xs).2) == 4))))] (fun hR10 => ?_) ?_
        · refine Ok.boolAt 36 ((([((((dreadS xs).1).1) == (((rdimS (shortS xs 400)).1).1)), ((((dreadS xs).1).2) == (((rdimS (shortS xs 400)).1).2))].all id) && ((((dreadS xs).2) == 0) == (rdimS (shortS xs 400)).2))) rfl (fun hc11 => ?_) (fun hc11 => ?_)
          · skip
            refine Ok.batch 2 [(5, .int .i64 ((dreadS xs).2)), (36, .bool true), (38, .bool ((rdimS (shortS xs 400)).2))] (by kernel_rfl) ?_
            refine Ok.midway 3 [(36, .bool true), (41, .bool (((rdimS (shortS xs 400)).2) || (((dreadS xs).2) == 4)))] (fun hR12 => ?_) ?_
            · refine Ok.boolAt 38 ((rdimS (shortS xs 400)).2) rfl (fun hc13 => ?_) (fun hc13 => ?_)
              · skip
                refine Ok.batch 3 [(36, .bool true), (41, .bool true)] (by kernel_rfl) ?_
                refine Ok.reval 41 rfl (show (.bool true : Value) = .bool (((rdimS (shortS xs 400)).2) || (((dreadS xs).2) == 4)) from congrArg Value.bool (mor_t hc13)) ?_
                refine Ok.batch 0 [(36, .bool true), (41, .bool (((rdimS (shortS xs 400)).2) || (((dreadS xs).2) == 4)))] (by kernel_rfl) ?_
                exact hR12
              · skip
                refine Ok.batch 3 [(36, .bool true), (41, .bool (((dreadS xs).2) == 4))] (by kernel_rfl) ?_
                refine Ok.reval 41 rfl (show (.bool (((dreadS xs).2) == 4) : Value) = .bool (((rdimS (shortS xs 400)).2) || (((dreadS xs).2) == 4)) from congrArg Value.bool (mor_f hc13)) ?_
                refine Ok.batch 0 [(36, .bool true), (41, .bool (((rdimS (shortS xs 400)).2) || (((dreadS xs).2) == 4)))] (by kernel_rfl) ?_
                exact hR12
            refine Ok.batch 1 [(42, .bool (((rdimS (shortS xs 400)).2) || (((dreadS xs).2) == 4)))] (by kernel_rfl) ?_
            refine Ok.reval 42 rfl (show (.bool (((rdimS (shortS xs 400)).2) || (((dreadS xs).2) == 4)) : Value) = .bool ((([((((dreadS xs).1).1) == (((rdimS (shortS xs 400)).1).1)), ((((dreadS xs).1).2) == (((rdimS (shortS xs 400)).1).2))].all id) && ((((dreadS xs).2) == 0) == (rdimS (shortS xs 400)).2)) && (((rdimS (shortS xs 400)).2) || (((dreadS xs).2) == 4))) from congrArg Value.bool (mand_t hc11)) ?_
            refine Ok.batch 0 [(42, .bool ((([((((dreadS xs).1).1) == (((rdimS (shortS xs 400)).1).1)), ((((dreadS xs).1).2) == (((rdimS (shortS xs 400)).1).2))].all id) && ((((dreadS xs).2) == 0) == (rdimS (shortS xs 400)).2)) && (((rdimS (shortS xs 400)).2) || (((dreadS xs).2) == 4))))] (by kernel_rfl) ?_
            exact hR10
          · skip
            refine Ok.batch 6 [(42, .bool false)] (by kernel_rfl) ?_
            refine Ok.reval 42 rfl (show (.bool false : Value) = .bool ((([((((dreadS xs).1).1) == (((rdimS (shortS xs 400)).1).1)), ((((dreadS xs).1).2) == (((rdimS (shortS xs 400)).1).2))].all id) && ((((dreadS xs).2) == 0) == (rdimS (shortS xs 400)).2)) && (((rdimS (shortS xs 400)).2) || (((dreadS xs).2) == 4))) from congrArg Value.bool (mand_f hc11)) ?_
            refine Ok.batch 0 [(42, .bool ((([((((dreadS xs).1).1) == (((rdimS (shortS xs 400)).1).1)), ((((dreadS xs).1).2) == (((rdimS (shortS xs 400)).1).2))].all id) && ((((dreadS xs).2) == 0) == (rdimS (shortS xs 400)).2)) && (((rdimS (shortS xs 400)).2) || (((dreadS xs).2) == 4))))] (by kernel_rfl) ?_
            exact hR10
        refine Ok.batch 1 [(2, .bool ((([((((dreadS xs).1).1) == (((rdimS (shortS xs 400)).1).1)), ((((dreadS xs).1).2) == (((rdimS (shortS xs 400)).1).2))].all id) && ((((dreadS xs).2) == 0) == (rdimS (shortS xs 400)).2)) && (((rdimS (shortS xs 400)).2) || (((dreadS xs).2) == 4))))] (by kernel_rfl) ?_
        refine Ok.nil ?_
        refine Ok.thenN ?_
        refine Ok.reval 2 rfl (show (.bool ((([((((dreadS xs).1).1) == (((rdimS (shortS xs 400)).1).1)), ((((dreadS xs).1).2) == (((rdimS (shortS xs 400)).1).2))].all id) && ((((dreadS xs).2) == 0) == (rdimS (shortS xs 400)).2)) && (((rdimS (shortS xs 400)).2) || (((dreadS xs).2) == 4))) : Value) = .bool (lreadV0 xs) from congrArg (Value.bool) (mand_t hc7)) ?_
        exact fun a W hA hW => ⟨hA.sub (by kernel_rfl), hW.sub (.cons _ (.cons _ .slnil)), hF⟩
      · replace hF := hF.2 hc7
        refine Ok.batch 18 [(2, .bool false)] (by kernel_rfl) ?_
        refine Ok.nil ?_
        refine Ok.thenN ?_
        refine Ok.reval 2 rfl (show (.bool false : Value) = .bool (lreadV0 xs) from congrArg (Value.bool) (mand_f hc7)) ?_
        exact fun a W hA hW => ⟨hA.sub (by kernel_rfl), hW.sub (.cons _ (.cons _ .slnil)), hF⟩
    ·
      clear hF
      rintro a W ⟨hA, hW, hF⟩
      refine (?_ : Ok _ _ _ _ _ _) a W hA hW
      clear hA hW
      refine Ok.ret ?_
      exact Ok.resH (vs := [.bool (lreadV0 xs)]) (.inl rfl) rfl (.cons (.tmp rfl) .nil) (Gext.refl w0 g) ⟨(lreadV0 xs), rfl, rfl, hF⟩
theorem read_dim {s : List UInt8} : dreadV0 s = rdimV0 s := by
  unfold dreadV0 rdimV0
  rw [scon_eq]
  rfl
theorem lread_F (s : List UInt8) (hp : s.length ≤ 1048576) : lreadF s (fun r => r = true) := by
  have hk : decide ((s.length : Int) > 400) = false → lreadj17 s (fun r => r = true) := fun h => by
    have h := of_decide_eq_false h
    have e : shortS s 400 = s := by
      unfold shortS
      rw [List.take_of_length_le]
      have : (400 : Int).toNat = 400 := rfl
      omega
    unfold lreadj17 lreadV0
    rw [e]
    unfold dreadS rdimS
    rw [read_dim]
    split <;> simp
  exact ⟨by unfold cutP; omega, by unfold shortP; decide, by
    unfold cutP shortS
    rw [List.length_take]
    have : (400 : Int).toNat = 400 := rfl
    omega, fun _ => rfl, fun h => ⟨fun _ => hk h, fun _ => hk h⟩⟩
def lreadP (s : List UInt8) : Prop := s.length ≤ 1048576
set_option linter.unusedVariables false in
theorem lread_c {g : Ghost} (xs : List UInt8) (hG0 : Glob g 0 (.slice (.str)) DUnits) (hG1 : SomeInt g 1)  (hp : lreadP xs) : CallsG Tryd.prog 3 #[.string ⟨⟨xs⟩⟩] g (.bool ((fun _ => true) xs)) :=
  (lread_ok xs hG0 hG1 _ (lread_F xs hp)).gives (by rintro g' H' v _ ⟨r0, rfl, rfl, hK⟩; subst hK; rfl)
end Go.Proofs.YtijnddbnjgoogaaDoor.Tk
