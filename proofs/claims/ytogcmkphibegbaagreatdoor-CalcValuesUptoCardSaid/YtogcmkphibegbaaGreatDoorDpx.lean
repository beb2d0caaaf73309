/- dim.Px, and the reference's PxOf. -/
import Derived.Test.YtogcmkphibegbaaGreatDoorDir
namespace Go.Proofs.YtogcmkphibegbaaGreatDoor.Tk
open Go Go.Eng Go.RowKit Go.Shelf Go.Proofs Bld Trm Css
set_option maxHeartbeats 4000000
set_option maxRecDepth 100000
set_option linter.unusedSimpArgs false
set_option linter.unusedVariables false
def byP (_ : Int) (b : Int) : Prop := b ≠ 0
def downV0 (xn : Int) (xby : Int) : Int :=
 (if (decide ((Int.tmod xn xby) < 0)) = true then w6 ((w6 (Int.tdiv xn xby)) - 1) else w6 (Int.tdiv xn xby))
def downj5 (xn : Int) (xby : Int) (K : Int → Prop) : Prop :=
 K (downV0 xn xby)
def downF (xn : Int) (xby : Int) (K : Int → Prop) : Prop :=
 xby ≠ 0 ∧ xby ≠ 0 ∧ ((decide ((Int.tmod xn xby) < 0)) = true → downj5 xn xby K) ∧ ((decide ((Int.tmod xn xby) < 0)) = false → downj5 xn xby K)
theorem down_ok {g : Ghost} (xn : Int) (xby : Int) (K : Int → Prop)
  (hF : downF xn xby K) : CallsH Tryz.prog 72 #[.int .i64 xn, .int .i64 xby] g [] (fun g' H' v => ∃ (r0 : Int), v = .int .i64 r0 ∧ H' = [] ∧ K r0) := by
 refine CallsH.enter 16 [(0, .int .i64 xn), (1, .int .i64 xby)] Tryz.func72 rfl (by kernel_rfl) (by kernel_rfl) (by kernel_rfl) fun w0 => ?_
 refine Ok.seq (Ok.region (Ok.batch 1 [(0, .int .i64 xn), (1, .int .i64 xby)] (by kernel_rfl) (Ok.nil (Ok.thenN (Ok.seq (Ok.region (Ok.bat 2 [0, 1] [(6, .int .i64 xn), (7, .int .i64 xby)] ?_)))))))
 obtain ⟨hv, hF⟩ := hF
 refine Ok.op rfl (OpOk.step (v := .int .i64 (w6 (Int.tdiv xn xby))) (Yields.quo rfl rfl hv) rfl rfl (Ok.bat 1 [0, 1] [(5, .int .i64 (w6 (Int.tdiv xn xby)))] ?_))
 refine Ok.nil (Ok.thenN (Ok.cut (fun a W => StA 16 [(5, .int .i64 (downV0 xn xby))] a ∧ StW w0 [] g W ∧ downj5 xn xby K) ?_ ?_))
 ·
  refine Ok.seq (Ok.region (Ok.bat 2 [5] [(9, .int .i64 xn), (10, .int .i64 xby)] ?_))
  obtain ⟨hv, hF⟩ := hF
  refine Ok.op rfl (OpOk.step (v := .int .i64 (Int.tmod xn xby)) (Yields.rem rfl rfl hv) rfl rfl (Ok.bat 1 [5] [(12, .bool (decide ((Int.tmod xn xby) < 0)))] ?_))
  refine Ok.nil (Ok.thenN (Ok.cond (b := decide ((Int.tmod xn xby) < 0)) rfl (fun hc1 => ?_) (fun hc1 => ?_)))
  ·replace hF := hF.1 hc1
   refine Ok.region (Ok.batch 3 [(5, .int .i64 (w6 ((w6 (Int.tdiv xn xby)) - 1)))] (by kernel_rfl) (Ok.nil (Ok.thenN (Ok.reval 5 rfl (show (.int .i64 (w6 ((w6 (Int.tdiv xn xby)) - 1)) : Value) = .int .i64 (downV0 xn xby) from congrArg (Value.int .i64) ((if_t hc1).symm)) ?_))))
   exact fun a W hA hW => ⟨hA.sub (by kernel_rfl), hW, hF⟩
  ·replace hF := hF.2 hc1
   refine Ok.skip (Ok.thenN (Ok.reval 5 rfl (show (.int .i64 (w6 (Int.tdiv xn xby)) : Value) = .int .i64 (downV0 xn xby) from congrArg (Value.int .i64) ((if_f hc1).symm)) ?_))
   exact fun a W hA hW => ⟨hA.sub (by kernel_rfl), hW, hF⟩
 ·
  clear hF
  rintro a W ⟨hA, hW, hF⟩
  refine (?_ : Ok _ _ _ _ _ _) a W hA hW
  clear hA hW
  refine Ok.seq (Ok.region (Ok.batch 2 [(4, .int .i64 (downV0 xn xby))] (by kernel_rfl) (Ok.nil (Ok.thenN (Ok.ret ?_)))))
  exact Ok.resH (vs := [.int .i64 (downV0 xn xby)]) (.inl rfl) rfl (.cons (.tmp rfl) .nil) (Gext.refl w0 g) ⟨(downV0 xn xby), rfl, rfl, hF⟩
def downj5M (xn : Int) (xby : Int) : Int := (downV0 xn xby)
theorem downj5_A (xn : Int) (xby : Int) (P : Int → Prop) (h : P (downj5M xn xby)) : downj5 xn xby (fun k0 => P k0) := by
 unfold downj5M at h
 unfold downj5
 exact h
def downM (xn : Int) (xby : Int) : Int := (downj5M xn xby)
theorem downF_A (xn : Int) (xby : Int) (hp : byP xn xby) (P : Int → Prop) (h : P (downM xn xby)) : downF xn xby (fun k0 => P k0) := by
 unfold downM at h
 unfold downF
 refine ⟨?_, ?_⟩
 ·first | exact hp | omega | assumption | exact trivial | (have h0 := List.length_pos_iff.mpr (by assumption); omega) | (simp; omega) | (simp at *; omega)
 refine ⟨?_, ?_⟩
 ·first | exact hp | omega | assumption | exact trivial | (have h0 := List.length_pos_iff.mpr (by assumption); omega) | (simp; omega) | (simp at *; omega)
 refine ⟨fun hc0 => ?_, fun hc0 => ?_⟩
 ·skip
  have hd0 := of_decide_eq_true hc0
  exact downj5_A xn xby _ h
 ·skip
  have hd0 := of_decide_eq_false hc0
  exact downj5_A xn xby _ h
theorem down_F (xn : Int) (xby : Int) (hp : byP xn xby) : downF xn xby (fun k0 => k0 = downM xn xby) :=
 downF_A xn xby hp (fun z => z = downM xn xby) rfl
theorem down_c {g : Ghost} (xn : Int) (xby : Int)  (hp : byP xn xby) : CallsG Tryz.prog 72 #[.int .i64 xn, .int .i64 xby] g (.int .i64 (downM xn xby)) :=
 (down_ok xn xby _ (down_F xn xby hp)).gives (by rintro g' H' v _ ⟨r0, rfl, rfl, hK⟩; subst hK; rfl)
def dcutF (xn : Int) (K : Int → Prop) : Prop :=
 K (if 16777216 < (if xn < (-16777216) then (-16777216) else xn) then 16777216 else (if xn < (-16777216) then (-16777216) else xn))
theorem dcut_ok {g : Ghost} (xn : Int) (K : Int → Prop)
  (hF : dcutF xn K) : CallsH Tryz.prog 71 #[.int .i64 xn] g [] (fun g' H' v => ∃ (r0 : Int), v = .int .i64 r0 ∧ H' = [] ∧ K r0) := by
 refine CallsH.enter 6 [(0, .int .i64 xn)] Tryz.func71 rfl (by kernel_rfl) (by kernel_rfl) (by kernel_rfl) fun w0 => ?_
 refine Ok.seq (Ok.region (Ok.batch 1 [(0, .int .i64 xn)] (by kernel_rfl) (Ok.nil (Ok.thenN (Ok.seq (Ok.region (Ok.batch 4 [(2, .int .i64 (if 16777216 < (if xn < (-16777216) then (-16777216) else xn) then 16777216 else (if xn < (-16777216) then (-16777216) else xn)))] (by kernel_rfl) (Ok.nil (Ok.thenN (Ok.ret ?_))))))))))
 exact Ok.resH (vs := [.int .i64 (if 16777216 < (if xn < (-16777216) then (-16777216) else xn) then 16777216 else (if xn < (-16777216) then (-16777216) else xn))]) (.inl rfl) rfl (.cons (.tmp rfl) .nil) (Gext.refl w0 g) ⟨(if 16777216 < (if xn < (-16777216) then (-16777216) else xn) then 16777216 else (if xn < (-16777216) then (-16777216) else xn)), rfl, rfl, hF⟩
def dcutM (xn : Int) : Int := (if 16777216 < (if xn < (-16777216) then (-16777216) else xn) then 16777216 else (if xn < (-16777216) then (-16777216) else xn))
theorem dcutF_A (xn : Int) (P : Int → Prop) (h : P (dcutM xn)) : dcutF xn (fun k0 => P k0) := by
 unfold dcutM at h
 unfold dcutF
 exact h
theorem dcut_F (xn : Int) : dcutF xn (fun k0 => k0 = dcutM xn) :=
 dcutF_A xn (fun z => z = dcutM xn) rfl
theorem dcut_c {g : Ghost} (xn : Int)  : CallsG Tryz.prog 71 #[.int .i64 xn] g (.int .i64 (dcutM xn)) :=
 (dcut_ok xn _ (dcut_F xn)).gives (by rintro g' H' v _ ⟨r0, rfl, rfl, hK⟩; subst hK; rfl)
def dinF (xn : Int) (xlow : Int) (xhigh : Int) (K : Bool → Prop) : Prop :=
 K ((decide (xn ≥ xlow)) && (decide (xn ≤ xhigh)))
theorem din_ok {g : Ghost} (xn : Int) (xlow : Int) (xhigh : Int) (K : Bool → Prop)
  (hF : dinF xn xlow xhigh K) : CallsH Tryz.prog 70 #[.int .i64 xn, .int .i64 xlow, .int .i64 xhigh] g [] (fun g' H' v => ∃ (r0 : Bool), v = .bool r0 ∧ H' = [] ∧ K r0) := by
 refine CallsH.enter 15 [(0, .int .i64 xn), (1, .int .i64 xlow), (2, .int .i64 xhigh)] Tryz.func70 rfl (by kernel_rfl) (by kernel_rfl) (by kernel_rfl) fun w0 => ?_
 refine Ok.seq (Ok.region (Ok.batch 1 [(0, .int .i64 xn), (1, .int .i64 xlow), (2, .int .i64 xhigh)] (by kernel_rfl) (Ok.nil (Ok.thenN (Ok.seq (Ok.region (Ok.bat 4 [0, 2] [(10, .bool (decide (xn ≥ xlow)))] ?_)))))))
 refine Ok.midway 4 [(14, .bool ((decide (xn ≥ xlow)) && (decide (xn ≤ xhigh))))] (fun hR1 => ?_) ?_
 ·refine Ok.boolAt 10 (decide (xn ≥ xlow)) rfl (fun hc2 => ?_) (fun hc2 => ?_)
  ·skip
   refine Ok.batch 4 [(14, .bool (decide (xn ≤ xhigh)))] (by kernel_rfl) (Ok.reval 14 rfl (show (.bool (decide (xn ≤ xhigh)) : Value) = .bool ((decide (xn ≥ xlow)) && (decide (xn ≤ xhigh))) from congrArg Value.bool (mand_t hc2)) (Ok.batch 0 [(14, .bool ((decide (xn ≥ xlow)) && (decide (xn ≤ xhigh))))] (by kernel_rfl) ?_))
   exact hR1
  ·skip
   refine Ok.batch 4 [(14, .bool false)] (by kernel_rfl) (Ok.reval 14 rfl (show (.bool false : Value) = .bool ((decide (xn ≥ xlow)) && (decide (xn ≤ xhigh))) from congrArg Value.bool (mand_f hc2)) (Ok.batch 0 [(14, .bool ((decide (xn ≥ xlow)) && (decide (xn ≤ xhigh))))] (by kernel_rfl) ?_))
   exact hR1
 refine Ok.batch 1 [(6, .bool ((decide (xn ≥ xlow)) && (decide (xn ≤ xhigh))))] (by kernel_rfl) (Ok.nil (Ok.thenN (Ok.ret ?_)))
 exact Ok.resH (vs := [.bool ((decide (xn ≥ xlow)) && (decide (xn ≤ xhigh)))]) (.inl rfl) rfl (.cons (.tmp rfl) .nil) (Gext.refl w0 g) ⟨((decide (xn ≥ xlow)) && (decide (xn ≤ xhigh))), rfl, rfl, hF⟩
def dinM (xn : Int) (xlow : Int) (xhigh : Int) : Bool := ((decide (xn ≥ xlow)) && (decide (xn ≤ xhigh)))
theorem dinF_A (xn : Int) (xlow : Int) (xhigh : Int) (P : Bool → Prop) (h : P (dinM xn xlow xhigh)) : dinF xn xlow xhigh (fun k0 => P k0) := by
 unfold dinM at h
 unfold dinF
 exact h
theorem din_F (xn : Int) (xlow : Int) (xhigh : Int) : dinF xn xlow xhigh (fun k0 => k0 = dinM xn xlow xhigh) :=
 dinF_A xn xlow xhigh (fun z => z = dinM xn xlow xhigh) rfl
theorem din_c {g : Ghost} (xn : Int) (xlow : Int) (xhigh : Int)  : CallsG Tryz.prog 70 #[.int .i64 xn, .int .i64 xlow, .int .i64 xhigh] g (.bool (dinM xn xlow xhigh)) :=
 (din_ok xn xlow xhigh _ (din_F xn xlow xhigh)).gives (by rintro g' H' v _ ⟨r0, rfl, rfl, hK⟩; subst hK; rfl)
def dpxV0 (xd : Int × Bs) (xk : Int × Int × Int × Int) : Bool :=
 ((!(dinM xd.1 (-1000000000) 1000000000)) || ((!(dinM xk.1 0 16777216)) || ((!(dinM xk.2.1 0 16777216)) || ((!(dinM xk.2.2.1 1 4000)) || (!(dinM xk.2.2.2 1 4000))))))
def dpxV1 (xd : Int × Bs) (xk : Int × Int × Int × Int) : Int :=
 (if (xd.2 == ([112, 120] : Bs)) = true then 64 else (if (xd.2 == ([101, 109] : Bs)) = true then xk.1 else (if (xd.2 == ([114, 101, 109] : Bs)) = true then xk.2.1 else (if (xd.2 == ([118, 119] : Bs)) = true then w6 (64 * xk.2.2.1) else (if (xd.2 == ([118, 104] : Bs)) = true then w6 (64 * xk.2.2.2) else 0)))))
def dpxV2 (xd : Int × Bs) : Int :=
 (if (xd.2 == ([112, 120] : Bs)) = true then 1000 else (if (xd.2 == ([101, 109] : Bs)) = true then 1000 else (if (xd.2 == ([114, 101, 109] : Bs)) = true then 1000 else (if (xd.2 == ([118, 119] : Bs)) = true then 100000 else (if (xd.2 == ([118, 104] : Bs)) = true then 100000 else 1000)))))
def dpxj13 (xd : Int × Bs) (xk : Int × Int × Int × Int) (K : Int → Int → Prop) : Prop :=
 byP (w6 (xd.1 * (dpxV1 xd xk))) (dpxV2 xd) ∧ K (dcutM (downM (w6 (xd.1 * (dpxV1 xd xk))) (dpxV2 xd))) 0
def dpxj37 (xd : Int × Bs) (xk : Int × Int × Int × Int) (K : Int → Int → Prop) : Prop :=
 ((((!(xd.2 == ([] : Bs))) || (xd.1 != 0))) = true → K 0 7) ∧ ((((!(xd.2 == ([] : Bs))) || (xd.1 != 0))) = false → dpxj13 xd xk K)
def dpxj4 (xd : Int × Bs) (xk : Int × Int × Int × Int) (K : Int → Int → Prop) : Prop :=
 (((dpxV0 xd xk)) = true → K 0 1) ∧ (((dpxV0 xd xk)) = false → (((xd.2 == ([112, 120] : Bs))) = true → dpxj13 xd xk K) ∧ (((xd.2 == ([112, 120] : Bs))) = false → (((xd.2 == ([101, 109] : Bs))) = true → dpxj13 xd xk K) ∧ (((xd.2 == ([101, 109] : Bs))) = false → (((xd.2 == ([114, 101, 109] : Bs))) = true → dpxj13 xd xk K) ∧ (((xd.2 == ([114, 101, 109] : Bs))) = false → (((xd.2 == ([118, 119] : Bs))) = true → dpxj13 xd xk K) ∧ (((xd.2 == ([118, 119] : Bs))) = false → (((xd.2 == ([118, 104] : Bs))) = true → dpxj13 xd xk K) ∧ (((xd.2 == ([118, 104] : Bs))) = false → ((!(xd.2 == ([] : Bs))) = true → dpxj37 xd xk K) ∧ ((!(xd.2 == ([] : Bs))) = false → dpxj37 xd xk K)))))))
def dpxF (xd : Int × Bs) (xk : Int × Int × Int × Int) (K : Int → Int → Prop) : Prop :=
 ((!(dinM xd.1 (-1000000000) 1000000000)) = true → dpxj4 xd xk K) ∧ ((!(dinM xd.1 (-1000000000) 1000000000)) = false → ((!(dinM xk.1 0 16777216)) = true → dpxj4 xd xk K) ∧ ((!(dinM xk.1 0 16777216)) = false → ((!(dinM xk.2.1 0 16777216)) = true → dpxj4 xd xk K) ∧ ((!(dinM xk.2.1 0 16777216)) = false → ((!(dinM xk.2.2.1 1 4000)) = true → dpxj4 xd xk K) ∧ ((!(dinM xk.2.2.1 1 4000)) = false → dpxj4 xd xk K))))
theorem dpx_ok {g : Ghost} (xd : Int × Bs) (xk : Int × Int × Int × Int) (K : Int → Int → Prop)
  (hF : dpxF xd xk K) : CallsH Tryz.prog 47 #[.agg #[.int .i64 xd.1, sv xd.2], .agg #[.int .i64 xk.1, .int .i64 xk.2.1, .int .i64 xk.2.2.1, .int .i64 xk.2.2.2]] g [] (fun g' H' v => ∃ (r0 : Int), ∃ (r1 : Int), v = .tuple #[.int .i64 r0, .int .i64 r1] ∧ H' = [] ∧ K r0 r1) := by
 refine CallsH.enter 73 [(0, .agg #[.int .i64 xd.1, sv xd.2]), (1, .agg #[.int .i64 xk.1, .int .i64 xk.2.1, .int .i64 xk.2.2.1, .int .i64 xk.2.2.2])] Tryz.func47 rfl (by kernel_rfl) (by kernel_rfl) (by kernel_rfl) fun w0 => ?_
 refine Ok.seq (Ok.region (Ok.op rfl (OpOk.box (v := .agg #[.int .i64 xd.1, sv xd.2]) (cs := #[.int .i64 xd.1, sv xd.2]) rfl (by kernel_rfl) rfl fun bs2 => ?_)))
 refine Ok.op rfl (OpOk.box (v := .agg #[.int .i64 xk.1, .int .i64 xk.2.1, .int .i64 xk.2.2.1, .int .i64 xk.2.2.2]) (cs := #[.int .i64 xk.1, .int .i64 xk.2.1, .int .i64 xk.2.2.1, .int .i64 xk.2.2.2]) rfl (by kernel_rfl) rfl fun bs3 => ?_)
 refine Ok.batch 2 [(2, pv bs2 0), (3, pv bs3 0)] (by kernel_rfl) (Ok.nil (Ok.thenN (Ok.seq (Ok.cut (fun a W => StA 73 [(2, pv bs2 0), (3, pv bs3 0), (35, .bool (dpxV0 xd xk))] a ∧ StW w0 [.blk bs3 (.cells #[.int .i64 xk.1, .int .i64 xk.2.1, .int .i64 xk.2.2.1, .int .i64 xk.2.2.2] 28), .blk bs2 (.cells #[.int .i64 xd.1, sv xd.2] 23)] g W ∧ dpxj4 xd xk K) ?_ ?_))))
 ·
  refine Ok.region (Ok.bat 1 [2, 3] [(8, pv bs2 0)] ?_)
  refine Ok.op rfl (OpOk.step (v := .int .i64 xd.1) (Yields.load 1 rfl rfl Tryz.underlying3 rfl (by kernel_rfl)) rfl rfl (Ok.op rfl (OpOk.callG (v := .bool (dinM xd.1 (-1000000000) 1000000000)) enr (fun W hW => din_c xd.1 (-1000000000) 1000000000) rfl ?_)))
  refine Ok.bat 2 [2, 3] [(12, .bool (!(dinM xd.1 (-1000000000) 1000000000)))] ?_
  refine Ok.boolAt 12 (!(dinM xd.1 (-1000000000) 1000000000)) rfl (fun hc12 => ?_) (fun hc12 => ?_)
  ·replace hF := hF.1 hc12
   refine Ok.bat 23 [2, 3] [(35, .bool true)] ?_
   refine Ok.nil (Ok.thenN (Ok.reval 35 rfl (show (.bool true : Value) = .bool (dpxV0 xd xk) from congrArg (Value.bool) (mor_t hc12)) ?_))
   exact fun a W hA hW => ⟨hA.sub (by kernel_rfl), hW, hF⟩
  ·replace hF := hF.2 hc12
   refine Ok.bat 1 [2, 3] [(12, .bool false), (13, pv bs3 0)] ?_
   refine Ok.opYes (j := 4) (d := 12) (want := false) (b := false) rfl (by kernel_rfl) (by kernel_rfl) rfl (OpOk.step (v := .int .i64 xk.1) (Yields.load 0 rfl rfl Tryz.underlying3 rfl (by kernel_rfl)) rfl rfl (Ok.opYes (j := 4) (d := 12) (want := false) (b := false) rfl (by kernel_rfl) (by kernel_rfl) rfl (OpOk.callG (v := .bool (dinM xk.1 0 16777216)) enr (fun W hW => din_c xk.1 0 16777216) rfl ?_)))
   refine Ok.bat 3 [2, 3] [(18, .bool (!(dinM xk.1 0 16777216)))] ?_
   refine Ok.boolAt 18 (!(dinM xk.1 0 16777216)) rfl (fun hc13 => ?_) (fun hc13 => ?_)
   ·replace hF := hF.1 hc13
    refine Ok.bat 17 [2, 3] [(35, .bool true)] ?_
    refine Ok.nil (Ok.thenN (Ok.reval 35 rfl (show (.bool true : Value) = .bool (dpxV0 xd xk) from congrArg (Value.bool) ((Eq.trans (mor_t hc13) (mor_f hc12)))) ?_))
    exact fun a W hA hW => ⟨hA.sub (by kernel_rfl), hW, hF⟩
   ·replace hF := hF.2 hc13
    refine Ok.bat 1 [2, 3] [(18, .bool false), (19, pv bs3 1)] ?_
    refine Ok.opYes (j := 10) (d := 18) (want := false) (b := false) rfl (by kernel_rfl) (by kernel_rfl) rfl (OpOk.step (v := .int .i64 xk.2.1) (Yields.load 0 rfl rfl Tryz.underlying3 rfl (by kernel_rfl)) rfl rfl (Ok.opYes (j := 10) (d := 18) (want := false) (b := false) rfl (by kernel_rfl) (by kernel_rfl) rfl (OpOk.callG (v := .bool (dinM xk.2.1 0 16777216)) enr (fun W hW => din_c xk.2.1 0 16777216) rfl ?_)))
    refine Ok.bat 3 [2, 3] [(24, .bool (!(dinM xk.2.1 0 16777216)))] ?_
    refine Ok.boolAt 24 (!(dinM xk.2.1 0 16777216)) rfl (fun hc14 => ?_) (fun hc14 => ?_)
    ·replace hF := hF.1 hc14
     refine Ok.bat 11 [2, 3] [(35, .bool true)] ?_
     refine Ok.nil (Ok.thenN (Ok.reval 35 rfl (show (.bool true : Value) = .bool (dpxV0 xd xk) from congrArg (Value.bool) ((Eq.trans ((Eq.trans (mor_t hc14) (mor_f hc13))) (mor_f hc12)))) ?_))
     exact fun a W hA hW => ⟨hA.sub (by kernel_rfl), hW, hF⟩
    ·replace hF := hF.2 hc14
     refine Ok.bat 1 [2, 3] [(24, .bool false), (25, pv bs3 2)] ?_
     refine Ok.opYes (j := 16) (d := 24) (want := false) (b := false) rfl (by kernel_rfl) (by kernel_rfl) rfl (OpOk.step (v := .int .i64 xk.2.2.1) (Yields.load 0 rfl rfl Tryz.underlying3 rfl (by kernel_rfl)) rfl rfl (Ok.opYes (j := 16) (d := 24) (want := false) (b := false) rfl (by kernel_rfl) (by kernel_rfl) rfl (OpOk.callG (v := .bool (dinM xk.2.2.1 1 4000)) enr (fun W hW => din_c xk.2.2.1 1 4000) rfl ?_)))
     refine Ok.bat 3 [2, 3] [(30, .bool (!(dinM xk.2.2.1 1 4000)))] ?_
     refine Ok.boolAt 30 (!(dinM xk.2.2.1 1 4000)) rfl (fun hc15 => ?_) (fun hc15 => ?_)
     ·replace hF := hF.1 hc15
      refine Ok.bat 5 [2, 3] [(35, .bool true)] ?_
      refine Ok.nil (Ok.thenN (Ok.reval 35 rfl (show (.bool true : Value) = .bool (dpxV0 xd xk) from congrArg (Value.bool) ((Eq.trans ((Eq.trans ((Eq.trans (mor_t hc15) (mor_f hc14))) (mor_f hc13))) (mor_f hc12)))) ?_))
      exact fun a W hA hW => ⟨hA.sub (by kernel_rfl), hW, hF⟩
     ·replace hF := hF.2 hc15
      refine Ok.bat 1 [2, 3] [(30, .bool false), (31, pv bs3 3)] ?_
      refine Ok.opYes (j := 22) (d := 30) (want := false) (b := false) rfl (by kernel_rfl) (by kernel_rfl) rfl (OpOk.step (v := .int .i64 xk.2.2.2) (Yields.load 0 rfl rfl Tryz.underlying3 rfl (by kernel_rfl)) rfl rfl (Ok.opYes (j := 22) (d := 30) (want := false) (b := false) rfl (by kernel_rfl) (by kernel_rfl) rfl (OpOk.callG (v := .bool (dinM xk.2.2.2 1 4000)) enr (fun W hW => din_c xk.2.2.2 1 4000) rfl ?_)))
      refine Ok.bat 2 [2, 3] [(35, .bool (!(dinM xk.2.2.2 1 4000)))] ?_
      refine Ok.nil (Ok.thenN (Ok.reval 35 rfl (show (.bool (!(dinM xk.2.2.2 1 4000)) : Value) = .bool (dpxV0 xd xk) from congrArg (Value.bool) ((Eq.trans ((Eq.trans ((Eq.trans (mor_f hc15) (mor_f hc14))) (mor_f hc13))) (mor_f hc12)))) ?_))
      exact fun a W hA hW => ⟨hA.sub (by kernel_rfl), hW, hF⟩
 ·
  clear hF
  rintro a W ⟨hA, hW, hF⟩
  refine (?_ : Ok _ _ _ _ _ _) a W hA hW
  clear hA hW
  refine Ok.cond (b := (dpxV0 xd xk)) rfl (fun hc3 => ?_) (fun hc3 => ?_)
  ·replace hF := hF.1 hc3
   refine Ok.seq (Ok.region (Ok.batch 2 [(4, .int .i64 0), (5, .int .i64 1)] (by kernel_rfl) (Ok.nil (Ok.thenN (Ok.ret (Ok.thenR ?_))))))
   exact Ok.resP (vs := [.int .i64 0, .int .i64 1]) [] [] (by decide) rfl (.inl rfl) rfl (.cons (.tmp rfl) (.cons (.tmp rfl) .nil)) (Gext.refl w0 g) ⟨0, 1, rfl, rfl, hF⟩
  ·replace hF := hF.2 hc3
   refine Ok.skip (Ok.thenN (Ok.seq (Ok.region (Ok.bat 2 [2, 3] [(6, .int .i64 0), (7, .int .i64 1000)] ?_))))
   refine Ok.nil (Ok.thenN (Ok.cut (fun a W => StA 73 [(2, pv bs2 0), (6, .int .i64 (dpxV1 xd xk)), (7, .int .i64 (dpxV2 xd))] a ∧ StW w0 [.blk bs2 (.cells #[.int .i64 xd.1, sv xd.2] 23)] g W ∧ dpxj13 xd xk K) ?_ ?_))
   ·
    refine Ok.seq (Ok.region (Ok.bat 1 [2, 3, 6, 7] [(36, pv bs2 1)] ?_))
    refine Ok.op rfl (OpOk.step (v := sv xd.2) (Yields.load 1 rfl rfl Tryz.underlying9 rfl (by kernel_rfl)) rfl rfl (Ok.nil (Ok.thenN (Ok.block (Ok.seq (Ok.region (Ok.op rfl (OpOk.step (v := .bool (xd.2 == ([112, 120] : Bs))) (Yields.strCmp (f := .eql) (a := xd.2) (b := ([112, 120] : Bs)) (by kernel_rfl) (by kernel_rfl) rfl) rfl rfl (Ok.bat 1 [2, 3, 6, 7] [(37, sv xd.2), (46, .bool (xd.2 == ([112, 120] : Bs)))] ?_)))))))))
    refine Ok.nil (Ok.thenN (Ok.cond (b := (xd.2 == ([112, 120] : Bs))) rfl (fun hc5 => ?_) (fun hc5 => ?_)))
    ·replace hF := hF.1 hc5
     refine Ok.region (Ok.bat 1 [2, 7] [(6, .int .i64 64)] ?_)
     refine Ok.nil (Ok.blockN (Ok.thenN (Ok.reval 6 rfl (show (.int .i64 64 : Value) = .int .i64 (dpxV1 xd xk) from congrArg (Value.int .i64) ((if_t hc5).symm)) (Ok.reval 7 rfl (show (.int .i64 1000 : Value) = .int .i64 (dpxV2 xd) from congrArg (Value.int .i64) ((if_t hc5).symm)) ?_))))
     exact fun a W hA hW => ⟨hA.sub (by kernel_rfl), hW.sub (.cons _ (.cons_cons _ .slnil)), hF⟩
    ·replace hF := hF.2 hc5
     refine Ok.seq (Ok.region (Ok.op rfl (OpOk.step (v := .bool (xd.2 == ([101, 109] : Bs))) (Yields.strCmp (f := .eql) (a := xd.2) (b := ([101, 109] : Bs)) (by kernel_rfl) (by kernel_rfl) rfl) rfl rfl (Ok.bat 1 [2, 3, 6, 7, 37] [(48, .bool (xd.2 == ([101, 109] : Bs)))] ?_))))
     refine Ok.nil (Ok.thenN (Ok.cond (b := (xd.2 == ([101, 109] : Bs))) rfl (fun hc6 => ?_) (fun hc6 => ?_)))
     ·replace hF := hF.1 hc6
      refine Ok.region (Ok.bat 1 [2, 7] [(50, pv bs3 0)] ?_)
      refine Ok.op rfl (OpOk.step (v := .int .i64 xk.1) (Yields.load 0 rfl rfl Tryz.underlying3 rfl (by kernel_rfl)) rfl rfl (Ok.bat 1 [2, 7] [(6, .int .i64 xk.1)] ?_))
      refine Ok.nil (Ok.blockN (Ok.thenN (Ok.reval 6 rfl (show (.int .i64 xk.1 : Value) = .int .i64 (dpxV1 xd xk) from congrArg (Value.int .i64) ((Eq.trans ((if_t hc6).symm) ((if_f hc5).symm)))) (Ok.reval 7 rfl (show (.int .i64 1000 : Value) = .int .i64 (dpxV2 xd) from congrArg (Value.int .i64) ((Eq.trans ((if_t hc6).symm) ((if_f hc5).symm)))) ?_))))
      exact fun a W hA hW => ⟨hA.sub (by kernel_rfl), hW.sub (.cons _ (.cons_cons _ .slnil)), hF⟩
     ·replace hF := hF.2 hc6
      refine Ok.seq (Ok.region (Ok.op rfl (OpOk.step (v := .bool (xd.2 == ([114, 101, 109] : Bs))) (Yields.strCmp (f := .eql) (a := xd.2) (b := ([114, 101, 109] : Bs)) (by kernel_rfl) (by kernel_rfl) rfl) rfl rfl (Ok.bat 1 [2, 3, 6, 7, 37] [(52, .bool (xd.2 == ([114, 101, 109] : Bs)))] ?_))))
      refine Ok.nil (Ok.thenN (Ok.cond (b := (xd.2 == ([114, 101, 109] : Bs))) rfl (fun hc7 => ?_) (fun hc7 => ?_)))
      ·replace hF := hF.1 hc7
       refine Ok.region (Ok.bat 1 [2, 7] [(54, pv bs3 1)] ?_)
       refine Ok.op rfl (OpOk.step (v := .int .i64 xk.2.1) (Yields.load 0 rfl rfl Tryz.underlying3 rfl (by kernel_rfl)) rfl rfl (Ok.bat 1 [2, 7] [(6, .int .i64 xk.2.1)] ?_))
       refine Ok.nil (Ok.blockN (Ok.thenN (Ok.reval 6 rfl (show (.int .i64 xk.2.1 : Value) = .int .i64 (dpxV1 xd xk) from congrArg (Value.int .i64) ((Eq.trans ((Eq.trans ((if_t hc7).symm) ((if_f hc6).symm))) ((if_f hc5).symm)))) (Ok.reval 7 rfl (show (.int .i64 1000 : Value) = .int .i64 (dpxV2 xd) from congrArg (Value.int .i64) ((Eq.trans ((Eq.trans ((if_t hc7).symm) ((if_f hc6).symm))) ((if_f hc5).symm)))) ?_))))
       exact fun a W hA hW => ⟨hA.sub (by kernel_rfl), hW.sub (.cons _ (.cons_cons _ .slnil)), hF⟩
      ·replace hF := hF.2 hc7
       refine Ok.seq (Ok.region (Ok.op rfl (OpOk.step (v := .bool (xd.2 == ([118, 119] : Bs))) (Yields.strCmp (f := .eql) (a := xd.2) (b := ([118, 119] : Bs)) (by kernel_rfl) (by kernel_rfl) rfl) rfl rfl (Ok.bat 1 [2, 3, 6, 7, 37] [(56, .bool (xd.2 == ([118, 119] : Bs)))] ?_))))
       refine Ok.nil (Ok.thenN (Ok.cond (b := (xd.2 == ([118, 119] : Bs))) rfl (fun hc8 => ?_) (fun hc8 => ?_)))
       ·replace hF := hF.1 hc8
        refine Ok.region (Ok.bat 1 [2] [(58, pv bs3 2)] ?_)
        refine Ok.op rfl (OpOk.step (v := .int .i64 xk.2.2.1) (Yields.load 0 rfl rfl Tryz.underlying3 rfl (by kernel_rfl)) rfl rfl (Ok.bat 3 [2] [(6, .int .i64 (w6 (64 * xk.2.2.1))), (7, .int .i64 100000)] ?_))
        refine Ok.nil (Ok.blockN (Ok.thenN (Ok.reval 6 rfl (show (.int .i64 (w6 (64 * xk.2.2.1)) : Value) = .int .i64 (dpxV1 xd xk) from congrArg (Value.int .i64) ((Eq.trans ((Eq.trans ((Eq.trans ((if_t hc8).symm) ((if_f hc7).symm))) ((if_f hc6).symm))) ((if_f hc5).symm)))) (Ok.reval 7 rfl (show (.int .i64 100000 : Value) = .int .i64 (dpxV2 xd) from congrArg (Value.int .i64) ((Eq.trans ((Eq.trans ((Eq.trans ((if_t hc8).symm) ((if_f hc7).symm))) ((if_f hc6).symm))) ((if_f hc5).symm)))) ?_))))
        exact fun a W hA hW => ⟨hA.sub (by kernel_rfl), hW.sub (.cons _ (.cons_cons _ .slnil)), hF⟩
       ·replace hF := hF.2 hc8
        refine Ok.seq (Ok.region (Ok.op rfl (OpOk.step (v := .bool (xd.2 == ([118, 104] : Bs))) (Yields.strCmp (f := .eql) (a := xd.2) (b := ([118, 104] : Bs)) (by kernel_rfl) (by kernel_rfl) rfl) rfl rfl (Ok.bat 1 [2, 3, 6, 7] [(61, .bool (xd.2 == ([118, 104] : Bs)))] ?_))))
        refine Ok.nil (Ok.thenN (Ok.cond (b := (xd.2 == ([118, 104] : Bs))) rfl (fun hc9 => ?_) (fun hc9 => ?_)))
        ·replace hF := hF.1 hc9
         refine Ok.region (Ok.bat 1 [2] [(63, pv bs3 3)] ?_)
         refine Ok.op rfl (OpOk.step (v := .int .i64 xk.2.2.2) (Yields.load 0 rfl rfl Tryz.underlying3 rfl (by kernel_rfl)) rfl rfl (Ok.bat 3 [2] [(6, .int .i64 (w6 (64 * xk.2.2.2))), (7, .int .i64 100000)] ?_))
         refine Ok.nil (Ok.blockN (Ok.thenN (Ok.reval 6 rfl (show (.int .i64 (w6 (64 * xk.2.2.2)) : Value) = .int .i64 (dpxV1 xd xk) from congrArg (Value.int .i64) ((Eq.trans ((Eq.trans ((Eq.trans ((Eq.trans ((if_t hc9).symm) ((if_f hc8).symm))) ((if_f hc7).symm))) ((if_f hc6).symm))) ((if_f hc5).symm)))) (Ok.reval 7 rfl (show (.int .i64 100000 : Value) = .int .i64 (dpxV2 xd) from congrArg (Value.int .i64) ((Eq.trans ((Eq.trans ((Eq.trans ((Eq.trans ((if_t hc9).symm) ((if_f hc8).symm))) ((if_f hc7).symm))) ((if_f hc6).symm))) ((if_f hc5).symm)))) ?_))))
         exact fun a W hA hW => ⟨hA.sub (by kernel_rfl), hW.sub (.cons _ (.cons_cons _ .slnil)), hF⟩
        ·replace hF := hF.2 hc9
         refine Ok.cut (fun a W => StA 73 [(2, pv bs2 0), (6, .int .i64 0), (7, .int .i64 1000), (45, .bool ((!(xd.2 == ([] : Bs))) || (xd.1 != 0)))] a ∧ StW w0 [.blk bs2 (.cells #[.int .i64 xd.1, sv xd.2] 23)] g W ∧ dpxj37 xd xk K) ?_ ?_
         ·
          refine Ok.region (Ok.bat 1 [2, 6, 7] [(38, pv bs2 1)] ?_)
          refine Ok.op rfl (OpOk.step (v := sv xd.2) (Yields.load 1 rfl rfl Tryz.underlying9 rfl (by kernel_rfl)) rfl rfl (Ok.op rfl (OpOk.step (v := .bool (!(xd.2 == ([] : Bs)))) (Yields.strCmp (f := .neq) (a := xd.2) (b := ([] : Bs)) (by kernel_rfl) (by kernel_rfl) rfl) rfl rfl (Ok.bat 1 [2, 6, 7] [(41, .bool (!(xd.2 == ([] : Bs))))] ?_))))
          refine Ok.boolAt 41 (!(xd.2 == ([] : Bs))) rfl (fun hc11 => ?_) (fun hc11 => ?_)
          ·replace hF := hF.1 hc11
           refine Ok.bat 4 [2, 6, 7] [(45, .bool true)] ?_
           refine Ok.nil (Ok.thenN (Ok.reval 45 rfl (show (.bool true : Value) = .bool ((!(xd.2 == ([] : Bs))) || (xd.1 != 0)) from congrArg (Value.bool) (mor_t hc11)) ?_))
           exact fun a W hA hW => ⟨hA.sub (by kernel_rfl), hW.sub (.cons _ (.cons_cons _ .slnil)), hF⟩
          ·replace hF := hF.2 hc11
           refine Ok.bat 1 [2, 6, 7] [(41, .bool false), (42, pv bs2 0)] ?_
           refine Ok.opYes (j := 3) (d := 41) (want := false) (b := false) rfl (by kernel_rfl) (by kernel_rfl) rfl (OpOk.step (v := .int .i64 xd.1) (Yields.load 1 rfl rfl Tryz.underlying3 rfl (by kernel_rfl)) rfl rfl (Ok.bat 2 [2, 6, 7] [(45, .bool (xd.1 != 0))] ?_))
           refine Ok.nil (Ok.thenN (Ok.reval 45 rfl (show (.bool (xd.1 != 0) : Value) = .bool ((!(xd.2 == ([] : Bs))) || (xd.1 != 0)) from congrArg (Value.bool) (mor_f hc11)) ?_))
           exact fun a W hA hW => ⟨hA.sub (by kernel_rfl), hW.sub (.cons _ (.cons_cons _ .slnil)), hF⟩
         ·
          clear hF
          rintro a W ⟨hA, hW, hF⟩
          refine (?_ : Ok _ _ _ _ _ _) a W hA hW
          clear hA hW
          refine Ok.cond (b := ((!(xd.2 == ([] : Bs))) || (xd.1 != 0))) rfl (fun hc10 => ?_) (fun hc10 => ?_)
          ·replace hF := hF.1 hc10
           refine Ok.seq (Ok.region (Ok.batch 2 [(4, .int .i64 0), (5, .int .i64 7)] (by kernel_rfl) (Ok.nil (Ok.thenN (Ok.ret (Ok.blockR (Ok.thenR ?_)))))))
           exact Ok.resP (vs := [.int .i64 0, .int .i64 7]) [] [] (by decide) rfl (.inl rfl) rfl (.cons (.tmp rfl) (.cons (.tmp rfl) .nil)) (Gext.refl w0 g) ⟨0, 7, rfl, rfl, hF⟩
          ·replace hF := hF.2 hc10
           refine Ok.skip (Ok.blockN (Ok.thenN (Ok.reval 6 rfl (show (.int .i64 0 : Value) = .int .i64 (dpxV1 xd xk) from congrArg (Value.int .i64) ((Eq.trans ((Eq.trans ((Eq.trans ((Eq.trans ((if_f hc9).symm) ((if_f hc8).symm))) ((if_f hc7).symm))) ((if_f hc6).symm))) ((if_f hc5).symm)))) (Ok.reval 7 rfl (show (.int .i64 1000 : Value) = .int .i64 (dpxV2 xd) from congrArg (Value.int .i64) ((Eq.trans ((Eq.trans ((Eq.trans ((Eq.trans ((if_f hc9).symm) ((if_f hc8).symm))) ((if_f hc7).symm))) ((if_f hc6).symm))) ((if_f hc5).symm)))) ?_))))
           exact fun a W hA hW => ⟨hA.sub (by kernel_rfl), hW, hF⟩
   ·
    clear hF
    rintro a W ⟨hA, hW, hF⟩
    refine (?_ : Ok _ _ _ _ _ _) a W hA hW
    clear hA hW
    refine Ok.seq (Ok.region (Ok.bat 1 [6, 7] [(66, pv bs2 0)] ?_))
    refine Ok.op rfl (OpOk.step (v := .int .i64 xd.1) (Yields.load 0 rfl rfl Tryz.underlying3 rfl (by kernel_rfl)) rfl rfl (Ok.batch 3 [(69, .int .i64 (w6 (xd.1 * (dpxV1 xd xk)))), (70, .int .i64 (dpxV2 xd))] (by kernel_rfl) ?_))
    obtain ⟨hp4, hF⟩ := hF
    refine Ok.op rfl (OpOk.callG (v := .int .i64 (downM (w6 (xd.1 * (dpxV1 xd xk))) (dpxV2 xd))) enr (fun W hW => down_c (w6 (xd.1 * (dpxV1 xd xk))) (dpxV2 xd) hp4) rfl ?_)
    refine Ok.op rfl (OpOk.callG (v := .int .i64 (dcutM (downM (w6 (xd.1 * (dpxV1 xd xk))) (dpxV2 xd)))) enr (fun W hW => dcut_c (downM (w6 (xd.1 * (dpxV1 xd xk))) (dpxV2 xd))) rfl ?_)
    refine Ok.batch 2 [(4, .int .i64 (dcutM (downM (w6 (xd.1 * (dpxV1 xd xk))) (dpxV2 xd)))), (5, .int .i64 0)] (by kernel_rfl) (Ok.nil (Ok.thenN (Ok.ret ?_)))
    exact Ok.resP (vs := [.int .i64 (dcutM (downM (w6 (xd.1 * (dpxV1 xd xk))) (dpxV2 xd))), .int .i64 0]) [] [] (by decide) rfl (.inl rfl) rfl (.cons (.tmp rfl) (.cons (.tmp rfl) .nil)) (Gext.refl w0 g) ⟨(dcutM (downM (w6 (xd.1 * (dpxV1 xd xk))) (dpxV2 xd))), 0, rfl, rfl, hF⟩
theorem v2_ne (n : Int) (d : Int × Bs) : byP n (dpxV2 d) := by
 unfold byP dpxV2
 repeat' split
 all_goals decide
def dpxj13M (xd : Int × Bs) (xk : Int × Int × Int × Int) : Int × Int := ((dcutM (downM (w6 (xd.1 * (dpxV1 xd xk))) (dpxV2 xd))), 0)
theorem dpxj13_A (xd : Int × Bs) (xk : Int × Int × Int × Int) (P : Int × Int → Prop) (h : P (dpxj13M xd xk)) : dpxj13 xd xk (fun k0 k1 => P (k0, k1)) := by
 unfold dpxj13M at h
 unfold dpxj13
 refine ⟨?_, ?_⟩
 ·first | exact v2_ne _ _ | omega | assumption | exact trivial | (have h0 := List.length_pos_iff.mpr (by assumption); omega) | (simp; omega) | (simp at *; omega)
 exact h
def dpxj37M (xd : Int × Bs) (xk : Int × Int × Int × Int) : Int × Int := (if ((!(xd.2 == ([] : Bs))) || (xd.1 != 0)) = true then (0, 7) else (dpxj13M xd xk))
theorem dpxj37_A (xd : Int × Bs) (xk : Int × Int × Int × Int) (P : Int × Int → Prop) (h : P (dpxj37M xd xk)) : dpxj37 xd xk (fun k0 k1 => P (k0, k1)) := by
 unfold dpxj37M at h
 unfold dpxj37
 refine ⟨fun hc0 => ?_, fun hc0 => ?_⟩
 ·rw [if_t hc0] at h
  have hd0 := hc0; try simp only [Bool.and_eq_true, Bool.or_eq_true, Bool.and_eq_false_iff, Bool.or_eq_false_iff, Bool.not_eq_true', Bool.not_eq_false', decide_eq_true_eq, decide_eq_false_iff_not, beq_iff_eq, beq_eq_false_iff_ne, ne_eq] at hd0
  exact h
 ·rw [if_f hc0] at h
  have hd0 := hc0; try simp only [Bool.and_eq_true, Bool.or_eq_true, Bool.and_eq_false_iff, Bool.or_eq_false_iff, Bool.not_eq_true', Bool.not_eq_false', decide_eq_true_eq, decide_eq_false_iff_not, beq_iff_eq, beq_eq_false_iff_ne, ne_eq] at hd0
  exact dpxj13_A xd xk _ h
def dpxj4M (xd : Int × Bs) (xk : Int × Int × Int × Int) : Int × Int := (if (dpxV0 xd xk) = true then (0, 1) else (if (xd.2 == ([112, 120] : Bs)) = true then (dpxj13M xd xk) else (if (xd.2 == ([101, 109] : Bs)) = true then (dpxj13M xd xk) else (if (xd.2 == ([114, 101, 109] : Bs)) = true then (dpxj13M xd xk) else (if (xd.2 == ([118, 119] : Bs)) = true then (dpxj13M xd xk) else (if (xd.2 == ([118, 104] : Bs)) = true then (dpxj13M xd xk) else (dpxj37M xd xk)))))))
theorem dpxj4_A (xd : Int × Bs) (xk : Int × Int × Int × Int) (P : Int × Int → Prop) (h : P (dpxj4M xd xk)) : dpxj4 xd xk (fun k0 k1 => P (k0, k1)) := by
 unfold dpxj4M at h
 unfold dpxj4
 refine ⟨fun hc0 => ?_, fun hc0 => ?_⟩
 ·rw [if_t hc0] at h
  exact h
 ·rw [if_f hc0] at h
  refine ⟨fun hc1 => ?_, fun hc1 => ?_⟩
  ·rw [if_t hc1] at h
   have hd1 := hc1; try simp only [Bool.and_eq_true, Bool.or_eq_true, Bool.and_eq_false_iff, Bool.or_eq_false_iff, Bool.not_eq_true', Bool.not_eq_false', decide_eq_true_eq, decide_eq_false_iff_not, beq_iff_eq, beq_eq_false_iff_ne, ne_eq] at hd1
   exact dpxj13_A xd xk _ h
  ·rw [if_f hc1] at h
   have hd1 := hc1; try simp only [Bool.and_eq_true, Bool.or_eq_true, Bool.and_eq_false_iff, Bool.or_eq_false_iff, Bool.not_eq_true', Bool.not_eq_false', decide_eq_true_eq, decide_eq_false_iff_not, beq_iff_eq, beq_eq_false_iff_ne, ne_eq] at hd1
   refine ⟨fun hc2 => ?_, fun hc2 => ?_⟩
   ·rw [if_t hc2] at h
    have hd2 := hc2; try simp only [Bool.and_eq_true, Bool.or_eq_true, Bool.and_eq_false_iff, Bool.or_eq_false_iff, Bool.not_eq_true', Bool.not_eq_false', decide_eq_true_eq, decide_eq_false_iff_not, beq_iff_eq, beq_eq_false_iff_ne, ne_eq] at hd2
    exact dpxj13_A xd xk _ h
   ·rw [if_f hc2] at h
    have hd2 := hc2; try simp only [Bool.and_eq_true, Bool.or_eq_true, Bool.and_eq_false_iff, Bool.or_eq_false_iff, Bool.not_eq_true', Bool.not_eq_false', decide_eq_true_eq, decide_eq_false_iff_not, beq_iff_eq, beq_eq_false_iff_ne, ne_eq] at hd2
    refine ⟨fun hc3 => ?_, fun hc3 => ?_⟩
    ·rw [if_t hc3] at h
     have hd3 := hc3; try simp only [Bool.and_eq_true, Bool.or_eq_true, Bool.and_eq_false_iff, Bool.or_eq_false_iff, Bool.not_eq_true', Bool.not_eq_false', decide_eq_true_eq, decide_eq_false_iff_not, beq_iff_eq, beq_eq_false_iff_ne, ne_eq] at hd3
     exact dpxj13_A xd xk _ h
    ·rw [if_f hc3] at h
     have hd3 := hc3; try simp only [Bool.and_eq_true, Bool.or_eq_true, Bool.and_eq_false_iff, Bool.or_eq_false_iff, Bool.not_eq_true', Bool.not_eq_false', decide_eq_true_eq, decide_eq_false_iff_not, beq_iff_eq, beq_eq_false_iff_ne, ne_eq] at hd3
     refine ⟨fun hc4 => ?_, fun hc4 => ?_⟩
     ·rw [if_t hc4] at h
      have hd4 := hc4; try simp only [Bool.and_eq_true, Bool.or_eq_true, Bool.and_eq_false_iff, Bool.or_eq_false_iff, Bool.not_eq_true', Bool.not_eq_false', decide_eq_true_eq, decide_eq_false_iff_not, beq_iff_eq, beq_eq_false_iff_ne, ne_eq] at hd4
      exact dpxj13_A xd xk _ h
     ·rw [if_f hc4] at h
      have hd4 := hc4; try simp only [Bool.and_eq_true, Bool.or_eq_true, Bool.and_eq_false_iff, Bool.or_eq_false_iff, Bool.not_eq_true', Bool.not_eq_false', decide_eq_true_eq, decide_eq_false_iff_not, beq_iff_eq, beq_eq_false_iff_ne, ne_eq] at hd4
      refine ⟨fun hc5 => ?_, fun hc5 => ?_⟩
      ·rw [if_t hc5] at h
       have hd5 := hc5; try simp only [Bool.and_eq_true, Bool.or_eq_true, Bool.and_eq_false_iff, Bool.or_eq_false_iff, Bool.not_eq_true', Bool.not_eq_false', decide_eq_true_eq, decide_eq_false_iff_not, beq_iff_eq, beq_eq_false_iff_ne, ne_eq] at hd5
       exact dpxj13_A xd xk _ h
      ·rw [if_f hc5] at h
       have hd5 := hc5; try simp only [Bool.and_eq_true, Bool.or_eq_true, Bool.and_eq_false_iff, Bool.or_eq_false_iff, Bool.not_eq_true', Bool.not_eq_false', decide_eq_true_eq, decide_eq_false_iff_not, beq_iff_eq, beq_eq_false_iff_ne, ne_eq] at hd5
       refine ⟨fun hc6 => ?_, fun hc6 => ?_⟩
       ·skip
        have hd6 := hc6; try simp only [Bool.and_eq_true, Bool.or_eq_true, Bool.and_eq_false_iff, Bool.or_eq_false_iff, Bool.not_eq_true', Bool.not_eq_false', decide_eq_true_eq, decide_eq_false_iff_not, beq_iff_eq, beq_eq_false_iff_ne, ne_eq] at hd6
        exact dpxj37_A xd xk _ h
       ·skip
        have hd6 := hc6; try simp only [Bool.and_eq_true, Bool.or_eq_true, Bool.and_eq_false_iff, Bool.or_eq_false_iff, Bool.not_eq_true', Bool.not_eq_false', decide_eq_true_eq, decide_eq_false_iff_not, beq_iff_eq, beq_eq_false_iff_ne, ne_eq] at hd6
        exact dpxj37_A xd xk _ h
def dpxM (xd : Int × Bs) (xk : Int × Int × Int × Int) : Int × Int := (dpxj4M xd xk)
theorem dpxF_A (xd : Int × Bs) (xk : Int × Int × Int × Int) (P : Int × Int → Prop) (h : P (dpxM xd xk)) : dpxF xd xk (fun k0 k1 => P (k0, k1)) := by
 unfold dpxM at h
 unfold dpxF
 refine ⟨fun hc0 => ?_, fun hc0 => ?_⟩
 ·skip
  exact dpxj4_A xd xk _ h
 ·skip
  refine ⟨fun hc1 => ?_, fun hc1 => ?_⟩
  ·skip
   exact dpxj4_A xd xk _ h
  ·skip
   refine ⟨fun hc2 => ?_, fun hc2 => ?_⟩
   ·skip
    exact dpxj4_A xd xk _ h
   ·skip
    refine ⟨fun hc3 => ?_, fun hc3 => ?_⟩
    ·skip
     exact dpxj4_A xd xk _ h
    ·skip
     exact dpxj4_A xd xk _ h
theorem dpx_F (xd : Int × Bs) (xk : Int × Int × Int × Int) : dpxF xd xk (fun k0 k1 => (k0, k1) = dpxM xd xk) :=
 dpxF_A xd xk (fun z => z = dpxM xd xk) rfl
theorem dpx_c {g : Ghost} (xd : Int × Bs) (xk : Int × Int × Int × Int)  : CallsG Tryz.prog 47 #[.agg #[.int .i64 xd.1, sv xd.2], .agg #[.int .i64 xk.1, .int .i64 xk.2.1, .int .i64 xk.2.2.1, .int .i64 xk.2.2.2]] g (.tuple #[.int .i64 (dpxM xd xk).1, .int .i64 (dpxM xd xk).2]) :=
 (dpx_ok xd xk _ (dpx_F xd xk)).gives (by rintro g' H' v _ ⟨r0, r1, rfl, rfl, hK⟩; obtain ⟨rfl, rfl⟩ : r0 = (dpxM xd xk).1 ∧ r1 = (dpxM xd xk).2 := ⟨congrArg (fun z => z.1) hK, congrArg (fun z => z.2) hK⟩; rfl)
def wholeV0 (xn : Int) (xby : Int) : Int :=
 (if (decide ((w6 ((w6 (Int.tdiv xn xby)) * xby)) > xn)) = true then w6 ((w6 (Int.tdiv xn xby)) - 1) else w6 (Int.tdiv xn xby))
def wholej5 (xn : Int) (xby : Int) (K : Int → Prop) : Prop :=
 K (wholeV0 xn xby)
def wholeF (xn : Int) (xby : Int) (K : Int → Prop) : Prop :=
 xby ≠ 0 ∧ ((decide ((w6 ((w6 (Int.tdiv xn xby)) * xby)) > xn)) = true → wholej5 xn xby K) ∧ ((decide ((w6 ((w6 (Int.tdiv xn xby)) * xby)) > xn)) = false → wholej5 xn xby K)
theorem whole_ok {g : Ghost} (xn : Int) (xby : Int) (K : Int → Prop)
  (hF : wholeF xn xby K) : CallsH Tryz.prog 30 #[.int .i64 xn, .int .i64 xby] g [] (fun g' H' v => ∃ (r0 : Int), v = .int .i64 r0 ∧ H' = [] ∧ K r0) := by
 refine CallsH.enter 17 [(0, .int .i64 xn), (1, .int .i64 xby)] Tryz.func30 rfl (by kernel_rfl) (by kernel_rfl) (by kernel_rfl) fun w0 => ?_
 refine Ok.seq (Ok.region (Ok.batch 1 [(0, .int .i64 xn), (1, .int .i64 xby)] (by kernel_rfl) (Ok.nil (Ok.thenN (Ok.seq (Ok.region (Ok.bat 2 [0, 1] [(6, .int .i64 xn), (7, .int .i64 xby)] ?_)))))))
 obtain ⟨hv, hF⟩ := hF
 refine Ok.op rfl (OpOk.step (v := .int .i64 (w6 (Int.tdiv xn xby))) (Yields.quo rfl rfl hv) rfl rfl (Ok.bat 1 [0, 1] [(5, .int .i64 (w6 (Int.tdiv xn xby)))] ?_))
 refine Ok.nil (Ok.thenN (Ok.cut (fun a W => StA 17 [(5, .int .i64 (wholeV0 xn xby))] a ∧ StW w0 [] g W ∧ wholej5 xn xby K) ?_ ?_))
 ·
  refine Ok.seq (Ok.region (Ok.bat 5 [5] [(13, .bool (decide ((w6 ((w6 (Int.tdiv xn xby)) * xby)) > xn)))] ?_))
  refine Ok.nil (Ok.thenN (Ok.cond (b := decide ((w6 ((w6 (Int.tdiv xn xby)) * xby)) > xn)) rfl (fun hc1 => ?_) (fun hc1 => ?_)))
  ·replace hF := hF.1 hc1
   refine Ok.region (Ok.batch 3 [(5, .int .i64 (w6 ((w6 (Int.tdiv xn xby)) - 1)))] (by kernel_rfl) (Ok.nil (Ok.thenN (Ok.reval 5 rfl (show (.int .i64 (w6 ((w6 (Int.tdiv xn xby)) - 1)) : Value) = .int .i64 (wholeV0 xn xby) from congrArg (Value.int .i64) ((if_t hc1).symm)) ?_))))
   exact fun a W hA hW => ⟨hA.sub (by kernel_rfl), hW, hF⟩
  ·replace hF := hF.2 hc1
   refine Ok.skip (Ok.thenN (Ok.reval 5 rfl (show (.int .i64 (w6 (Int.tdiv xn xby)) : Value) = .int .i64 (wholeV0 xn xby) from congrArg (Value.int .i64) ((if_f hc1).symm)) ?_))
   exact fun a W hA hW => ⟨hA.sub (by kernel_rfl), hW, hF⟩
 ·
  clear hF
  rintro a W ⟨hA, hW, hF⟩
  refine (?_ : Ok _ _ _ _ _ _) a W hA hW
  clear hA hW
  refine Ok.seq (Ok.region (Ok.batch 2 [(4, .int .i64 (wholeV0 xn xby))] (by kernel_rfl) (Ok.nil (Ok.thenN (Ok.ret ?_)))))
  exact Ok.resH (vs := [.int .i64 (wholeV0 xn xby)]) (.inl rfl) rfl (.cons (.tmp rfl) .nil) (Gext.refl w0 g) ⟨(wholeV0 xn xby), rfl, rfl, hF⟩
def wholej5M (xn : Int) (xby : Int) : Int := (wholeV0 xn xby)
theorem wholej5_A (xn : Int) (xby : Int) (P : Int → Prop) (h : P (wholej5M xn xby)) : wholej5 xn xby (fun k0 => P k0) := by
 unfold wholej5M at h
 unfold wholej5
 exact h
def wholeM (xn : Int) (xby : Int) : Int := (wholej5M xn xby)
theorem wholeF_A (xn : Int) (xby : Int) (hp : byP xn xby) (P : Int → Prop) (h : P (wholeM xn xby)) : wholeF xn xby (fun k0 => P k0) := by
 unfold wholeM at h
 unfold wholeF
 refine ⟨?_, ?_⟩
 ·first | exact hp | omega | assumption | exact trivial | (have h0 := List.length_pos_iff.mpr (by assumption); omega) | (simp; omega) | (simp at *; omega)
 refine ⟨fun hc0 => ?_, fun hc0 => ?_⟩
 ·skip
  have hd0 := hc0; try simp only [Bool.and_eq_true, Bool.or_eq_true, Bool.and_eq_false_iff, Bool.or_eq_false_iff, Bool.not_eq_true', Bool.not_eq_false', decide_eq_true_eq, decide_eq_false_iff_not, beq_iff_eq, beq_eq_false_iff_ne, ne_eq] at hd0
  exact wholej5_A xn xby _ h
 ·skip
  have hd0 := hc0; try simp only [Bool.and_eq_true, Bool.or_eq_true, Bool.and_eq_false_iff, Bool.or_eq_false_iff, Bool.not_eq_true', Bool.not_eq_false', decide_eq_true_eq, decide_eq_false_iff_not, beq_iff_eq, beq_eq_false_iff_ne, ne_eq] at hd0
  exact wholej5_A xn xby _ h
theorem whole_F (xn : Int) (xby : Int) (hp : byP xn xby) : wholeF xn xby (fun k0 => k0 = wholeM xn xby) :=
 wholeF_A xn xby hp (fun z => z = wholeM xn xby) rfl
theorem whole_c {g : Ghost} (xn : Int) (xby : Int)  (hp : byP xn xby) : CallsG Tryz.prog 30 #[.int .i64 xn, .int .i64 xby] g (.int .i64 (wholeM xn xby)) :=
 (whole_ok xn xby _ (whole_F xn xby hp)).gives (by rintro g' H' v _ ⟨r0, rfl, rfl, hK⟩; subst hK; rfl)
def rcutF (xn : Int) (K : Int → Prop) : Prop :=
 K (if (-16777216) < (if 16777216 < xn then 16777216 else xn) then (if 16777216 < xn then 16777216 else xn) else (-16777216))
theorem rcut_ok {g : Ghost} (xn : Int) (K : Int → Prop)
  (hF : rcutF xn K) : CallsH Tryz.prog 29 #[.int .i64 xn] g [] (fun g' H' v => ∃ (r0 : Int), v = .int .i64 r0 ∧ H' = [] ∧ K r0) := by
 refine CallsH.enter 6 [(0, .int .i64 xn)] Tryz.func29 rfl (by kernel_rfl) (by kernel_rfl) (by kernel_rfl) fun w0 => ?_
 refine Ok.seq (Ok.region (Ok.batch 1 [(0, .int .i64 xn)] (by kernel_rfl) (Ok.nil (Ok.thenN (Ok.seq (Ok.region (Ok.batch 4 [(2, .int .i64 (if (-16777216) < (if 16777216 < xn then 16777216 else xn) then (if 16777216 < xn then 16777216 else xn) else (-16777216)))] (by kernel_rfl) (Ok.nil (Ok.thenN (Ok.ret ?_))))))))))
 exact Ok.resH (vs := [.int .i64 (if (-16777216) < (if 16777216 < xn then 16777216 else xn) then (if 16777216 < xn then 16777216 else xn) else (-16777216))]) (.inl rfl) rfl (.cons (.tmp rfl) .nil) (Gext.refl w0 g) ⟨(if (-16777216) < (if 16777216 < xn then 16777216 else xn) then (if 16777216 < xn then 16777216 else xn) else (-16777216)), rfl, rfl, hF⟩
def rcutM (xn : Int) : Int := (if (-16777216) < (if 16777216 < xn then 16777216 else xn) then (if 16777216 < xn then 16777216 else xn) else (-16777216))
theorem rcutF_A (xn : Int) (P : Int → Prop) (h : P (rcutM xn)) : rcutF xn (fun k0 => P k0) := by
 unfold rcutM at h
 unfold rcutF
 exact h
theorem rcut_F (xn : Int) : rcutF xn (fun k0 => k0 = rcutM xn) :=
 rcutF_A xn (fun z => z = rcutM xn) rfl
theorem rcut_c {g : Ghost} (xn : Int)  : CallsG Tryz.prog 29 #[.int .i64 xn] g (.int .i64 (rcutM xn)) :=
 (rcut_ok xn _ (rcut_F xn)).gives (by rintro g' H' v _ ⟨r0, rfl, rfl, hK⟩; subst hK; rfl)
def sfaultV0 (xd : Int × Bs) (xk : Int × Int × Int × Int) : Bool :=
 ((decide (xd.1 < (-1000000000))) || ((decide (xd.1 > 1000000000)) || ((decide (xk.1 < 0)) || ((decide (xk.1 > 16777216)) || ((decide (xk.2.1 < 0)) || ((decide (xk.2.1 > 16777216)) || ((decide (xk.2.2.1 < 1)) || ((decide (xk.2.2.1 > 4000)) || ((decide (xk.2.2.2 < 1)) || (decide (xk.2.2.2 > 4000)))))))))))
def sfaultj3 (xd : Int × Bs) (xk : Int × Int × Int × Int) (K : Bool → Prop) : Prop :=
 K (sfaultV0 xd xk)
def sfaultF (xd : Int × Bs) (xk : Int × Int × Int × Int) (K : Bool → Prop) : Prop :=
 ((decide (xd.1 < (-1000000000))) = true → sfaultj3 xd xk K) ∧ ((decide (xd.1 < (-1000000000))) = false → ((decide (xd.1 > 1000000000)) = true → sfaultj3 xd xk K) ∧ ((decide (xd.1 > 1000000000)) = false → ((decide (xk.1 < 0)) = true → sfaultj3 xd xk K) ∧ ((decide (xk.1 < 0)) = false → ((decide (xk.1 > 16777216)) = true → sfaultj3 xd xk K) ∧ ((decide (xk.1 > 16777216)) = false → ((decide (xk.2.1 < 0)) = true → sfaultj3 xd xk K) ∧ ((decide (xk.2.1 < 0)) = false → ((decide (xk.2.1 > 16777216)) = true → sfaultj3 xd xk K) ∧ ((decide (xk.2.1 > 16777216)) = false → ((decide (xk.2.2.1 < 1)) = true → sfaultj3 xd xk K) ∧ ((decide (xk.2.2.1 < 1)) = false → ((decide (xk.2.2.1 > 4000)) = true → sfaultj3 xd xk K) ∧ ((decide (xk.2.2.1 > 4000)) = false → ((decide (xk.2.2.2 < 1)) = true → sfaultj3 xd xk K) ∧ ((decide (xk.2.2.2 < 1)) = false → sfaultj3 xd xk K)))))))))
theorem sfault_ok {g : Ghost} (xd : Int × Bs) (xk : Int × Int × Int × Int) (K : Bool → Prop)
  (hF : sfaultF xd xk K) : CallsH Tryz.prog 48 #[.agg #[.int .i64 xd.1, sv xd.2], .agg #[.int .i64 xk.1, .int .i64 xk.2.1, .int .i64 xk.2.2.1, .int .i64 xk.2.2.2]] g [] (fun g' H' v => ∃ (r0 : Bool), v = .bool r0 ∧ H' = [] ∧ K r0) := by
 refine CallsH.enter 53 [(0, .agg #[.int .i64 xd.1, sv xd.2]), (1, .agg #[.int .i64 xk.1, .int .i64 xk.2.1, .int .i64 xk.2.2.1, .int .i64 xk.2.2.2])] Tryz.func48 rfl (by kernel_rfl) (by kernel_rfl) (by kernel_rfl) fun w0 => ?_
 refine Ok.seq (Ok.region (Ok.op rfl (OpOk.box (v := .agg #[.int .i64 xd.1, sv xd.2]) (cs := #[.int .i64 xd.1, sv xd.2]) rfl (by kernel_rfl) rfl fun bs2 => ?_)))
 refine Ok.op rfl (OpOk.box (v := .agg #[.int .i64 xk.1, .int .i64 xk.2.1, .int .i64 xk.2.2.1, .int .i64 xk.2.2.2]) (cs := #[.int .i64 xk.1, .int .i64 xk.2.1, .int .i64 xk.2.2.1, .int .i64 xk.2.2.2]) rfl (by kernel_rfl) rfl fun bs3 => ?_)
 refine Ok.batch 1 [(2, pv bs2 0), (3, pv bs3 0)] (by kernel_rfl) (Ok.nil (Ok.thenN (Ok.cut (fun a W => StA 53 [(4, .bool (sfaultV0 xd xk))] a ∧ StW w0 [] g W ∧ sfaultj3 xd xk K) ?_ ?_)))
 ·
  refine Ok.region (Ok.bat 1 [2, 3] [(5, pv bs2 0)] ?_)
  refine Ok.op rfl (OpOk.step (v := .int .i64 xd.1) (Yields.load 1 rfl rfl Tryz.underlying3 rfl (by kernel_rfl)) rfl rfl (Ok.bat 2 [2, 3] [(8, .bool (decide (xd.1 < (-1000000000))))] ?_))
  refine Ok.boolAt 8 (decide (xd.1 < (-1000000000))) rfl (fun hc3 => ?_) (fun hc3 => ?_)
  ·replace hF := hF.1 hc3
   refine Ok.batch 45 [(4, .bool true)] (by kernel_rfl) (Ok.nil (Ok.thenN (Ok.reval 4 rfl (show (.bool true : Value) = .bool (sfaultV0 xd xk) from congrArg (Value.bool) (mor_t hc3)) ?_)))
   exact fun a W hA hW => ⟨hA.sub (by kernel_rfl), hW.sub (.cons _ (.cons _ .slnil)), hF⟩
  ·replace hF := hF.2 hc3
   refine Ok.bat 1 [3] [(8, .bool false), (9, pv bs2 0)] ?_
   refine Ok.opYes (j := 3) (d := 8) (want := false) (b := false) rfl (by kernel_rfl) (by kernel_rfl) rfl (OpOk.step (v := .int .i64 xd.1) (Yields.load 1 rfl rfl Tryz.underlying3 rfl (by kernel_rfl)) rfl rfl (Ok.bat 3 [3] [(13, .bool (decide (xd.1 > 1000000000)))] ?_))
   refine Ok.boolAt 13 (decide (xd.1 > 1000000000)) rfl (fun hc4 => ?_) (fun hc4 => ?_)
   ·replace hF := hF.1 hc4
    refine Ok.batch 40 [(4, .bool true)] (by kernel_rfl) (Ok.nil (Ok.thenN (Ok.reval 4 rfl (show (.bool true : Value) = .bool (sfaultV0 xd xk) from congrArg (Value.bool) ((Eq.trans (mor_t hc4) (mor_f hc3)))) ?_)))
    exact fun a W hA hW => ⟨hA.sub (by kernel_rfl), hW.sub (.cons _ (.cons _ .slnil)), hF⟩
   ·replace hF := hF.2 hc4
    refine Ok.bat 1 [3] [(13, .bool false), (14, pv bs3 0)] ?_
    refine Ok.opYes (j := 8) (d := 13) (want := false) (b := false) rfl (by kernel_rfl) (by kernel_rfl) rfl (OpOk.step (v := .int .i64 xk.1) (Yields.load 0 rfl rfl Tryz.underlying3 rfl (by kernel_rfl)) rfl rfl (Ok.bat 3 [3] [(18, .bool (decide (xk.1 < 0)))] ?_))
    refine Ok.boolAt 18 (decide (xk.1 < 0)) rfl (fun hc5 => ?_) (fun hc5 => ?_)
    ·replace hF := hF.1 hc5
     refine Ok.batch 35 [(4, .bool true)] (by kernel_rfl) (Ok.nil (Ok.thenN (Ok.reval 4 rfl (show (.bool true : Value) = .bool (sfaultV0 xd xk) from congrArg (Value.bool) ((Eq.trans ((Eq.trans (mor_t hc5) (mor_f hc4))) (mor_f hc3)))) ?_)))
     exact fun a W hA hW => ⟨hA.sub (by kernel_rfl), hW.sub (.cons _ (.cons _ .slnil)), hF⟩
    ·replace hF := hF.2 hc5
     refine Ok.bat 1 [3] [(18, .bool false), (19, pv bs3 0)] ?_
     refine Ok.opYes (j := 13) (d := 18) (want := false) (b := false) rfl (by kernel_rfl) (by kernel_rfl) rfl (OpOk.step (v := .int .i64 xk.1) (Yields.load 0 rfl rfl Tryz.underlying3 rfl (by kernel_rfl)) rfl rfl (Ok.bat 3 [3] [(23, .bool (decide (xk.1 > 16777216)))] ?_))
     refine Ok.boolAt 23 (decide (xk.1 > 16777216)) rfl (fun hc6 => ?_) (fun hc6 => ?_)
     ·replace hF := hF.1 hc6
      refine Ok.batch 30 [(4, .bool true)] (by kernel_rfl) (Ok.nil (Ok.thenN (Ok.reval 4 rfl (show (.bool true : Value) = .bool (sfaultV0 xd xk) from congrArg (Value.bool) ((Eq.trans ((Eq.trans ((Eq.trans (mor_t hc6) (mor_f hc5))) (mor_f hc4))) (mor_f hc3)))) ?_)))
      exact fun a W hA hW => ⟨hA.sub (by kernel_rfl), hW.sub (.cons _ (.cons _ .slnil)), hF⟩
     ·replace hF := hF.2 hc6
      refine Ok.bat 1 [3] [(23, .bool false), (24, pv bs3 1)] ?_
      refine Ok.opYes (j := 18) (d := 23) (want := false) (b := false) rfl (by kernel_rfl) (by kernel_rfl) rfl (OpOk.step (v := .int .i64 xk.2.1) (Yields.load 0 rfl rfl Tryz.underlying3 rfl (by kernel_rfl)) rfl rfl (Ok.bat 3 [3] [(28, .bool (decide (xk.2.1 < 0)))] ?_))
      refine Ok.boolAt 28 (decide (xk.2.1 < 0)) rfl (fun hc7 => ?_) (fun hc7 => ?_)
      ·replace hF := hF.1 hc7
       refine Ok.batch 25 [(4, .bool true)] (by kernel_rfl) (Ok.nil (Ok.thenN (Ok.reval 4 rfl (show (.bool true : Value) = .bool (sfaultV0 xd xk) from congrArg (Value.bool) ((Eq.trans ((Eq.trans ((Eq.trans ((Eq.trans (mor_t hc7) (mor_f hc6))) (mor_f hc5))) (mor_f hc4))) (mor_f hc3)))) ?_)))
       exact fun a W hA hW => ⟨hA.sub (by kernel_rfl), hW.sub (.cons _ (.cons _ .slnil)), hF⟩
      ·replace hF := hF.2 hc7
       refine Ok.bat 1 [3] [(28, .bool false), (29, pv bs3 1)] ?_
       refine Ok.opYes (j := 23) (d := 28) (want := false) (b := false) rfl (by kernel_rfl) (by kernel_rfl) rfl (OpOk.step (v := .int .i64 xk.2.1) (Yields.load 0 rfl rfl Tryz.underlying3 rfl (by kernel_rfl)) rfl rfl (Ok.bat 3 [3] [(33, .bool (decide (xk.2.1 > 16777216)))] ?_))
       refine Ok.boolAt 33 (decide (xk.2.1 > 16777216)) rfl (fun hc8 => ?_) (fun hc8 => ?_)
       ·replace hF := hF.1 hc8
        refine Ok.batch 20 [(4, .bool true)] (by kernel_rfl) (Ok.nil (Ok.thenN (Ok.reval 4 rfl (show (.bool true : Value) = .bool (sfaultV0 xd xk) from congrArg (Value.bool) ((Eq.trans ((Eq.trans ((Eq.trans ((Eq.trans ((Eq.trans (mor_t hc8) (mor_f hc7))) (mor_f hc6))) (mor_f hc5))) (mor_f hc4))) (mor_f hc3)))) ?_)))
        exact fun a W hA hW => ⟨hA.sub (by kernel_rfl), hW.sub (.cons _ (.cons _ .slnil)), hF⟩
       ·replace hF := hF.2 hc8
        refine Ok.bat 1 [3] [(33, .bool false), (34, pv bs3 2)] ?_
        refine Ok.opYes (j := 28) (d := 33) (want := false) (b := false) rfl (by kernel_rfl) (by kernel_rfl) rfl (OpOk.step (v := .int .i64 xk.2.2.1) (Yields.load 0 rfl rfl Tryz.underlying3 rfl (by kernel_rfl)) rfl rfl (Ok.bat 3 [3] [(38, .bool (decide (xk.2.2.1 < 1)))] ?_))
        refine Ok.boolAt 38 (decide (xk.2.2.1 < 1)) rfl (fun hc9 => ?_) (fun hc9 => ?_)
        ·replace hF := hF.1 hc9
         refine Ok.batch 15 [(4, .bool true)] (by kernel_rfl) (Ok.nil (Ok.thenN (Ok.reval 4 rfl (show (.bool true : Value) = .bool (sfaultV0 xd xk) from congrArg (Value.bool) ((Eq.trans ((Eq.trans ((Eq.trans ((Eq.trans ((Eq.trans ((Eq.trans (mor_t hc9) (mor_f hc8))) (mor_f hc7))) (mor_f hc6))) (mor_f hc5))) (mor_f hc4))) (mor_f hc3)))) ?_)))
         exact fun a W hA hW => ⟨hA.sub (by kernel_rfl), hW.sub (.cons _ (.cons _ .slnil)), hF⟩
        ·replace hF := hF.2 hc9
         refine Ok.bat 1 [3] [(38, .bool false), (39, pv bs3 2)] ?_
         refine Ok.opYes (j := 33) (d := 38) (want := false) (b := false) rfl (by kernel_rfl) (by kernel_rfl) rfl (OpOk.step (v := .int .i64 xk.2.2.1) (Yields.load 0 rfl rfl Tryz.underlying3 rfl (by kernel_rfl)) rfl rfl (Ok.bat 3 [3] [(43, .bool (decide (xk.2.2.1 > 4000)))] ?_))
         refine Ok.boolAt 43 (decide (xk.2.2.1 > 4000)) rfl (fun hc10 => ?_) (fun hc10 => ?_)
         ·replace hF := hF.1 hc10
          refine Ok.batch 10 [(4, .bool true)] (by kernel_rfl) (Ok.nil (Ok.thenN (Ok.reval 4 rfl (show (.bool true : Value) = .bool (sfaultV0 xd xk) from congrArg (Value.bool) ((Eq.trans ((Eq.trans ((Eq.trans ((Eq.trans ((Eq.trans ((Eq.trans ((Eq.trans (mor_t hc10) (mor_f hc9))) (mor_f hc8))) (mor_f hc7))) (mor_f hc6))) (mor_f hc5))) (mor_f hc4))) (mor_f hc3)))) ?_)))
          exact fun a W hA hW => ⟨hA.sub (by kernel_rfl), hW.sub (.cons _ (.cons _ .slnil)), hF⟩
         ·replace hF := hF.2 hc10
          refine Ok.bat 1 [3] [(43, .bool false), (44, pv bs3 3)] ?_
          refine Ok.opYes (j := 38) (d := 43) (want := false) (b := false) rfl (by kernel_rfl) (by kernel_rfl) rfl (OpOk.step (v := .int .i64 xk.2.2.2) (Yields.load 0 rfl rfl Tryz.underlying3 rfl (by kernel_rfl)) rfl rfl (Ok.bat 3 [3] [(48, .bool (decide (xk.2.2.2 < 1)))] ?_))
          refine Ok.boolAt 48 (decide (xk.2.2.2 < 1)) rfl (fun hc11 => ?_) (fun hc11 => ?_)
          ·replace hF := hF.1 hc11
           refine Ok.batch 5 [(4, .bool true)] (by kernel_rfl) (Ok.nil (Ok.thenN (Ok.reval 4 rfl (show (.bool true : Value) = .bool (sfaultV0 xd xk) from congrArg (Value.bool) ((Eq.trans ((Eq.trans ((Eq.trans ((Eq.trans ((Eq.trans ((Eq.trans ((Eq.trans ((Eq.trans (mor_t hc11) (mor_f hc10))) (mor_f hc9))) (mor_f hc8))) (mor_f hc7))) (mor_f hc6))) (mor_f hc5))) (mor_f hc4))) (mor_f hc3)))) ?_)))
           exact fun a W hA hW => ⟨hA.sub (by kernel_rfl), hW.sub (.cons _ (.cons _ .slnil)), hF⟩
          ·replace hF := hF.2 hc11
           refine Ok.batch 1 [(48, .bool false), (49, pv bs3 3)] (by kernel_rfl) (Ok.opYes (j := 43) (d := 48) (want := false) (b := false) rfl (by kernel_rfl) (by kernel_rfl) rfl (OpOk.step (v := .int .i64 xk.2.2.2) (Yields.load 0 rfl rfl Tryz.underlying3 rfl (by kernel_rfl)) rfl rfl (Ok.batch 3 [(4, .bool (decide (xk.2.2.2 > 4000)))] (by kernel_rfl) (Ok.nil (Ok.thenN (Ok.reval 4 rfl (show (.bool (decide (xk.2.2.2 > 4000)) : Value) = .bool (sfaultV0 xd xk) from congrArg (Value.bool) ((Eq.trans ((Eq.trans ((Eq.trans ((Eq.trans ((Eq.trans ((Eq.trans ((Eq.trans ((Eq.trans (mor_f hc11) (mor_f hc10))) (mor_f hc9))) (mor_f hc8))) (mor_f hc7))) (mor_f hc6))) (mor_f hc5))) (mor_f hc4))) (mor_f hc3)))) ?_))))))
           exact fun a W hA hW => ⟨hA.sub (by kernel_rfl), hW.sub (.cons _ (.cons _ .slnil)), hF⟩
 ·
  clear hF
  rintro a W ⟨hA, hW, hF⟩
  refine (?_ : Ok _ _ _ _ _ _) a W hA hW
  clear hA hW
  refine Ok.ret ?_
  exact Ok.resH (vs := [.bool (sfaultV0 xd xk)]) (.inl rfl) rfl (.cons (.tmp rfl) .nil) (Gext.refl w0 g) ⟨(sfaultV0 xd xk), rfl, rfl, hF⟩
def sfaultj3M (xd : Int × Bs) (xk : Int × Int × Int × Int) : Bool := (sfaultV0 xd xk)
theorem sfaultj3_A (xd : Int × Bs) (xk : Int × Int × Int × Int) (P : Bool → Prop) (h : P (sfaultj3M xd xk)) : sfaultj3 xd xk (fun k0 => P k0) := by
 unfold sfaultj3M at h
 unfold sfaultj3
 exact h
def sfaultM (xd : Int × Bs) (xk : Int × Int × Int × Int) : Bool := (sfaultj3M xd xk)
theorem sfaultF_A (xd : Int × Bs) (xk : Int × Int × Int × Int) (P : Bool → Prop) (h : P (sfaultM xd xk)) : sfaultF xd xk (fun k0 => P k0) := by
 unfold sfaultM at h
 unfold sfaultF
 refine ⟨fun hc0 => ?_, fun hc0 => ?_⟩
 ·skip
  have hd0 := of_decide_eq_true hc0
  exact sfaultj3_A xd xk _ h
 ·skip
  have hd0 := of_decide_eq_false hc0
  refine ⟨fun hc1 => ?_, fun hc1 => ?_⟩
  ·skip
   have hd1 := of_decide_eq_true hc1
   exact sfaultj3_A xd xk _ h
  ·skip
   have hd1 := of_decide_eq_false hc1
   refine ⟨fun hc2 => ?_, fun hc2 => ?_⟩
   ·skip
    have hd2 := of_decide_eq_true hc2
    exact sfaultj3_A xd xk _ h
   ·skip
    have hd2 := of_decide_eq_false hc2
    refine ⟨fun hc3 => ?_, fun hc3 => ?_⟩
    ·skip
     have hd3 := of_decide_eq_true hc3
     exact sfaultj3_A xd xk _ h
    ·skip
     have hd3 := of_decide_eq_false hc3
     refine ⟨fun hc4 => ?_, fun hc4 => ?_⟩
     ·skip
      have hd4 := of_decide_eq_true hc4
      exact sfaultj3_A xd xk _ h
     ·skip
      have hd4 := of_decide_eq_false hc4
      refine ⟨fun hc5 => ?_, fun hc5 => ?_⟩
      ·skip
       have hd5 := of_decide_eq_true hc5
       exact sfaultj3_A xd xk _ h
      ·skip
       have hd5 := of_decide_eq_false hc5
       refine ⟨fun hc6 => ?_, fun hc6 => ?_⟩
       ·skip
        have hd6 := of_decide_eq_true hc6
        exact sfaultj3_A xd xk _ h
       ·skip
        have hd6 := of_decide_eq_false hc6
        refine ⟨fun hc7 => ?_, fun hc7 => ?_⟩
        ·skip
         have hd7 := of_decide_eq_true hc7
         exact sfaultj3_A xd xk _ h
        ·skip
         have hd7 := of_decide_eq_false hc7
         refine ⟨fun hc8 => ?_, fun hc8 => ?_⟩
         ·skip
          have hd8 := of_decide_eq_true hc8
          exact sfaultj3_A xd xk _ h
         ·skip
          have hd8 := of_decide_eq_false hc8
          exact sfaultj3_A xd xk _ h
theorem sfault_F (xd : Int × Bs) (xk : Int × Int × Int × Int) : sfaultF xd xk (fun k0 => k0 = sfaultM xd xk) :=
 sfaultF_A xd xk (fun z => z = sfaultM xd xk) rfl
theorem sfault_c {g : Ghost} (xd : Int × Bs) (xk : Int × Int × Int × Int)  : CallsG Tryz.prog 48 #[.agg #[.int .i64 xd.1, sv xd.2], .agg #[.int .i64 xk.1, .int .i64 xk.2.1, .int .i64 xk.2.2.1, .int .i64 xk.2.2.2]] g (.bool (sfaultM xd xk)) :=
 (sfault_ok xd xk _ (sfault_F xd xk)).gives (by rintro g' H' v _ ⟨r0, rfl, rfl, hK⟩; subst hK; rfl)
def rpxj52 (xd : Int × Bs) (K : Int → Int → Prop) : Prop :=
 ((((xd.2 == ([] : Bs)) && (xd.1 == 0))) = true → K 0 0) ∧ ((((xd.2 == ([] : Bs)) && (xd.1 == 0))) = false → K 0 7)
def rpxF (xd : Int × Bs) (xk : Int × Int × Int × Int) (K : Int → Int → Prop) : Prop :=
 (((sfaultM xd xk)) = true → K 0 1) ∧ (((sfaultM xd xk)) = false → (((xd.2 == ([112, 120] : Bs))) = true → byP (w6 (xd.1 * 64)) 1000 ∧ K (rcutM (wholeM (w6 (xd.1 * 64)) 1000)) 0) ∧ (((xd.2 == ([112, 120] : Bs))) = false → (((xd.2 == ([101, 109] : Bs))) = true → byP (w6 (xd.1 * xk.1)) 1000 ∧ K (rcutM (wholeM (w6 (xd.1 * xk.1)) 1000)) 0) ∧ (((xd.2 == ([101, 109] : Bs))) = false → (((xd.2 == ([114, 101, 109] : Bs))) = true → byP (w6 (xd.1 * xk.2.1)) 1000 ∧ K (rcutM (wholeM (w6 (xd.1 * xk.2.1)) 1000)) 0) ∧ (((xd.2 == ([114, 101, 109] : Bs))) = false → (((xd.2 == ([118, 119] : Bs))) = true → byP (w6 ((w6 (xd.1 * 64)) * xk.2.2.1)) 100000 ∧ K (rcutM (wholeM (w6 ((w6 (xd.1 * 64)) * xk.2.2.1)) 100000)) 0) ∧ (((xd.2 == ([118, 119] : Bs))) = false → (((xd.2 == ([118, 104] : Bs))) = true → byP (w6 ((w6 (xd.1 * 64)) * xk.2.2.2)) 100000 ∧ K (rcutM (wholeM (w6 ((w6 (xd.1 * 64)) * xk.2.2.2)) 100000)) 0) ∧ (((xd.2 == ([118, 104] : Bs))) = false → (((xd.2 == ([] : Bs))) = true → rpxj52 xd K) ∧ (((xd.2 == ([] : Bs))) = false → rpxj52 xd K)))))))
theorem rpx_ok {g : Ghost} (xd : Int × Bs) (xk : Int × Int × Int × Int) (K : Int → Int → Prop)
  (hF : rpxF xd xk K) : CallsH Tryz.prog 31 #[.agg #[.int .i64 xd.1, sv xd.2], .agg #[.int .i64 xk.1, .int .i64 xk.2.1, .int .i64 xk.2.2.1, .int .i64 xk.2.2.2]] g [] (fun g' H' v => ∃ (r0 : Int), ∃ (r1 : Int), v = .tuple #[.int .i64 r0, .int .i64 r1] ∧ H' = [] ∧ K r0 r1) := by
 refine CallsH.enter 67 [(0, .agg #[.int .i64 xd.1, sv xd.2]), (1, .agg #[.int .i64 xk.1, .int .i64 xk.2.1, .int .i64 xk.2.2.1, .int .i64 xk.2.2.2])] Tryz.func31 rfl (by kernel_rfl) (by kernel_rfl) (by kernel_rfl) fun w0 => ?_
 refine Ok.seq (Ok.region (Ok.op rfl (OpOk.box (v := .agg #[.int .i64 xd.1, sv xd.2]) (cs := #[.int .i64 xd.1, sv xd.2]) rfl (by kernel_rfl) rfl fun bs2 => ?_)))
 refine Ok.op rfl (OpOk.box (v := .agg #[.int .i64 xk.1, .int .i64 xk.2.1, .int .i64 xk.2.2.1, .int .i64 xk.2.2.2]) (cs := #[.int .i64 xk.1, .int .i64 xk.2.1, .int .i64 xk.2.2.1, .int .i64 xk.2.2.2]) rfl (by kernel_rfl) rfl fun bs3 => ?_)
 refine Ok.batch 2 [(2, pv bs2 0), (3, pv bs3 0)] (by kernel_rfl) (Ok.nil (Ok.thenN (Ok.seq (Ok.seq (Ok.region (Ok.op rfl (OpOk.step (v := .agg #[.int .i64 xd.1, sv xd.2]) (Yields.loadAgg 1 2 #[.int .i64 xd.1, sv xd.2] rfl rfl Tryz.underlying23 rfl (by kernel_rfl) (by kernel_rfl) (by kernel_rfl)) rfl rfl (Ok.op rfl (OpOk.step (v := .agg #[.int .i64 xk.1, .int .i64 xk.2.1, .int .i64 xk.2.2.1, .int .i64 xk.2.2.2]) (Yields.loadAgg 0 4 #[.int .i64 xk.1, .int .i64 xk.2.1, .int .i64 xk.2.2.1, .int .i64 xk.2.2.2] rfl rfl Tryz.underlying28 rfl (by kernel_rfl) (by kernel_rfl) (by kernel_rfl)) rfl rfl (Ok.op rfl (OpOk.callG (v := .bool (sfaultM xd xk)) enr (fun W hW => sfault_c xd xk) rfl ?_)))))))))))
 refine Ok.nil (Ok.thenN (Ok.cond (b := (sfaultM xd xk)) rfl (fun hc3 => ?_) (fun hc3 => ?_)))
 ·replace hF := hF.1 hc3
  refine Ok.seq (Ok.region (Ok.batch 2 [(4, .int .i64 0), (5, .int .i64 1)] (by kernel_rfl) (Ok.nil (Ok.thenN (Ok.ret (Ok.thenR ?_))))))
  exact Ok.resP (vs := [.int .i64 0, .int .i64 1]) [] [] (by decide) rfl (.inl rfl) rfl (.cons (.tmp rfl) (.cons (.tmp rfl) .nil)) (Gext.refl w0 g) ⟨0, 1, rfl, rfl, hF⟩
 ·replace hF := hF.2 hc3
  refine Ok.skip (Ok.thenN (Ok.seq (Ok.seq (Ok.region (Ok.bat 1 [2, 3] [(9, pv bs2 1)] ?_)))))
  refine Ok.op rfl (OpOk.step (v := sv xd.2) (Yields.load 1 rfl rfl Tryz.underlying9 rfl (by kernel_rfl)) rfl rfl (Ok.op rfl (OpOk.step (v := .bool (xd.2 == ([112, 120] : Bs))) (Yields.strCmp (f := .eql) (a := xd.2) (b := ([112, 120] : Bs)) (by kernel_rfl) (by kernel_rfl) rfl) rfl rfl (Ok.nil (Ok.thenN (Ok.cond (b := (xd.2 == ([112, 120] : Bs))) rfl (fun hc4 => ?_) (fun hc4 => ?_)))))))
  ·replace hF := hF.1 hc4
   refine Ok.seq (Ok.region (Ok.batch 1 [(12, pv bs2 0)] (by kernel_rfl) (Ok.op rfl (OpOk.step (v := .int .i64 xd.1) (Yields.load 1 rfl rfl Tryz.underlying3 rfl (by kernel_rfl)) rfl rfl (Ok.batch 1 [(14, .int .i64 (w6 (xd.1 * 64)))] (by kernel_rfl) ?_)))))
   obtain ⟨hp5, hF⟩ := hF
   refine Ok.op rfl (OpOk.callG (v := .int .i64 (wholeM (w6 (xd.1 * 64)) 1000)) enr (fun W hW => whole_c (w6 (xd.1 * 64)) 1000 hp5) rfl ?_)
   refine Ok.op rfl (OpOk.callG (v := .int .i64 (rcutM (wholeM (w6 (xd.1 * 64)) 1000))) enr (fun W hW => rcut_c (wholeM (w6 (xd.1 * 64)) 1000)) rfl ?_)
   refine Ok.batch 2 [(4, .int .i64 (rcutM (wholeM (w6 (xd.1 * 64)) 1000))), (5, .int .i64 0)] (by kernel_rfl) (Ok.nil (Ok.thenN (Ok.ret (Ok.thenR ?_))))
   exact Ok.resP (vs := [.int .i64 (rcutM (wholeM (w6 (xd.1 * 64)) 1000)), .int .i64 0]) [] [] (by decide) rfl (.inl rfl) rfl (.cons (.tmp rfl) (.cons (.tmp rfl) .nil)) (Gext.refl w0 g) ⟨(rcutM (wholeM (w6 (xd.1 * 64)) 1000)), 0, rfl, rfl, hF⟩
  ·replace hF := hF.2 hc4
   refine Ok.skip (Ok.thenN (Ok.seq (Ok.seq (Ok.region (Ok.bat 1 [2, 3] [(17, pv bs2 1)] ?_)))))
   refine Ok.op rfl (OpOk.step (v := sv xd.2) (Yields.load 1 rfl rfl Tryz.underlying9 rfl (by kernel_rfl)) rfl rfl (Ok.op rfl (OpOk.step (v := .bool (xd.2 == ([101, 109] : Bs))) (Yields.strCmp (f := .eql) (a := xd.2) (b := ([101, 109] : Bs)) (by kernel_rfl) (by kernel_rfl) rfl) rfl rfl (Ok.nil (Ok.thenN (Ok.cond (b := (xd.2 == ([101, 109] : Bs))) rfl (fun hc6 => ?_) (fun hc6 => ?_)))))))
   ·replace hF := hF.1 hc6
    refine Ok.seq (Ok.region (Ok.bat 1 [3] [(20, pv bs2 0)] ?_))
    refine Ok.op rfl (OpOk.step (v := .int .i64 xd.1) (Yields.load 1 rfl rfl Tryz.underlying3 rfl (by kernel_rfl)) rfl rfl (Ok.batch 1 [(21, .int .i64 xd.1), (22, pv bs3 0)] (by kernel_rfl) (Ok.op rfl (OpOk.step (v := .int .i64 xk.1) (Yields.load 0 rfl rfl Tryz.underlying3 rfl (by kernel_rfl)) rfl rfl (Ok.batch 1 [(24, .int .i64 (w6 (xd.1 * xk.1)))] (by kernel_rfl) ?_)))))
    obtain ⟨hp7, hF⟩ := hF
    refine Ok.op rfl (OpOk.callG (v := .int .i64 (wholeM (w6 (xd.1 * xk.1)) 1000)) enr (fun W hW => whole_c (w6 (xd.1 * xk.1)) 1000 hp7) rfl ?_)
    refine Ok.op rfl (OpOk.callG (v := .int .i64 (rcutM (wholeM (w6 (xd.1 * xk.1)) 1000))) enr (fun W hW => rcut_c (wholeM (w6 (xd.1 * xk.1)) 1000)) rfl ?_)
    refine Ok.batch 2 [(4, .int .i64 (rcutM (wholeM (w6 (xd.1 * xk.1)) 1000))), (5, .int .i64 0)] (by kernel_rfl) (Ok.nil (Ok.thenN (Ok.ret (Ok.thenR ?_))))
    exact Ok.resP (vs := [.int .i64 (rcutM (wholeM (w6 (xd.1 * xk.1)) 1000)), .int .i64 0]) [] [] (by decide) rfl (.inl rfl) rfl (.cons (.tmp rfl) (.cons (.tmp rfl) .nil)) (Gext.refl w0 g) ⟨(rcutM (wholeM (w6 (xd.1 * xk.1)) 1000)), 0, rfl, rfl, hF⟩
   ·replace hF := hF.2 hc6
    refine Ok.skip (Ok.thenN (Ok.seq (Ok.seq (Ok.region (Ok.bat 1 [2, 3] [(27, pv bs2 1)] ?_)))))
    refine Ok.op rfl (OpOk.step (v := sv xd.2) (Yields.load 1 rfl rfl Tryz.underlying9 rfl (by kernel_rfl)) rfl rfl (Ok.op rfl (OpOk.step (v := .bool (xd.2 == ([114, 101, 109] : Bs))) (Yields.strCmp (f := .eql) (a := xd.2) (b := ([114, 101, 109] : Bs)) (by kernel_rfl) (by kernel_rfl) rfl) rfl rfl (Ok.nil (Ok.thenN (Ok.cond (b := (xd.2 == ([114, 101, 109] : Bs))) rfl (fun hc8 => ?_) (fun hc8 => ?_)))))))
    ·replace hF := hF.1 hc8
     refine Ok.seq (Ok.region (Ok.bat 1 [3] [(30, pv bs2 0)] ?_))
     refine Ok.op rfl (OpOk.step (v := .int .i64 xd.1) (Yields.load 1 rfl rfl Tryz.underlying3 rfl (by kernel_rfl)) rfl rfl (Ok.batch 1 [(31, .int .i64 xd.1), (32, pv bs3 1)] (by kernel_rfl) (Ok.op rfl (OpOk.step (v := .int .i64 xk.2.1) (Yields.load 0 rfl rfl Tryz.underlying3 rfl (by kernel_rfl)) rfl rfl (Ok.batch 1 [(34, .int .i64 (w6 (xd.1 * xk.2.1)))] (by kernel_rfl) ?_)))))
     obtain ⟨hp9, hF⟩ := hF
     refine Ok.op rfl (OpOk.callG (v := .int .i64 (wholeM (w6 (xd.1 * xk.2.1)) 1000)) enr (fun W hW => whole_c (w6 (xd.1 * xk.2.1)) 1000 hp9) rfl ?_)
     refine Ok.op rfl (OpOk.callG (v := .int .i64 (rcutM (wholeM (w6 (xd.1 * xk.2.1)) 1000))) enr (fun W hW => rcut_c (wholeM (w6 (xd.1 * xk.2.1)) 1000)) rfl ?_)
     refine Ok.batch 2 [(4, .int .i64 (rcutM (wholeM (w6 (xd.1 * xk.2.1)) 1000))), (5, .int .i64 0)] (by kernel_rfl) (Ok.nil (Ok.thenN (Ok.ret (Ok.thenR ?_))))
     exact Ok.resP (vs := [.int .i64 (rcutM (wholeM (w6 (xd.1 * xk.2.1)) 1000)), .int .i64 0]) [] [] (by decide) rfl (.inl rfl) rfl (.cons (.tmp rfl) (.cons (.tmp rfl) .nil)) (Gext.refl w0 g) ⟨(rcutM (wholeM (w6 (xd.1 * xk.2.1)) 1000)), 0, rfl, rfl, hF⟩
    ·replace hF := hF.2 hc8
     refine Ok.skip (Ok.thenN (Ok.seq (Ok.seq (Ok.region (Ok.bat 1 [2, 3] [(37, pv bs2 1)] ?_)))))
     refine Ok.op rfl (OpOk.step (v := sv xd.2) (Yields.load 1 rfl rfl Tryz.underlying9 rfl (by kernel_rfl)) rfl rfl (Ok.op rfl (OpOk.step (v := .bool (xd.2 == ([118, 119] : Bs))) (Yields.strCmp (f := .eql) (a := xd.2) (b := ([118, 119] : Bs)) (by kernel_rfl) (by kernel_rfl) rfl) rfl rfl (Ok.nil (Ok.thenN (Ok.cond (b := (xd.2 == ([118, 119] : Bs))) rfl (fun hc10 => ?_) (fun hc10 => ?_)))))))
     ·replace hF := hF.1 hc10
      refine Ok.seq (Ok.region (Ok.bat 1 [3] [(40, pv bs2 0)] ?_))
      refine Ok.op rfl (OpOk.step (v := .int .i64 xd.1) (Yields.load 1 rfl rfl Tryz.underlying3 rfl (by kernel_rfl)) rfl rfl (Ok.batch 2 [(42, .int .i64 (w6 (xd.1 * 64))), (43, pv bs3 2)] (by kernel_rfl) (Ok.op rfl (OpOk.step (v := .int .i64 xk.2.2.1) (Yields.load 0 rfl rfl Tryz.underlying3 rfl (by kernel_rfl)) rfl rfl (Ok.batch 1 [(45, .int .i64 (w6 ((w6 (xd.1 * 64)) * xk.2.2.1)))] (by kernel_rfl) ?_)))))
      obtain ⟨hp11, hF⟩ := hF
      refine Ok.op rfl (OpOk.callG (v := .int .i64 (wholeM (w6 ((w6 (xd.1 * 64)) * xk.2.2.1)) 100000)) enr (fun W hW => whole_c (w6 ((w6 (xd.1 * 64)) * xk.2.2.1)) 100000 hp11) rfl ?_)
      refine Ok.op rfl (OpOk.callG (v := .int .i64 (rcutM (wholeM (w6 ((w6 (xd.1 * 64)) * xk.2.2.1)) 100000))) enr (fun W hW => rcut_c (wholeM (w6 ((w6 (xd.1 * 64)) * xk.2.2.1)) 100000)) rfl ?_)
      refine Ok.batch 2 [(4, .int .i64 (rcutM (wholeM (w6 ((w6 (xd.1 * 64)) * xk.2.2.1)) 100000))), (5, .int .i64 0)] (by kernel_rfl) (Ok.nil (Ok.thenN (Ok.ret (Ok.thenR ?_))))
      exact Ok.resP (vs := [.int .i64 (rcutM (wholeM (w6 ((w6 (xd.1 * 64)) * xk.2.2.1)) 100000)), .int .i64 0]) [] [] (by decide) rfl (.inl rfl) rfl (.cons (.tmp rfl) (.cons (.tmp rfl) .nil)) (Gext.refl w0 g) ⟨(rcutM (wholeM (w6 ((w6 (xd.1 * 64)) * xk.2.2.1)) 100000)), 0, rfl, rfl, hF⟩
     ·replace hF := hF.2 hc10
      refine Ok.skip (Ok.thenN (Ok.seq (Ok.seq (Ok.region (Ok.bat 1 [2, 3] [(48, pv bs2 1)] ?_)))))
      refine Ok.op rfl (OpOk.step (v := sv xd.2) (Yields.load 1 rfl rfl Tryz.underlying9 rfl (by kernel_rfl)) rfl rfl (Ok.op rfl (OpOk.step (v := .bool (xd.2 == ([118, 104] : Bs))) (Yields.strCmp (f := .eql) (a := xd.2) (b := ([118, 104] : Bs)) (by kernel_rfl) (by kernel_rfl) rfl) rfl rfl (Ok.nil (Ok.thenN (Ok.cond (b := (xd.2 == ([118, 104] : Bs))) rfl (fun hc12 => ?_) (fun hc12 => ?_)))))))
      ·replace hF := hF.1 hc12
       refine Ok.seq (Ok.region (Ok.bat 1 [3] [(51, pv bs2 0)] ?_))
       refine Ok.op rfl (OpOk.step (v := .int .i64 xd.1) (Yields.load 1 rfl rfl Tryz.underlying3 rfl (by kernel_rfl)) rfl rfl (Ok.batch 2 [(53, .int .i64 (w6 (xd.1 * 64))), (54, pv bs3 3)] (by kernel_rfl) (Ok.op rfl (OpOk.step (v := .int .i64 xk.2.2.2) (Yields.load 0 rfl rfl Tryz.underlying3 rfl (by kernel_rfl)) rfl rfl (Ok.batch 1 [(56, .int .i64 (w6 ((w6 (xd.1 * 64)) * xk.2.2.2)))] (by kernel_rfl) ?_)))))
       obtain ⟨hp13, hF⟩ := hF
       refine Ok.op rfl (OpOk.callG (v := .int .i64 (wholeM (w6 ((w6 (xd.1 * 64)) * xk.2.2.2)) 100000)) enr (fun W hW => whole_c (w6 ((w6 (xd.1 * 64)) * xk.2.2.2)) 100000 hp13) rfl ?_)
       refine Ok.op rfl (OpOk.callG (v := .int .i64 (rcutM (wholeM (w6 ((w6 (xd.1 * 64)) * xk.2.2.2)) 100000))) enr (fun W hW => rcut_c (wholeM (w6 ((w6 (xd.1 * 64)) * xk.2.2.2)) 100000)) rfl ?_)
       refine Ok.batch 2 [(4, .int .i64 (rcutM (wholeM (w6 ((w6 (xd.1 * 64)) * xk.2.2.2)) 100000))), (5, .int .i64 0)] (by kernel_rfl) (Ok.nil (Ok.thenN (Ok.ret (Ok.thenR ?_))))
       exact Ok.resP (vs := [.int .i64 (rcutM (wholeM (w6 ((w6 (xd.1 * 64)) * xk.2.2.2)) 100000)), .int .i64 0]) [] [] (by decide) rfl (.inl rfl) rfl (.cons (.tmp rfl) (.cons (.tmp rfl) .nil)) (Gext.refl w0 g) ⟨(rcutM (wholeM (w6 ((w6 (xd.1 * 64)) * xk.2.2.2)) 100000)), 0, rfl, rfl, hF⟩
      ·replace hF := hF.2 hc12
       refine Ok.skip (Ok.thenN (Ok.seq (Ok.cut (fun a W => StA 67 [(66, .bool ((xd.2 == ([] : Bs)) && (xd.1 == 0)))] a ∧ StW w0 [] g W ∧ rpxj52 xd K) ?_ ?_)))
       ·
        refine Ok.region (Ok.bat 1 [2] [(59, pv bs2 1)] ?_)
        refine Ok.op rfl (OpOk.step (v := sv xd.2) (Yields.load 1 rfl rfl Tryz.underlying9 rfl (by kernel_rfl)) rfl rfl (Ok.op rfl (OpOk.step (v := .bool (xd.2 == ([] : Bs))) (Yields.strCmp (f := .eql) (a := xd.2) (b := ([] : Bs)) (by kernel_rfl) (by kernel_rfl) rfl) rfl rfl (Ok.bat 1 [2] [(62, .bool (xd.2 == ([] : Bs)))] ?_))))
        refine Ok.boolAt 62 ((xd.2 == ([] : Bs))) rfl (fun hc15 => ?_) (fun hc15 => ?_)
        ·replace hF := hF.1 hc15
         refine Ok.batch 1 [(62, .bool true), (63, pv bs2 0)] (by kernel_rfl) (Ok.opYes (j := 3) (d := 62) (want := true) (b := true) rfl (by kernel_rfl) (by kernel_rfl) rfl (OpOk.step (v := .int .i64 xd.1) (Yields.load 1 rfl rfl Tryz.underlying3 rfl (by kernel_rfl)) rfl rfl (Ok.batch 2 [(66, .bool (xd.1 == 0))] (by kernel_rfl) (Ok.nil (Ok.thenN (Ok.reval 66 rfl (show (.bool (xd.1 == 0) : Value) = .bool ((xd.2 == ([] : Bs)) && (xd.1 == 0)) from congrArg (Value.bool) (mand_t hc15)) ?_))))))
         exact fun a W hA hW => ⟨hA.sub (by kernel_rfl), hW.sub (.cons _ (.cons _ .slnil)), hF⟩
        ·replace hF := hF.2 hc15
         refine Ok.batch 4 [(66, .bool false)] (by kernel_rfl) (Ok.nil (Ok.thenN (Ok.reval 66 rfl (show (.bool false : Value) = .bool ((xd.2 == ([] : Bs)) && (xd.1 == 0)) from congrArg (Value.bool) (mand_f hc15)) ?_)))
         exact fun a W hA hW => ⟨hA.sub (by kernel_rfl), hW.sub (.cons _ (.cons _ .slnil)), hF⟩
       ·
        clear hF
        rintro a W ⟨hA, hW, hF⟩
        refine (?_ : Ok _ _ _ _ _ _) a W hA hW
        clear hA hW
        refine Ok.cond (b := ((xd.2 == ([] : Bs)) && (xd.1 == 0))) rfl (fun hc14 => ?_) (fun hc14 => ?_)
        ·replace hF := hF.1 hc14
         refine Ok.seq (Ok.region (Ok.batch 2 [(4, .int .i64 0), (5, .int .i64 0)] (by kernel_rfl) (Ok.nil (Ok.thenN (Ok.ret (Ok.thenR ?_))))))
         exact Ok.resH (vs := [.int .i64 0, .int .i64 0]) (.inl rfl) rfl (.cons (.tmp rfl) (.cons (.tmp rfl) .nil)) (Gext.refl w0 g) ⟨0, 0, rfl, rfl, hF⟩
        ·replace hF := hF.2 hc14
         refine Ok.skip (Ok.thenN (Ok.seq (Ok.region (Ok.batch 2 [(4, .int .i64 0), (5, .int .i64 7)] (by kernel_rfl) (Ok.nil (Ok.thenN (Ok.ret ?_)))))))
         exact Ok.resH (vs := [.int .i64 0, .int .i64 7]) (.inl rfl) rfl (.cons (.tmp rfl) (.cons (.tmp rfl) .nil)) (Gext.refl w0 g) ⟨0, 7, rfl, rfl, hF⟩
def rpxj52M (xd : Int × Bs) : Int × Int := (if ((xd.2 == ([] : Bs)) && (xd.1 == 0)) = true then (0, 0) else (0, 7))
theorem rpxj52_A (xd : Int × Bs) (P : Int × Int → Prop) (h : P (rpxj52M xd)) : rpxj52 xd (fun k0 k1 => P (k0, k1)) := by
 unfold rpxj52M at h
 unfold rpxj52
 refine ⟨fun hc0 => ?_, fun hc0 => ?_⟩
 ·rw [if_t hc0] at h
  have hd0 := hc0; try simp only [Bool.and_eq_true, Bool.or_eq_true, Bool.and_eq_false_iff, Bool.or_eq_false_iff, Bool.not_eq_true', Bool.not_eq_false', decide_eq_true_eq, decide_eq_false_iff_not, beq_iff_eq, beq_eq_false_iff_ne, ne_eq] at hd0
  exact h
 ·rw [if_f hc0] at h
  have hd0 := hc0; try simp only [Bool.and_eq_true, Bool.or_eq_true, Bool.and_eq_false_iff, Bool.or_eq_false_iff, Bool.not_eq_true', Bool.not_eq_false', decide_eq_true_eq, decide_eq_false_iff_not, beq_iff_eq, beq_eq_false_iff_ne, ne_eq] at hd0
  exact h
def rpxM (xd : Int × Bs) (xk : Int × Int × Int × Int) : Int × Int := (if (sfaultM xd xk) = true then (0, 1) else (if (xd.2 == ([112, 120] : Bs)) = true then ((rcutM (wholeM (w6 (xd.1 * 64)) 1000)), 0) else (if (xd.2 == ([101, 109] : Bs)) = true then ((rcutM (wholeM (w6 (xd.1 * xk.1)) 1000)), 0) else (if (xd.2 == ([114, 101, 109] : Bs)) = true then ((rcutM (wholeM (w6 (xd.1 * xk.2.1)) 1000)), 0) else (if (xd.2 == ([118, 119] : Bs)) = true then ((rcutM (wholeM (w6 ((w6 (xd.1 * 64)) * xk.2.2.1)) 100000)), 0) else (if (xd.2 == ([118, 104] : Bs)) = true then ((rcutM (wholeM (w6 ((w6 (xd.1 * 64)) * xk.2.2.2)) 100000)), 0) else (rpxj52M xd)))))))
theorem rpxF_A (xd : Int × Bs) (xk : Int × Int × Int × Int) (P : Int × Int → Prop) (h : P (rpxM xd xk)) : rpxF xd xk (fun k0 k1 => P (k0, k1)) := by
 unfold rpxM at h
 unfold rpxF
 refine ⟨fun hc0 => ?_, fun hc0 => ?_⟩
 ·rw [if_t hc0] at h
  exact h
 ·rw [if_f hc0] at h
  refine ⟨fun hc1 => ?_, fun hc1 => ?_⟩
  ·rw [if_t hc1] at h
   have hd1 := hc1; try simp only [Bool.and_eq_true, Bool.or_eq_true, Bool.and_eq_false_iff, Bool.or_eq_false_iff, Bool.not_eq_true', Bool.not_eq_false', decide_eq_true_eq, decide_eq_false_iff_not, beq_iff_eq, beq_eq_false_iff_ne, ne_eq] at hd1
   refine ⟨?_, ?_⟩
   ·first | (unfold byP; decide) | omega | assumption | exact trivial | (have h0 := List.length_pos_iff.mpr (by assumption); omega) | (simp; omega) | (simp at *; omega)
   exact h
  ·rw [if_f hc1] at h
   have hd1 := hc1; try simp only [Bool.and_eq_true, Bool.or_eq_true, Bool.and_eq_false_iff, Bool.or_eq_false_iff, Bool.not_eq_true', Bool.not_eq_false', decide_eq_true_eq, decide_eq_false_iff_not, beq_iff_eq, beq_eq_false_iff_ne, ne_eq] at hd1
   refine ⟨fun hc2 => ?_, fun hc2 => ?_⟩
   ·rw [if_t hc2] at h
    have hd2 := hc2; try simp only [Bool.and_eq_true, Bool.or_eq_true, Bool.and_eq_false_iff, Bool.or_eq_false_iff, Bool.not_eq_true', Bool.not_eq_false', decide_eq_true_eq, decide_eq_false_iff_not, beq_iff_eq, beq_eq_false_iff_ne, ne_eq] at hd2
    refine ⟨?_, ?_⟩
    ·first | (unfold byP; decide) | omega | assumption | exact trivial | (have h0 := List.length_pos_iff.mpr (by assumption); omega) | (simp; omega) | (simp at *; omega)
    exact h
   ·rw [if_f hc2] at h
    have hd2 := hc2; try simp only [Bool.and_eq_true, Bool.or_eq_true, Bool.and_eq_false_iff, Bool.or_eq_false_iff, Bool.not_eq_true', Bool.not_eq_false', decide_eq_true_eq, decide_eq_false_iff_not, beq_iff_eq, beq_eq_false_iff_ne, ne_eq] at hd2
    refine ⟨fun hc3 => ?_, fun hc3 => ?_⟩
    ·rw [if_t hc3] at h
     have hd3 := hc3; try simp only [Bool.and_eq_true, Bool.or_eq_true, Bool.and_eq_false_iff, Bool.or_eq_false_iff, Bool.not_eq_true', Bool.not_eq_false', decide_eq_true_eq, decide_eq_false_iff_not, beq_iff_eq, beq_eq_false_iff_ne, ne_eq] at hd3
     refine ⟨?_, ?_⟩
     ·first | (unfold byP; decide) | omega | assumption | exact trivial | (have h0 := List.length_pos_iff.mpr (by assumption); omega) | (simp; omega) | (simp at *; omega)
     exact h
    ·rw [if_f hc3] at h
     have hd3 := hc3; try simp only [Bool.and_eq_true, Bool.or_eq_true, Bool.and_eq_false_iff, Bool.or_eq_false_iff, Bool.not_eq_true', Bool.not_eq_false', decide_eq_true_eq, decide_eq_false_iff_not, beq_iff_eq, beq_eq_false_iff_ne, ne_eq] at hd3
     refine ⟨fun hc4 => ?_, fun hc4 => ?_⟩
     ·rw [if_t hc4] at h
      have hd4 := hc4; try simp only [Bool.and_eq_true, Bool.or_eq_true, Bool.and_eq_false_iff, Bool.or_eq_false_iff, Bool.not_eq_true', Bool.not_eq_false', decide_eq_true_eq, decide_eq_false_iff_not, beq_iff_eq, beq_eq_false_iff_ne, ne_eq] at hd4
      refine ⟨?_, ?_⟩
      ·first | (unfold byP; decide) | omega | assumption | exact trivial | (have h0 := List.length_pos_iff.mpr (by assumption); omega) | (simp; omega) | (simp at *; omega)
      exact h
     ·rw [if_f hc4] at h
      have hd4 := hc4; try simp only [Bool.and_eq_true, Bool.or_eq_true, Bool.and_eq_false_iff, Bool.or_eq_false_iff, Bool.not_eq_true', Bool.not_eq_false', decide_eq_true_eq, decide_eq_false_iff_not, beq_iff_eq, beq_eq_false_iff_ne, ne_eq] at hd4
      refine ⟨fun hc5 => ?_, fun hc5 => ?_⟩
      ·rw [if_t hc5] at h
       have hd5 := hc5; try simp only [Bool.and_eq_true, Bool.or_eq_true, Bool.and_eq_false_iff, Bool.or_eq_false_iff, Bool.not_eq_true', Bool.not_eq_false', decide_eq_true_eq, decide_eq_false_iff_not, beq_iff_eq, beq_eq_false_iff_ne, ne_eq] at hd5
       refine ⟨?_, ?_⟩
       ·first | (unfold byP; decide) | omega | assumption | exact trivial | (have h0 := List.length_pos_iff.mpr (by assumption); omega) | (simp; omega) | (simp at *; omega)
       exact h
      ·rw [if_f hc5] at h
       have hd5 := hc5; try simp only [Bool.and_eq_true, Bool.or_eq_true, Bool.and_eq_false_iff, Bool.or_eq_false_iff, Bool.not_eq_true', Bool.not_eq_false', decide_eq_true_eq, decide_eq_false_iff_not, beq_iff_eq, beq_eq_false_iff_ne, ne_eq] at hd5
       refine ⟨fun hc6 => ?_, fun hc6 => ?_⟩
       ·skip
        have hd6 := hc6; try simp only [Bool.and_eq_true, Bool.or_eq_true, Bool.and_eq_false_iff, Bool.or_eq_false_iff, Bool.not_eq_true', Bool.not_eq_false', decide_eq_true_eq, decide_eq_false_iff_not, beq_iff_eq, beq_eq_false_iff_ne, ne_eq] at hd6
        exact rpxj52_A xd _ h
       ·skip
        have hd6 := hc6; try simp only [Bool.and_eq_true, Bool.or_eq_true, Bool.and_eq_false_iff, Bool.or_eq_false_iff, Bool.not_eq_true', Bool.not_eq_false', decide_eq_true_eq, decide_eq_false_iff_not, beq_iff_eq, beq_eq_false_iff_ne, ne_eq] at hd6
        exact rpxj52_A xd _ h
theorem rpx_F (xd : Int × Bs) (xk : Int × Int × Int × Int) : rpxF xd xk (fun k0 k1 => (k0, k1) = rpxM xd xk) :=
 rpxF_A xd xk (fun z => z = rpxM xd xk) rfl
theorem rpx_c {g : Ghost} (xd : Int × Bs) (xk : Int × Int × Int × Int)  : CallsG Tryz.prog 31 #[.agg #[.int .i64 xd.1, sv xd.2], .agg #[.int .i64 xk.1, .int .i64 xk.2.1, .int .i64 xk.2.2.1, .int .i64 xk.2.2.2]] g (.tuple #[.int .i64 (rpxM xd xk).1, .int .i64 (rpxM xd xk).2]) :=
 (rpx_ok xd xk _ (rpx_F xd xk)).gives (by rintro g' H' v _ ⟨r0, r1, rfl, rfl, hK⟩; obtain ⟨rfl, rfl⟩ : r0 = (rpxM xd xk).1 ∧ r1 = (rpxM xd xk).2 := ⟨congrArg (fun z => z.1) hK, congrArg (fun z => z.2) hK⟩; rfl)
theorem whole_down (n by' : Int) (h : 2 ≤ by' ∧ by' ≤ 100000) (hn : -9223372036854775808 ≤ n ∧ n ≤ 9223372036854775807) : downM n by' = wholeM n by' := by
 unfold downM downj5M downV0 wholeM wholej5M wholeV0
 have h1 := Int.tdiv_mul_add_tmod n by'
 have h2 : (n.tdiv by').natAbs ≤ n.natAbs / 2 := by rw [Int.natAbs_tdiv]; exact Nat.div_le_div_left (by omega) (by decide)
 have h3 : (n.tmod by').natAbs < by'.natAbs := by rw [Int.natAbs_tmod]; exact Nat.mod_lt _ (by omega)
 have h4 : (n.tdiv by' * by').natAbs ≤ n.natAbs := by rw [Int.natAbs_mul, Int.natAbs_tdiv]; exact Nat.div_mul_le_self _ _
 rw [w64 (x := n.tdiv by') (by omega), w64 (x := n.tdiv by' * by') (by omega)]
 have e : decide (n.tmod by' < 0) = decide (n.tdiv by' * by' > n) := decide_eq_decide.2 (by omega)
 rw [e]
theorem cut_cut (n : Int) : dcutM n = rcutM n := by
 unfold dcutM rcutM
 repeat' split
 all_goals omega
theorem fault_eq (d : Int × Bs) (k : Int × Int × Int × Int) : dpxV0 d k = sfaultM d k := by
 unfold dpxV0 sfaultM sfaultj3M sfaultV0 dinM
 rw [Bool.eq_iff_iff]
 simp only [Bool.or_eq_true, Bool.not_eq_true', Bool.and_eq_false_iff, decide_eq_false_iff_not, decide_eq_true_eq]
 omega
theorem wrap_range (x : Int) : -9223372036854775808 ≤ w6 x ∧ w6 x ≤ 9223372036854775807 :=
 (show ∀ z y : Int, z = y → (-9223372036854775808 ≤ y ∧ y ≤ 9223372036854775807) → -9223372036854775808 ≤ z ∧ z ≤ 9223372036854775807 from fun z y h k => h ▸ k) _ _ (IntKind.wrap_i64 x) (by omega)
theorem fault_no {d : Int × Bs} {k : Int × Int × Int × Int} (h : sfaultM d k = false) : (-1000000000 ≤ d.1 ∧ d.1 ≤ 1000000000) ∧ (1 ≤ k.2.2.1 ∧ k.2.2.1 ≤ 4000) ∧ (1 ≤ k.2.2.2 ∧ k.2.2.2 ≤ 4000) := by
 unfold sfaultM sfaultj3M sfaultV0 at h
 simp only [Bool.or_eq_false_iff, decide_eq_false_iff_not] at h
 omega
theorem px_one (x y by' : Int) (h : 2 ≤ by' ∧ by' ≤ 100000) (e : x = y) : dcutM (downM (w6 x) by') = rcutM (wholeM (w6 y) by') := by
 rw [e, whole_down _ _ h (wrap_range _), cut_cut]
theorem zero_known : dcutM (downM (w6 0) 1000) = 0 := by decide +kernel
theorem px_eq (d : Int × Bs) (k : Int × Int × Int × Int) : dpxM d k = rpxM d k := by
 show dpxj4M d k = rpxM d k
 unfold dpxj4M rpxM
 rw [fault_eq]
 cases hf : sfaultM d k
 ·have hb := fault_no hf
  rw [if_f rfl, if_f rfl]
  unfold dpxj37M dpxj13M dpxV1 dpxV2 rpxj52M
  cases e1 : d.2 == ([112, 120] : Bs)
  ·cases e2 : d.2 == ([101, 109] : Bs)
   ·cases e3 : d.2 == ([114, 101, 109] : Bs)
    ·cases e4 : d.2 == ([118, 119] : Bs)
     ·cases e5 : d.2 == ([118, 104] : Bs)
      ·cases e6 : d.2 == ([] : Bs)
       ·simp only [bne, Bool.not_false, Bool.true_or, Bool.false_eq_true, if_false, if_true, Bool.false_and]
       ·cases e7 : d.1 == 0
        ·simp [bne, e7]
        ·have h0 : d.1 = 0 := by simpa using e7
         simp only [bne, e7, h0, Bool.false_eq_true, if_false, Bool.not_true, Bool.or_self, Bool.true_and, Bool.not_false, Int.zero_mul, beq_self_eq_true, if_true]
         exact congrArg (fun x => (x, (0 : Int))) zero_known
      ·simp only [Bool.false_eq_true, if_false, if_true]
       rw [px_one _ _ _ ⟨by decide, by decide⟩ (show d.1 * w6 (64 * k.2.2.2) = w6 (d.1 * 64) * k.2.2.2 by rw [w64 (by omega), w64 (by omega), Int.mul_assoc])]
     ·simp only [Bool.false_eq_true, if_false, if_true]
      rw [px_one _ _ _ ⟨by decide, by decide⟩ (show d.1 * w6 (64 * k.2.2.1) = w6 (d.1 * 64) * k.2.2.1 by rw [w64 (by omega), w64 (by omega), Int.mul_assoc])]
    ·simp only [Bool.false_eq_true, if_false, if_true]
     rw [px_one _ _ _ ⟨by decide, by decide⟩ rfl]
   ·simp only [Bool.false_eq_true, if_false, if_true]
    rw [px_one _ _ _ ⟨by decide, by decide⟩ rfl]
  ·simp only [Bool.false_eq_true, if_false, if_true]
   rw [px_one _ _ _ ⟨by decide, by decide⟩ rfl]
 ·rw [if_t rfl, if_t rfl]
end Go.Proofs.YtogcmkphibegbaaGreatDoor.Tk
