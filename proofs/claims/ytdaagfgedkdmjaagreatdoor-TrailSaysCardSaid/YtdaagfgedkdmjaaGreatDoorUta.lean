/- Addresses: their text. -/
import Derived.Test.YtdaagfgedkdmjaaGreatDoorUrw
namespace Go.Proofs.YtdaagfgedkdmjaaGreatDoor.Ub
open Go Go.Eng Go.RowKit Go.Shelf Go.Proofs Bld Sp Ti Uc Ua Ui
set_option maxHeartbeats 4000000
set_option maxRecDepth 100000
set_option linter.unusedSimpArgs false
set_option linter.unusedVariables false
noncomputable section
/-! text -/
def pathT (l : List Bs) : Bs := l.flatMap fun p => 47 :: encS p
def txtS0 (u : JU) : Bs := ((oriS u ++ pathT u.2.2.2.1) ++ (if u.2.2.2.2.2.1 = true then 63 :: u.2.2.2.2.1 else [])) ++ (if u.2.2.2.2.2.2.2 = true then 35 :: u.2.2.2.2.2.2.1 else [])
noncomputable def txtS : JU → Bs := Classical.choose (rigid txtS0)
theorem txtS_eq : txtS = txtS0 := Classical.choose_spec (rigid txtS0)
def txtP (u : JU) : Prop := oriP u ∧ (u.2.2.2.1.length ≤ 2000000 ∧ ∀ p ∈ u.2.2.2.1, p.length ≤ 1048576) ∧ u.2.2.2.2.1.length ≤ 100000000 ∧ u.2.2.2.2.2.2.1.length ≤ 100000000
theorem enc_len (s : Bs) : (encS s).length ≤ 3 * s.length := by
 unfold encS
 induction s with
 | nil => exact Nat.le_refl _
 | cons b l ih =>
  have := encB_len b
  rw [List.flatMap_cons, List.length_append, List.length_cons]; omega
theorem ori_len (u : JU) (h : oriP u) : (oriS u).length ≤ 200000100 := by
 obtain ⟨h1, h2, h3⟩ := h
 have h4 := itoa_len h3
 unfold oriS
 split
 ·simp only [List.length_append, List.length_cons, List.length_nil]; omega
 ·simp only [List.length_append, List.length_cons, List.length_nil]; omega
theorem one_app (c : UInt8) (l : Bs) : ([c] ++ l).length = l.length + 1 := by simp
theorem ints_cons (c : UInt8) (l : Bs) (acc : Bs) : (Bld.wsS (intsOf acc) ([c] ++ l)).2.2 = intsOf (acc ++ c :: l) := by
 unfold Bld.wsS
 simp [intsOf]
def utxtV0 (xu : JU) (yown2_0l11 : List (Int)) : List (Int) :=
 (if xu.2.2.2.2.2.1 = true then (Bld.wsS yown2_0l11 (([63] : Bs) ++ xu.2.2.2.2.1)).2.2 else yown2_0l11)
def utxtV1 (xu : JU) (yown2_0l11 : List (Int)) : List (Int) :=
 (if xu.2.2.2.2.2.2.2 = true then (Bld.wsS (utxtV0 xu yown2_0l11) (([35] : Bs) ++ xu.2.2.2.2.2.2.1)).2.2 else (utxtV0 xu yown2_0l11))
def utxtj30 (xu : JU) (K : Bs → Prop) (yown2_0l11 : List (Int)) : Prop :=
 Bld.stP (utxtV1 xu yown2_0l11) ∧ K (bytesOf (utxtV1 xu yown2_0l11))
def utxtj24 (xu : JU) (K : Bs → Prop) (yown2_0l11 : List (Int)) : Prop :=
 ((xu.2.2.2.2.2.2.2) = true → ([35] : Bs).length + xu.2.2.2.2.2.2.1.length ≤ maxLen ∧ Bld.wsP (utxtV0 xu yown2_0l11) (([35] : Bs) ++ xu.2.2.2.2.2.2.1) ∧ utxtj30 xu K yown2_0l11) ∧ ((xu.2.2.2.2.2.2.2) = false → utxtj30 xu K yown2_0l11)
def utxtl11b (xu : JU) (K : Bs → Prop) (x12l11 : Int) (yown2_0l11 : List (Int)) (C11 : Int → (List (Int)) → Prop) : Prop :=
 ((decide (x12l11 < (xu.2.2.2.1.length : Int))) = true → (0 : Int) ≤ x12l11 ∧ Int.toNat x12l11 < xu.2.2.2.1.length ∧ encP (xu.2.2.2.1.getD (Int.toNat x12l11) default) ∧ ([47] : Bs).length + (encS (xu.2.2.2.1.getD (Int.toNat x12l11) default)).length ≤ maxLen ∧ Bld.wsP yown2_0l11 (([47] : Bs) ++ (encS (xu.2.2.2.1.getD (Int.toNat x12l11) default))) ∧ C11 (w6 (x12l11 + 1)) (Bld.wsS yown2_0l11 (([47] : Bs) ++ (encS (xu.2.2.2.1.getD (Int.toNat x12l11) default)))).2.2) ∧ ((decide (x12l11 < (xu.2.2.2.1.length : Int))) = false → ((xu.2.2.2.2.2.1) = true → ([63] : Bs).length + xu.2.2.2.2.1.length ≤ maxLen ∧ Bld.wsP yown2_0l11 (([63] : Bs) ++ xu.2.2.2.2.1) ∧ utxtj24 xu K yown2_0l11) ∧ ((xu.2.2.2.2.2.1) = false → utxtj24 xu K yown2_0l11))
def utxtl11 (xu : JU) (K : Bs → Prop) : Nat → Int → (List (Int)) → Prop
 | 0, _, _ => False
 | k + 1, x12l11, yown2_0l11 => utxtl11b xu K x12l11 yown2_0l11 (utxtl11 xu K k)
def utxtF (xu : JU) (K : Bs → Prop) : Prop :=
 oriP xu ∧ Bld.wsP ([] : List (Int)) (oriS xu) ∧ ∃ k, utxtl11 xu K k 0 (Bld.wsS ([] : List (Int)) (oriS xu)).2.2
theorem utxt_ok {g : Ghost} {axu_0 : Option Addr} {cxu_0 : Nat} (xu : JU) (hRxu_0 : Rep g (.slice (.str)) [.slice axu_0 xu.2.2.2.1.length cxu_0] xu.2.2.2.1) (hG1 : GlobL g 1 (.int .u64) DPow) (K : Bs → Prop)
  (hF : utxtF xu K) : CallsH Tryz.prog 42 #[.agg ⟨vJ xu axu_0 cxu_0⟩] g [] (fun g' H' v => ∃ (r0 : Bs), v = sv r0 ∧ H' = [] ∧ K r0) := by
 refine CallsH.enter 34 [(0, .agg ⟨vJ xu axu_0 cxu_0⟩)] Tryz.func42 rfl (by kernel_rfl) (by kernel_rfl) (by kernel_rfl) fun w0 => ?_
 refine Ok.seq (Ok.region (Ok.op rfl (OpOk.box (v := .agg ⟨vJ xu axu_0 cxu_0⟩) (cs := ⟨vJ xu axu_0 cxu_0⟩) rfl (by kernel_rfl) rfl fun b1 => ?_)))
 refine Ok.batch 1 [(1, pv b1 0)] (by kernel_rfl) (Ok.nil (Ok.thenN (Ok.seq (Ok.region ?_))))
 have hL2 : RepL g (.int .u8) [] [] := rfl
 refine Ok.ownNil 5 1 (Ok.op rfl (OpOk.alloc (z := .agg #[.pointer none, .slice none 0 0]) (cs := #[.pointer none, .slice none 0 0]) (by kernel_rfl) (by kernel_rfl) rfl fun b3 => ?_))
 refine Ok.bhd (Ok.nil (Ok.thenN (Ok.seq (Ok.region (Ok.op rfl (OpOk.step (v := .agg ⟨vJ xu axu_0 cxu_0⟩) (Yields.loadAgg 2 8 ⟨vJ xu axu_0 cxu_0⟩ rfl rfl Tryz.underlying53 rfl (by kernel_rfl) (by kernel_rfl) (by kernel_rfl)) rfl rfl ?_))))))
 obtain ⟨hp4, hF⟩ := hF
 refine Ok.op rfl (OpOk.callG (v := sv (oriS xu)) enr (fun W hW => uori_c xu (hRxu_0.mono hW.sees) (hG1.mono hW.sees) hp4) rfl ?_)
 obtain ⟨hp5, hF⟩ := hF
 refine Ok.op rfl (OpOk.callH [_, _] _ enr rfl (Bld.ws_c ([] : List (Int)) (oriS xu) hL2 hp5) rfl fun g6 _ _ hx6 hV6 => ?_)
 obtain ⟨a6_0, c6_0, xs6_0, rfl, hL6_0, rfl⟩ := hV6
 replace hRxu_0 := hRxu_0.mono hx6.1
 replace hG1 := hG1.mono hx6.1
 refine Ok.nil (Ok.thenN (Ok.seq (Ok.seq (Ok.region (Ok.batch 1 [(1, pv b1 0), (3, pv b3 0), (9, pv b1 3)] (by kernel_rfl) (Ok.op rfl (OpOk.step (v := .slice axu_0 xu.2.2.2.1.length cxu_0) (Yields.load 2 rfl rfl Tryz.underlying51 rfl (by kernel_rfl)) rfl rfl (Ok.bat 2 [1, 3] [(10, .slice axu_0 xu.2.2.2.1.length cxu_0), (11, .int .i64 (xu.2.2.2.1.length : Int)), (12, .int .i64 0)] ?_))))))))
 refine Ok.nil (Ok.thenN (Ok.block ?_))
 obtain ⟨k, hF⟩ := hF
 refine Ok.loop (fun k a W => ∃ gl11 : Ghost, Gext w0 g6 gl11 ∧ ∃ (x12l11 : Int) (ayown2_0l11 : Option Addr) (cyown2_0l11 : Nat) (yown2_0l11 : List (Int)) (xsyown2_0l11 : List Value), RepL gl11 (.int .u8) xsyown2_0l11 yown2_0l11 ∧ StA 34 [(1, pv b1 0), (3, pv b3 0), (10, .slice axu_0 xu.2.2.2.1.length cxu_0), (11, .int .i64 (xu.2.2.2.1.length : Int)), (12, .int .i64 x12l11)] a ∧ StW w0 [.bhd b3 90 (.slice ayown2_0l11 yown2_0l11.length cyown2_0l11), .own (.slice ayown2_0l11 yown2_0l11.length cyown2_0l11) 5 1 yown2_0l11.length xsyown2_0l11, .blk b1 (.cells ⟨vJ xu axu_0 cxu_0⟩ 53)] gl11 W ∧ utxtl11 xu K k x12l11 yown2_0l11) k ?_ ?_
 ·
  exact fun a W hA hW => ⟨g6, (Gext.refl w0 g6), 0, a6_0, c6_0, (Bld.wsS ([] : List (Int)) (oriS xu)).2.2, xs6_0, hL6_0, hA.sub (by kernel_rfl), hW, hF⟩
 ·
  clear hF
  rintro k11 a W ⟨gl11, hxl11, x12l11, ayown2_0l11, cyown2_0l11, yown2_0l11, xsyown2_0l11, hLyown2_0l11, hA, hW, hF⟩
  cases k11 with
  | zero => exact (hF : False).elim
  | succ k11 =>
   refine (?_ : Ok _ _ _ _ _ _) a W hA hW
   clear hA hW
   replace hRxu_0 := hRxu_0.mono hxl11.1
   replace hG1 := hG1.mono hxl11.1
   refine Ok.seq (Ok.region (Ok.bat 1 [1, 3, 10, 11, 12] [(13, .bool (decide (x12l11 < (xu.2.2.2.1.length : Int))))] ?_))
   refine Ok.nil (Ok.thenN (Ok.seq (Ok.cond (b := decide (x12l11 < (xu.2.2.2.1.length : Int))) rfl (fun hc7 => ?_) (fun hc7 => ?_))))
   ·replace hF := hF.1 hc7
    refine Ok.skip (Ok.thenN (Ok.seq (Ok.block (Ok.seq (Ok.region ?_)))))
    obtain ⟨h09, h19, hF⟩ := hF
    have he9 := get_of (l := xu.2.2.2.1) (default : Bs) h19
    generalize hg9 : (xu.2.2.2.1.getD (Int.toNat x12l11) default) = e9 at he9 hF ⊢
    refine Ok.op rfl (OpOk.indexRo (e := .str) (i := x12l11) (el := e9) rfl rfl Tryz.underlying51 (by kernel_rfl) hRxu_0 h09 he9 rfl fun q8 o8 cs8 _ hat8 hr8 => ?_)
    obtain rfl := hr8
    replace hat8 : At gl11 q8 o8 [sv e9] := hat8
    refine Ok.op rfl (OpOk.step (v := sv e9) (Yields.loadRo 0 hat8 (by kernel_rfl) Tryz.underlying9 rfl (by kernel_rfl)) rfl rfl (Ok.bat 1 [1, 3, 10, 11, 12] [(5, sv e9)] ?_))
    refine Ok.nil (Ok.thenN (Ok.region (Ok.bat 1 [1, 3, 10, 11, 12] [(16, sv e9)] ?_)))
    obtain ⟨hp10, hF⟩ := hF
    refine Ok.op rfl (OpOk.callG (v := sv (encS e9)) enr (fun W hW => uenc_c e9 hp10) rfl ?_)
    obtain ⟨hv, hF⟩ := hF
    refine Ok.op rfl (OpOk.step (v := sv (([47] : Bs) ++ (encS e9))) (Yields.strAdd rfl rfl hv) rfl rfl ?_)
    obtain ⟨hp11, hF⟩ := hF
    refine Ok.op rfl (OpOk.callH [_, _] _ enr rfl (Bld.ws_c yown2_0l11 (([47] : Bs) ++ (encS e9)) hLyown2_0l11 hp11) rfl fun g12 _ _ hx12 hV12 => ?_)
    obtain ⟨a12_0, c12_0, xs12_0, rfl, hL12_0, rfl⟩ := hV12
    replace hRxu_0 := hRxu_0.mono hx12.1
    replace hG1 := hG1.mono hx12.1
    refine Ok.nil (Ok.blockN (Ok.thenN (Ok.region (Ok.bat 2 [1, 3, 10, 11] [(12, .int .i64 (w6 (x12l11 + 1)))] ?_))))
    refine Ok.nil (Ok.thenN ?_)
    subst hg9
    exact fun a W hA hW => ⟨k11, Nat.lt_succ_self _, g12, (hxl11.trans hx12), w6 (x12l11 + 1), a12_0, c12_0, (Bld.wsS yown2_0l11 (([47] : Bs) ++ (encS (xu.2.2.2.1.getD (Int.toNat x12l11) default)))).2.2, xs12_0, hL12_0, hA.sub (by kernel_rfl), hW, hF⟩
   ·replace hF := hF.2 hc7
    refine Ok.exit (Ok.thenE (Ok.thenE (Ok.blockHit (Ok.thenN (Ok.cut (fun a W => ∃ gj24 : Ghost, Gext w0 gl11 gj24 ∧ ∃ (ayown2_0j24 : Option Addr) (cyown2_0j24 : Nat) (xsyown2_0j24 : List Value), RepL gj24 (.int .u8) xsyown2_0j24 (utxtV0 xu yown2_0l11) ∧ StA 34 [(1, pv b1 0), (3, pv b3 0)] a ∧ StW w0 [.bhd b3 90 (.slice ayown2_0j24 (utxtV0 xu yown2_0l11).length cyown2_0j24), .own (.slice ayown2_0j24 (utxtV0 xu yown2_0l11).length cyown2_0j24) 5 1 (utxtV0 xu yown2_0l11).length xsyown2_0j24, .blk b1 (.cells ⟨vJ xu axu_0 cxu_0⟩ 53)] gj24 W ∧ utxtj24 xu K yown2_0l11) ?_ ?_)))))
    ·
     refine Ok.seq (Ok.region (Ok.bat 1 [1, 3] [(21, pv b1 5)] ?_))
     refine Ok.op rfl (OpOk.step (v := .bool xu.2.2.2.2.2.1) (Yields.load 2 rfl rfl Tryz.underlying4 rfl (by kernel_rfl)) rfl rfl (Ok.nil (Ok.thenN (Ok.cond (b := xu.2.2.2.2.2.1) rfl (fun hc18 => ?_) (fun hc18 => ?_)))))
     ·replace hF := hF.1 hc18
      refine Ok.region (Ok.bat 1 [1, 3] [(23, pv b1 4)] ?_)
      refine Ok.op rfl (OpOk.step (v := sv xu.2.2.2.2.1) (Yields.load 2 rfl rfl Tryz.underlying9 rfl (by kernel_rfl)) rfl rfl ?_)
      obtain ⟨hv, hF⟩ := hF
      refine Ok.op rfl (OpOk.step (v := sv (([63] : Bs) ++ xu.2.2.2.2.1)) (Yields.strAdd rfl rfl hv) rfl rfl ?_)
      obtain ⟨hp19, hF⟩ := hF
      refine Ok.op rfl (OpOk.callH [_, _] _ enr rfl (Bld.ws_c yown2_0l11 (([63] : Bs) ++ xu.2.2.2.2.1) hLyown2_0l11 hp19) rfl fun g20 _ _ hx20 hV20 => ?_)
      obtain ⟨a20_0, c20_0, xs20_0, rfl, hL20_0, rfl⟩ := hV20
      replace hRxu_0 := hRxu_0.mono hx20.1
      replace hG1 := hG1.mono hx20.1
      refine Ok.nil (Ok.thenN (Ok.heapEq (H' := [.bhd b3 90 (.slice a20_0 (utxtV0 xu yown2_0l11).length c20_0), .own (.slice a20_0 (utxtV0 xu yown2_0l11).length c20_0) 5 1 (utxtV0 xu yown2_0l11).length xs20_0, .blk b1 (.cells ⟨vJ xu axu_0 cxu_0⟩ 53)]) (econs (congrArg (fun l : Value => Ent.bhd b3 90 l) (congrArg (fun l : List (Int) => Value.slice a20_0 l.length c20_0) ((if_t hc18).symm))) (econs (congrArg (fun l : List (Int) => Ent.own (.slice a20_0 l.length c20_0) 5 1 l.length xs20_0) ((if_t hc18).symm)) (econs (rfl) rfl))) ?_))
      exact fun a W hA hW => ⟨g20, hx20, a20_0, c20_0, xs20_0, (Eq.mp (congrArg (fun l : List (Int) => RepL g20 (.int .u8) xs20_0 l) ((if_t hc18).symm)) hL20_0), hA.sub (by kernel_rfl), hW, hF⟩
     ·replace hF := hF.2 hc18
      refine Ok.skip (Ok.thenN (Ok.heapEq (H' := [.bhd b3 90 (.slice ayown2_0l11 (utxtV0 xu yown2_0l11).length cyown2_0l11), .own (.slice ayown2_0l11 (utxtV0 xu yown2_0l11).length cyown2_0l11) 5 1 (utxtV0 xu yown2_0l11).length xsyown2_0l11, .blk b1 (.cells ⟨vJ xu axu_0 cxu_0⟩ 53)]) (econs (congrArg (fun l : Value => Ent.bhd b3 90 l) (congrArg (fun l : List (Int) => Value.slice ayown2_0l11 l.length cyown2_0l11) ((if_f hc18).symm))) (econs (congrArg (fun l : List (Int) => Ent.own (.slice ayown2_0l11 l.length cyown2_0l11) 5 1 l.length xsyown2_0l11) ((if_f hc18).symm)) (econs (rfl) rfl))) ?_))
      exact fun a W hA hW => ⟨gl11, (Gext.refl w0 gl11), ayown2_0l11, cyown2_0l11, xsyown2_0l11, (Eq.mp (congrArg (fun l : List (Int) => RepL gl11 (.int .u8) xsyown2_0l11 l) ((if_f hc18).symm)) hLyown2_0l11), hA.sub (by kernel_rfl), hW, hF⟩
    ·
     clear hF
     rintro a W ⟨gj24, hxj24, ayown2_0j24, cyown2_0j24, xsyown2_0j24, hLyown2_0j24, hA, hW, hF⟩
     refine (?_ : Ok _ _ _ _ _ _) a W hA hW
     clear hA hW
     replace hRxu_0 := hRxu_0.mono hxj24.1
     replace hG1 := hG1.mono hxj24.1
     refine Ok.cut (fun a W => ∃ gj30 : Ghost, Gext w0 gj24 gj30 ∧ ∃ (ayown2_0j30 : Option Addr) (cyown2_0j30 : Nat) (xsyown2_0j30 : List Value), RepL gj30 (.int .u8) xsyown2_0j30 (utxtV1 xu yown2_0l11) ∧ StA 34 [(3, pv b3 0)] a ∧ StW w0 [.bhd b3 90 (.slice ayown2_0j30 (utxtV1 xu yown2_0l11).length cyown2_0j30), .own (.slice ayown2_0j30 (utxtV1 xu yown2_0l11).length cyown2_0j30) 5 1 (utxtV1 xu yown2_0l11).length xsyown2_0j30] gj30 W ∧ utxtj30 xu K yown2_0l11) ?_ ?_
     ·
      refine Ok.seq (Ok.region (Ok.bat 1 [1, 3] [(27, pv b1 7)] ?_))
      refine Ok.op rfl (OpOk.step (v := .bool xu.2.2.2.2.2.2.2) (Yields.load 2 rfl rfl Tryz.underlying4 rfl (by kernel_rfl)) rfl rfl (Ok.nil (Ok.thenN (Ok.cond (b := xu.2.2.2.2.2.2.2) rfl (fun hc15 => ?_) (fun hc15 => ?_)))))
      ·replace hF := hF.1 hc15
       refine Ok.region (Ok.bat 1 [3] [(29, pv b1 6)] ?_)
       refine Ok.op rfl (OpOk.step (v := sv xu.2.2.2.2.2.2.1) (Yields.load 2 rfl rfl Tryz.underlying9 rfl (by kernel_rfl)) rfl rfl ?_)
       obtain ⟨hv, hF⟩ := hF
       refine Ok.op rfl (OpOk.step (v := sv (([35] : Bs) ++ xu.2.2.2.2.2.2.1)) (Yields.strAdd rfl rfl hv) rfl rfl ?_)
       obtain ⟨hp16, hF⟩ := hF
       refine Ok.op rfl (OpOk.callH [_, _] _ enr rfl (Bld.ws_c (utxtV0 xu yown2_0l11) (([35] : Bs) ++ xu.2.2.2.2.2.2.1) hLyown2_0j24 hp16) rfl fun g17 _ _ hx17 hV17 => ?_)
       obtain ⟨a17_0, c17_0, xs17_0, rfl, hL17_0, rfl⟩ := hV17
       replace hRxu_0 := hRxu_0.mono hx17.1
       replace hG1 := hG1.mono hx17.1
       refine Ok.nil (Ok.thenN (Ok.heapEq (H' := [.bhd b3 90 (.slice a17_0 (utxtV1 xu yown2_0l11).length c17_0), .own (.slice a17_0 (utxtV1 xu yown2_0l11).length c17_0) 5 1 (utxtV1 xu yown2_0l11).length xs17_0, .blk b1 (.cells ⟨vJ xu axu_0 cxu_0⟩ 53)]) (econs (congrArg (fun l : Value => Ent.bhd b3 90 l) (congrArg (fun l : List (Int) => Value.slice a17_0 l.length c17_0) ((if_t hc15).symm))) (econs (congrArg (fun l : List (Int) => Ent.own (.slice a17_0 l.length c17_0) 5 1 l.length xs17_0) ((if_t hc15).symm)) (econs (rfl) rfl))) ?_))
       exact fun a W hA hW => ⟨g17, hx17, a17_0, c17_0, xs17_0, (Eq.mp (congrArg (fun l : List (Int) => RepL g17 (.int .u8) xs17_0 l) ((if_t hc15).symm)) hL17_0), hA.sub (by kernel_rfl), hW.sub (.cons_cons _ (.cons_cons _ (.cons _ .slnil))), hF⟩
      ·replace hF := hF.2 hc15
       refine Ok.skip (Ok.thenN (Ok.heapEq (H' := [.bhd b3 90 (.slice ayown2_0j24 (utxtV1 xu yown2_0l11).length cyown2_0j24), .own (.slice ayown2_0j24 (utxtV1 xu yown2_0l11).length cyown2_0j24) 5 1 (utxtV1 xu yown2_0l11).length xsyown2_0j24, .blk b1 (.cells ⟨vJ xu axu_0 cxu_0⟩ 53)]) (econs (congrArg (fun l : Value => Ent.bhd b3 90 l) (congrArg (fun l : List (Int) => Value.slice ayown2_0j24 l.length cyown2_0j24) ((if_f hc15).symm))) (econs (congrArg (fun l : List (Int) => Ent.own (.slice ayown2_0j24 l.length cyown2_0j24) 5 1 l.length xsyown2_0j24) ((if_f hc15).symm)) (econs (rfl) rfl))) ?_))
       exact fun a W hA hW => ⟨gj24, (Gext.refl w0 gj24), ayown2_0j24, cyown2_0j24, xsyown2_0j24, (Eq.mp (congrArg (fun l : List (Int) => RepL gj24 (.int .u8) xsyown2_0j24 l) ((if_f hc15).symm)) hLyown2_0j24), hA.sub (by kernel_rfl), hW.sub (.cons_cons _ (.cons_cons _ (.cons _ .slnil))), hF⟩
     ·
      clear hF
      rintro a W ⟨gj30, hxj30, ayown2_0j30, cyown2_0j30, xsyown2_0j30, hLyown2_0j30, hA, hW, hF⟩
      refine (?_ : Ok _ _ _ _ _ _) a W hA hW
      clear hA hW
      replace hG1 := hG1.mono hxj30.1
      refine Ok.seq (Ok.region ?_)
      obtain ⟨hp13, hF⟩ := hF
      refine Ok.op rfl (OpOk.callH [_, _] _ enr rfl (Bld.st_c (utxtV1 xu yown2_0l11) hLyown2_0j30 hp13) rfl fun g14 _ _ hx14 hV14 => ?_)
      obtain ⟨rfl, rfl⟩ := hV14
      replace hG1 := hG1.mono hx14.1
      refine Ok.batch 1 [(2, sv (bytesOf (utxtV1 xu yown2_0l11)))] (by kernel_rfl) (Ok.nil (Ok.thenN (Ok.ret ?_)))
      exact Ok.resH (vs := [sv (bytesOf (utxtV1 xu yown2_0l11))]) (.inl rfl) rfl (.cons (.tmp rfl) .nil) ((((hx6.trans hxl11).trans hxj24).trans hxj30).trans hx14) ⟨(bytesOf (utxtV1 xu yown2_0l11)), rfl, rfl, hF⟩
theorem utxt_F (u : JU) (hp : txtP u) : utxtF u (fun r => r = txtS u) := by
 obtain ⟨hp1, ⟨hp2, hp3⟩, hp4, hp5⟩ := hp
 have hol := ori_len u hp1
 rw [txtS_eq]
 have h0 : (Bld.wsS ([] : List Int) (oriS u)).2.2 = intsOf (oriS u) := by unfold Bld.wsS; simp [intsOf]
 refine ⟨hp1, by unfold wsP; simp only [List.length_nil]; omega, ?_⟩
 rw [h0]
 have hfin : ∀ acc : Bs, acc.length ≤ 10000000000000 → txtS0 u = (acc ++ (if u.2.2.2.2.2.1 = true then 63 :: u.2.2.2.2.1 else [])) ++ (if u.2.2.2.2.2.2.2 = true then 35 :: u.2.2.2.2.2.2.1 else []) →
   ((u.2.2.2.2.2.1) = true → ([63] : Bs).length + u.2.2.2.2.1.length ≤ maxLen ∧ Bld.wsP (intsOf acc) (([63] : Bs) ++ u.2.2.2.2.1) ∧ utxtj24 u (fun r => r = txtS0 u) (intsOf acc)) ∧ ((u.2.2.2.2.2.1) = false → utxtj24 u (fun r => r = txtS0 u) (intsOf acc)) := by
  intro acc hacc he
  have hv0 : utxtV0 u (intsOf acc) = intsOf (acc ++ (if u.2.2.2.2.2.1 = true then 63 :: u.2.2.2.2.1 else [])) := by
   unfold utxtV0
   split
   ·exact ints_cons 63 _ acc
   ·rw [List.append_nil]
  have hl0 : (acc ++ (if u.2.2.2.2.2.1 = true then 63 :: u.2.2.2.2.1 else [])).length ≤ acc.length + 100000001 := by
   rw [List.length_append]
   split
   ·rw [List.length_cons]; omega
   ·simp
  have hv1 : utxtV1 u (intsOf acc) = intsOf (txtS0 u) := by
   unfold utxtV1
   rw [hv0, he]
   split
   ·exact ints_cons 35 _ _
   ·rw [List.append_nil]
  have j30 : utxtj30 u (fun r => r = txtS0 u) (intsOf acc) := by
   unfold utxtj30
   rw [hv1]
   refine ⟨by unfold stP; rw [bytesOf_intsOf], ?_⟩
   exact bytesOf_intsOf _
  have j24 : utxtj24 u (fun r => r = txtS0 u) (intsOf acc) := by
   refine ⟨fun _ => ⟨by rw [maxLen_eq]; simp only [List.length_cons, List.length_nil]; omega, ?_, j30⟩, fun _ => j30⟩
   rw [hv0]
   unfold wsP
   rw [intsOf_length, one_app]
   omega
  refine ⟨fun _ => ⟨by rw [maxLen_eq]; simp only [List.length_cons, List.length_nil]; omega, ?_, j24⟩, fun _ => j24⟩
  unfold wsP
  rw [intsOf_length, one_app]
  omega
 have loop : ∀ (k i : Nat) (acc : Bs), i + k = u.2.2.2.1.length → acc.length ≤ 200000100 + 3145729 * i → txtS0 u = ((acc ++ pathT (u.2.2.2.1.drop i)) ++ (if u.2.2.2.2.2.1 = true then 63 :: u.2.2.2.2.1 else [])) ++ (if u.2.2.2.2.2.2.2 = true then 35 :: u.2.2.2.2.2.2.1 else []) → utxtl11 u (fun r => r = txtS0 u) (k + 1) (i : Int) (intsOf acc) := by
  intro k
  induction k with
  | zero =>
   intro i acc h1 h2 he
   rw [List.drop_of_length_le (by omega), show pathT [] = [] from rfl, List.append_nil] at he
   exact ⟨fun h => by have := of_decide_eq_true h; omega, fun _ => hfin acc (by omega) he⟩
  | succ k ih =>
   intro i acc h1 h2 he
   have hi : i < u.2.2.2.1.length := by omega
   have hm := hp3 _ (getD_mem hi)
   have hel := enc_len (u.2.2.2.1.getD i default)
   rw [drop_get (l := u.2.2.2.1) default hi, show ∀ (a : Bs) (l : List Bs), pathT (a :: l) = (47 :: encS a) ++ pathT l from fun _ _ => rfl] at he
   refine ⟨fun _ => ⟨by omega, by rw [Int.toNat_natCast]; omega, ?_⟩, fun h => by have := of_decide_eq_false h; omega⟩
   rw [Int.toNat_natCast]
   refine ⟨hm, by rw [maxLen_eq]; simp only [List.length_cons, List.length_nil]; omega, ?_, ?_⟩
   ·unfold wsP
    rw [intsOf_length, one_app]
    omega
   ·rw [ints_cons, w64 (by omega)]
    refine ih (i + 1) _ (by omega) ?_ ?_
    ·rw [List.length_append, List.length_cons]; omega
    ·rw [he, ← List.append_assoc acc]
 exact ⟨_, loop u.2.2.2.1.length 0 (oriS u) (by omega) (by omega) (by rw [List.drop_zero]; rfl)⟩
theorem utxt_c {g : Ghost} {axu_0 : Option Addr} {cxu_0 : Nat} (xu : JU) (hRxu_0 : Rep g (.slice (.str)) [.slice axu_0 xu.2.2.2.1.length cxu_0] xu.2.2.2.1) (hG1 : GlobL g 1 (.int .u64) DPow)  (hp : txtP xu) : CallsG Tryz.prog 42 #[.agg ⟨vJ xu axu_0 cxu_0⟩] g (sv (txtS xu)) :=
 (utxt_ok xu hRxu_0 hG1 _ (utxt_F xu hp)).gives (by rintro g' H' v _ ⟨r0, rfl, rfl, hK⟩; subst hK; rfl)
/-! AddressText -/
def rtxtV0 (xu : JU) (x3l9 : Bs) : Bs :=
 (if xu.2.2.2.2.2.1 = true then x3l9 ++ (([63] : Bs) ++ xu.2.2.2.2.1) else x3l9)
def rtxtV1 (xu : JU) (x3l9 : Bs) : Bs :=
 (if xu.2.2.2.2.2.2.2 = true then (rtxtV0 xu x3l9) ++ (([35] : Bs) ++ xu.2.2.2.2.2.2.1) else (rtxtV0 xu x3l9))
def rtxtj28 (xu : JU) (K : Bs → Prop) (x3l9 : Bs) : Prop :=
 K (rtxtV1 xu x3l9)
def rtxtj22 (xu : JU) (K : Bs → Prop) (x3l9 : Bs) : Prop :=
 ((xu.2.2.2.2.2.2.2) = true → ([35] : Bs).length + xu.2.2.2.2.2.2.1.length ≤ maxLen ∧ (rtxtV0 xu x3l9).length + (([35] : Bs) ++ xu.2.2.2.2.2.2.1).length ≤ maxLen ∧ rtxtj28 xu K x3l9) ∧ ((xu.2.2.2.2.2.2.2) = false → rtxtj28 xu K x3l9)
def rtxtl9b (xu : JU) (K : Bs → Prop) (x3l9 : Bs) (x11l9 : Int) (C9 : Bs → Int → Prop) : Prop :=
 ((decide (x11l9 < (xu.2.2.2.1.length : Int))) = true → (0 : Int) ≤ x11l9 ∧ Int.toNat x11l9 < xu.2.2.2.1.length ∧ encP (xu.2.2.2.1.getD (Int.toNat x11l9) default) ∧ ([47] : Bs).length + (encS (xu.2.2.2.1.getD (Int.toNat x11l9) default)).length ≤ maxLen ∧ x3l9.length + (([47] : Bs) ++ (encS (xu.2.2.2.1.getD (Int.toNat x11l9) default))).length ≤ maxLen ∧ C9 (x3l9 ++ (([47] : Bs) ++ (encS (xu.2.2.2.1.getD (Int.toNat x11l9) default)))) (w6 (x11l9 + 1))) ∧ ((decide (x11l9 < (xu.2.2.2.1.length : Int))) = false → ((xu.2.2.2.2.2.1) = true → ([63] : Bs).length + xu.2.2.2.2.1.length ≤ maxLen ∧ x3l9.length + (([63] : Bs) ++ xu.2.2.2.2.1).length ≤ maxLen ∧ rtxtj22 xu K x3l9) ∧ ((xu.2.2.2.2.2.1) = false → rtxtj22 xu K x3l9))
def rtxtl9 (xu : JU) (K : Bs → Prop) : Nat → Bs → Int → Prop
 | 0, _, _ => False
 | k + 1, x3l9, x11l9 => rtxtl9b xu K x3l9 x11l9 (rtxtl9 xu K k)
def rtxtF (xu : JU) (K : Bs → Prop) : Prop :=
 oriP xu ∧ ∃ k, rtxtl9 xu K k (oriS xu) 0
theorem rtxt_ok {g : Ghost} {axu_0 : Option Addr} {cxu_0 : Nat} (xu : JU) (hRxu_0 : Rep g (.slice (.str)) [.slice axu_0 xu.2.2.2.1.length cxu_0] xu.2.2.2.1) (hG0 : SomeInt g 0) (hG1 : GlobL g 1 (.int .u64) DPow) (K : Bs → Prop)
  (hF : rtxtF xu K) : CallsH Tryz.prog 30 #[.agg ⟨vJ xu axu_0 cxu_0⟩] g [] (fun g' H' v => ∃ (r0 : Bs), v = sv r0 ∧ H' = [] ∧ K r0) := by
 refine CallsH.enter 36 [(0, .agg ⟨vJ xu axu_0 cxu_0⟩)] Tryz.func30 rfl (by kernel_rfl) (by kernel_rfl) (by kernel_rfl) fun w0 => ?_
 refine Ok.seq (Ok.region (Ok.op rfl (OpOk.box (v := .agg ⟨vJ xu axu_0 cxu_0⟩) (cs := ⟨vJ xu axu_0 cxu_0⟩) rfl (by kernel_rfl) rfl fun b1 => ?_)))
 refine Ok.batch 1 [(1, pv b1 0)] (by kernel_rfl) (Ok.nil (Ok.thenN (Ok.seq (Ok.region (Ok.op rfl (OpOk.step (v := .agg ⟨vJ xu axu_0 cxu_0⟩) (Yields.loadAgg 0 8 ⟨vJ xu axu_0 cxu_0⟩ rfl rfl Tryz.underlying53 rfl (by kernel_rfl) (by kernel_rfl) (by kernel_rfl)) rfl rfl ?_))))))
 obtain ⟨hp2, hF⟩ := hF
 refine Ok.op rfl (OpOk.callG (v := sv (oriS xu)) enr (fun W hW => rori_c xu (hRxu_0.mono hW.sees) (hG1.mono hW.sees) hp2) rfl ?_)
 refine Ok.bat 1 [1] [(3, sv (oriS xu))] ?_
 refine Ok.nil (Ok.thenN (Ok.seq (Ok.seq (Ok.region (Ok.bat 1 [1, 3] [(8, pv b1 3)] ?_)))))
 refine Ok.op rfl (OpOk.step (v := .slice axu_0 xu.2.2.2.1.length cxu_0) (Yields.load 0 rfl rfl Tryz.underlying51 rfl (by kernel_rfl)) rfl rfl (Ok.bat 2 [1, 3] [(9, .slice axu_0 xu.2.2.2.1.length cxu_0), (10, .int .i64 (xu.2.2.2.1.length : Int)), (11, .int .i64 0)] ?_))
 refine Ok.nil (Ok.thenN (Ok.block ?_))
 obtain ⟨k, hF⟩ := hF
 refine Ok.loop (fun k a W => ∃ (x3l9 : Bs) (x11l9 : Int), StA 36 [(1, pv b1 0), (3, sv x3l9), (9, .slice axu_0 xu.2.2.2.1.length cxu_0), (10, .int .i64 (xu.2.2.2.1.length : Int)), (11, .int .i64 x11l9)] a ∧ StW w0 [.blk b1 (.cells ⟨vJ xu axu_0 cxu_0⟩ 53)] g W ∧ rtxtl9 xu K k x3l9 x11l9) k ?_ ?_
 ·
  exact fun a W hA hW => ⟨(oriS xu), 0, hA.sub (by kernel_rfl), hW, hF⟩
 ·
  clear hF
  rintro k9 a W ⟨x3l9, x11l9, hA, hW, hF⟩
  cases k9 with
  | zero => exact (hF : False).elim
  | succ k9 =>
   refine (?_ : Ok _ _ _ _ _ _) a W hA hW
   clear hA hW
   refine Ok.seq (Ok.region (Ok.bat 1 [1, 3, 9, 10, 11] [(12, .bool (decide (x11l9 < (xu.2.2.2.1.length : Int))))] ?_))
   refine Ok.nil (Ok.thenN (Ok.seq (Ok.cond (b := decide (x11l9 < (xu.2.2.2.1.length : Int))) rfl (fun hc3 => ?_) (fun hc3 => ?_))))
   ·replace hF := hF.1 hc3
    refine Ok.skip (Ok.thenN (Ok.seq (Ok.block (Ok.seq (Ok.region ?_)))))
    obtain ⟨h05, h15, hF⟩ := hF
    have he5 := get_of (l := xu.2.2.2.1) (default : Bs) h15
    generalize hg5 : (xu.2.2.2.1.getD (Int.toNat x11l9) default) = e5 at he5 hF ⊢
    refine Ok.op rfl (OpOk.indexRo (e := .str) (i := x11l9) (el := e5) rfl rfl Tryz.underlying51 (by kernel_rfl) hRxu_0 h05 he5 rfl fun q4 o4 cs4 _ hat4 hr4 => ?_)
    obtain rfl := hr4
    replace hat4 : At g q4 o4 [sv e5] := hat4
    refine Ok.op rfl (OpOk.step (v := sv e5) (Yields.loadRo 0 hat4 (by kernel_rfl) Tryz.underlying9 rfl (by kernel_rfl)) rfl rfl (Ok.bat 1 [1, 3, 9, 10, 11] [(5, sv e5)] ?_))
    refine Ok.nil (Ok.thenN (Ok.region (Ok.bat 2 [1, 9, 10, 11] [(15, sv x3l9), (16, sv e5)] ?_)))
    obtain ⟨hp6, hF⟩ := hF
    refine Ok.op rfl (OpOk.callG (v := sv (encS e5)) enr (fun W hW => renc_c e5 (hG0.mono hW.sees) hp6) rfl ?_)
    obtain ⟨hv, hF⟩ := hF
    refine Ok.op rfl (OpOk.step (v := sv (([47] : Bs) ++ (encS e5))) (Yields.strAdd rfl rfl hv) rfl rfl ?_)
    obtain ⟨hv, hF⟩ := hF
    refine Ok.op rfl (OpOk.step (v := sv (x3l9 ++ (([47] : Bs) ++ (encS e5)))) (Yields.strAdd rfl rfl hv) rfl rfl (Ok.bat 1 [1, 9, 10, 11] [(3, sv (x3l9 ++ (([47] : Bs) ++ (encS e5))))] ?_))
    refine Ok.nil (Ok.blockN (Ok.thenN (Ok.region (Ok.bat 2 [1, 3, 9, 10] [(11, .int .i64 (w6 (x11l9 + 1)))] ?_))))
    refine Ok.nil (Ok.thenN ?_)
    subst hg5
    exact fun a W hA hW => ⟨k9, Nat.lt_succ_self _, x3l9 ++ (([47] : Bs) ++ (encS (xu.2.2.2.1.getD (Int.toNat x11l9) default))), w6 (x11l9 + 1), hA.sub (by kernel_rfl), hW, hF⟩
   ·replace hF := hF.2 hc3
    refine Ok.exit (Ok.thenE (Ok.thenE (Ok.blockHit (Ok.thenN (Ok.cut (fun a W => StA 36 [(1, pv b1 0), (3, sv (rtxtV0 xu x3l9))] a ∧ StW w0 [.blk b1 (.cells ⟨vJ xu axu_0 cxu_0⟩ 53)] g W ∧ rtxtj22 xu K x3l9) ?_ ?_)))))
    ·
     refine Ok.seq (Ok.region (Ok.bat 1 [1, 3] [(21, pv b1 5)] ?_))
     refine Ok.op rfl (OpOk.step (v := .bool xu.2.2.2.2.2.1) (Yields.load 0 rfl rfl Tryz.underlying4 rfl (by kernel_rfl)) rfl rfl (Ok.nil (Ok.thenN (Ok.cond (b := xu.2.2.2.2.2.1) rfl (fun hc8 => ?_) (fun hc8 => ?_)))))
     ·replace hF := hF.1 hc8
      refine Ok.region (Ok.bat 2 [1] [(23, sv x3l9), (24, pv b1 4)] ?_)
      refine Ok.op rfl (OpOk.step (v := sv xu.2.2.2.2.1) (Yields.load 0 rfl rfl Tryz.underlying9 rfl (by kernel_rfl)) rfl rfl ?_)
      obtain ⟨hv, hF⟩ := hF
      refine Ok.op rfl (OpOk.step (v := sv (([63] : Bs) ++ xu.2.2.2.2.1)) (Yields.strAdd rfl rfl hv) rfl rfl ?_)
      obtain ⟨hv, hF⟩ := hF
      refine Ok.op rfl (OpOk.step (v := sv (x3l9 ++ (([63] : Bs) ++ xu.2.2.2.2.1))) (Yields.strAdd rfl rfl hv) rfl rfl (Ok.bat 1 [1] [(3, sv (x3l9 ++ (([63] : Bs) ++ xu.2.2.2.2.1)))] ?_))
      refine Ok.nil (Ok.thenN (Ok.reval 3 rfl (show (sv (x3l9 ++ (([63] : Bs) ++ xu.2.2.2.2.1)) : Value) = sv (rtxtV0 xu x3l9) from congrArg ((fun s : Bs => Value.string ⟨⟨s⟩⟩)) ((if_t hc8).symm)) ?_))
      exact fun a W hA hW => ⟨hA.sub (by kernel_rfl), hW, hF⟩
     ·replace hF := hF.2 hc8
      refine Ok.skip (Ok.thenN (Ok.reval 3 rfl (show (sv x3l9 : Value) = sv (rtxtV0 xu x3l9) from congrArg ((fun s : Bs => Value.string ⟨⟨s⟩⟩)) ((if_f hc8).symm)) ?_))
      exact fun a W hA hW => ⟨hA.sub (by kernel_rfl), hW, hF⟩
    ·
     clear hF
     rintro a W ⟨hA, hW, hF⟩
     refine (?_ : Ok _ _ _ _ _ _) a W hA hW
     clear hA hW
     refine Ok.cut (fun a W => StA 36 [(3, sv (rtxtV1 xu x3l9))] a ∧ StW w0 [] g W ∧ rtxtj28 xu K x3l9) ?_ ?_
     ·
      refine Ok.seq (Ok.region (Ok.bat 1 [1, 3] [(28, pv b1 7)] ?_))
      refine Ok.op rfl (OpOk.step (v := .bool xu.2.2.2.2.2.2.2) (Yields.load 0 rfl rfl Tryz.underlying4 rfl (by kernel_rfl)) rfl rfl (Ok.nil (Ok.thenN (Ok.cond (b := xu.2.2.2.2.2.2.2) rfl (fun hc7 => ?_) (fun hc7 => ?_)))))
      ·replace hF := hF.1 hc7
       refine Ok.region (Ok.batch 2 [(30, sv (rtxtV0 xu x3l9)), (31, pv b1 6)] (by kernel_rfl) (Ok.op rfl (OpOk.step (v := sv xu.2.2.2.2.2.2.1) (Yields.load 0 rfl rfl Tryz.underlying9 rfl (by kernel_rfl)) rfl rfl ?_)))
       obtain ⟨hv, hF⟩ := hF
       refine Ok.op rfl (OpOk.step (v := sv (([35] : Bs) ++ xu.2.2.2.2.2.2.1)) (Yields.strAdd rfl rfl hv) rfl rfl ?_)
       obtain ⟨hv, hF⟩ := hF
       refine Ok.op rfl (OpOk.step (v := sv ((rtxtV0 xu x3l9) ++ (([35] : Bs) ++ xu.2.2.2.2.2.2.1))) (Yields.strAdd rfl rfl hv) rfl rfl (Ok.batch 1 [(3, sv ((rtxtV0 xu x3l9) ++ (([35] : Bs) ++ xu.2.2.2.2.2.2.1)))] (by kernel_rfl) (Ok.nil (Ok.thenN (Ok.reval 3 rfl (show (sv ((rtxtV0 xu x3l9) ++ (([35] : Bs) ++ xu.2.2.2.2.2.2.1)) : Value) = sv (rtxtV1 xu x3l9) from congrArg ((fun s : Bs => Value.string ⟨⟨s⟩⟩)) ((if_t hc7).symm)) ?_)))))
       exact fun a W hA hW => ⟨hA.sub (by kernel_rfl), hW.sub (.cons _ .slnil), hF⟩
      ·replace hF := hF.2 hc7
       refine Ok.skip (Ok.thenN (Ok.reval 3 rfl (show (sv (rtxtV0 xu x3l9) : Value) = sv (rtxtV1 xu x3l9) from congrArg ((fun s : Bs => Value.string ⟨⟨s⟩⟩)) ((if_f hc7).symm)) ?_))
       exact fun a W hA hW => ⟨hA.sub (by kernel_rfl), hW.sub (.cons _ .slnil), hF⟩
     ·
      clear hF
      rintro a W ⟨hA, hW, hF⟩
      refine (?_ : Ok _ _ _ _ _ _) a W hA hW
      clear hA hW
      refine Ok.seq (Ok.region (Ok.batch 2 [(2, sv (rtxtV1 xu x3l9))] (by kernel_rfl) (Ok.nil (Ok.thenN (Ok.ret ?_)))))
      exact Ok.resH (vs := [sv (rtxtV1 xu x3l9)]) (.inl rfl) rfl (.cons (.tmp rfl) .nil) (Gext.refl w0 g) ⟨(rtxtV1 xu x3l9), rfl, rfl, hF⟩
theorem rtxt_F (u : JU) (hp : txtP u) : rtxtF u (fun r => r = txtS u) := by
 obtain ⟨hp1, ⟨hp2, hp3⟩, hp4, hp5⟩ := hp
 have hol := ori_len u hp1
 rw [txtS_eq]
 refine ⟨hp1, ?_⟩
 have hfin : ∀ acc : Bs, acc.length ≤ 10000000000000 → txtS0 u = (acc ++ (if u.2.2.2.2.2.1 = true then 63 :: u.2.2.2.2.1 else [])) ++ (if u.2.2.2.2.2.2.2 = true then 35 :: u.2.2.2.2.2.2.1 else []) →
   ((u.2.2.2.2.2.1) = true → ([63] : Bs).length + u.2.2.2.2.1.length ≤ maxLen ∧ acc.length + (([63] : Bs) ++ u.2.2.2.2.1).length ≤ maxLen ∧ rtxtj22 u (fun r => r = txtS0 u) acc) ∧ ((u.2.2.2.2.2.1) = false → rtxtj22 u (fun r => r = txtS0 u) acc) := by
  intro acc hacc he
  have hv0 : rtxtV0 u acc = acc ++ (if u.2.2.2.2.2.1 = true then 63 :: u.2.2.2.2.1 else []) := by
   unfold rtxtV0
   split
   ·rfl
   ·rw [List.append_nil]
  have hl0 : (acc ++ (if u.2.2.2.2.2.1 = true then 63 :: u.2.2.2.2.1 else [])).length ≤ acc.length + 100000001 := by
   rw [List.length_append]
   split
   ·rw [List.length_cons]; omega
   ·simp
  have hv1 : rtxtV1 u acc = txtS0 u := by
   unfold rtxtV1
   rw [hv0, he]
   split
   ·rfl
   ·rw [List.append_nil]
  have j28 : rtxtj28 u (fun r => r = txtS0 u) acc := hv1
  have j22 : rtxtj22 u (fun r => r = txtS0 u) acc := by
   refine ⟨fun _ => ⟨by rw [maxLen_eq]; simp only [List.length_cons, List.length_nil]; omega, ?_, j28⟩, fun _ => j28⟩
   rw [hv0, maxLen_eq, one_app]
   omega
  refine ⟨fun _ => ⟨by rw [maxLen_eq]; simp only [List.length_cons, List.length_nil]; omega, ?_, j22⟩, fun _ => j22⟩
  rw [maxLen_eq, one_app]
  omega
 have loop : ∀ (k i : Nat) (acc : Bs), i + k = u.2.2.2.1.length → acc.length ≤ 200000100 + 3145729 * i → txtS0 u = ((acc ++ pathT (u.2.2.2.1.drop i)) ++ (if u.2.2.2.2.2.1 = true then 63 :: u.2.2.2.2.1 else [])) ++ (if u.2.2.2.2.2.2.2 = true then 35 :: u.2.2.2.2.2.2.1 else []) → rtxtl9 u (fun r => r = txtS0 u) (k + 1) acc (i : Int) := by
  intro k
  induction k with
  | zero =>
   intro i acc h1 h2 he
   rw [List.drop_of_length_le (by omega), show pathT [] = [] from rfl, List.append_nil] at he
   exact ⟨fun h => by have := of_decide_eq_true h; omega, fun _ => hfin acc (by omega) he⟩
  | succ k ih =>
   intro i acc h1 h2 he
   have hi : i < u.2.2.2.1.length := by omega
   have hm := hp3 _ (getD_mem hi)
   have hel := enc_len (u.2.2.2.1.getD i default)
   rw [drop_get (l := u.2.2.2.1) default hi, show ∀ (a : Bs) (l : List Bs), pathT (a :: l) = ([47] ++ encS a) ++ pathT l from fun _ _ => rfl] at he
   refine ⟨fun _ => ⟨by omega, by rw [Int.toNat_natCast]; omega, ?_⟩, fun h => by have := of_decide_eq_false h; omega⟩
   rw [Int.toNat_natCast]
   refine ⟨hm, by rw [maxLen_eq]; simp only [List.length_cons, List.length_nil]; omega, ?_, ?_⟩
   ·rw [maxLen_eq, one_app]
    omega
   ·rw [w64 (by omega)]
    refine ih (i + 1) _ (by omega) ?_ ?_
    ·rw [List.length_append, List.length_append, List.length_cons, List.length_nil]; omega
    ·rw [he, ← List.append_assoc acc]
 exact ⟨_, loop u.2.2.2.1.length 0 (oriS u) (by omega) (by omega) (by rw [List.drop_zero]; rfl)⟩
theorem rtxt_c {g : Ghost} {axu_0 : Option Addr} {cxu_0 : Nat} (xu : JU) (hRxu_0 : Rep g (.slice (.str)) [.slice axu_0 xu.2.2.2.1.length cxu_0] xu.2.2.2.1) (hG0 : SomeInt g 0) (hG1 : GlobL g 1 (.int .u64) DPow)  (hp : txtP xu) : CallsG Tryz.prog 30 #[.agg ⟨vJ xu axu_0 cxu_0⟩] g (sv (txtS xu)) :=
 (rtxt_ok xu hRxu_0 hG0 hG1 _ (rtxt_F xu hp)).gives (by rintro g' H' v _ ⟨r0, rfl, rfl, hK⟩; subst hK; rfl)
end
end Go.Proofs.YtdaagfgedkdmjaaGreatDoor.Ub
