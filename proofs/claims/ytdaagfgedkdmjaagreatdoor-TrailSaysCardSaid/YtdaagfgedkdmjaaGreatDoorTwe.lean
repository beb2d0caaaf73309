/- Trails: the document's GoneOn; both sides. -/
import Derived.Test.YtdaagfgedkdmjaaGreatDoorTwd
namespace Go.Proofs.YtdaagfgedkdmjaaGreatDoor.Ub
open Go Go.Eng Go.RowKit Go.Shelf Go.Proofs Bld Sp Ti Uc Ua Ui
set_option maxHeartbeats 4000000
set_option maxRecDepth 100000
set_option linter.unusedSimpArgs false
set_option linter.unusedVariables false
noncomputable section
def rgnV0 (xref : Bs) (e9 : Bs × Bs × Int) : Bool :=
 ((!((prtS (resS e9.1 xref).1 ([35] : Bs)).1 == (prtS e9.1 ([35] : Bs)).1)) || (!(scontS xref ([35] : Bs))))
def rgnV1 (xt : (List (Bs × Bs × Int)) × Int) (xhow : Int) (xref : Bs) (xstate : Bs) (e9 : Bs × Bs × Int) (yb14_2j27 : Int) : List (Bs × Bs × Int) :=
 (if (((((wclS xt.1).take (Int.toNat (w6 (xt.2 + 1)))) ++ ([((resS e9.1 xref).1, (if (xhow == 1) = true then ([] : Bs) else xstate), yb14_2j27)] : List (Bs × Bs × Int))).length : Int) == 51) = true then ((((wclS xt.1).take (Int.toNat (w6 (xt.2 + 1)))) ++ ([((resS e9.1 xref).1, (if (xhow == 1) = true then ([] : Bs) else xstate), yb14_2j27)] : List (Bs × Bs × Int))).drop (Int.toNat 1)) else (((wclS xt.1).take (Int.toNat (w6 (xt.2 + 1)))) ++ ([((resS e9.1 xref).1, (if (xhow == 1) = true then ([] : Bs) else xstate), yb14_2j27)] : List (Bs × Bs × Int))))
def rgnV2 (xref : Bs) (e9 : Bs × Bs × Int) : Bs :=
 (oriS (parS (resS e9.1 xref).1).1)
def rgnV3 (e9 : Bs × Bs × Int) : Bs :=
 (oriS (parS e9.1).1)
def rgnj102 (xt : (List (Bs × Bs × Int)) × Int) (xhow : Int) (xref : Bs) (xstate : Bs) (K : ((List (Bs × Bs × Int)) × Int) → Int → Prop) (e9 : Bs × Bs × Int) (yb14_2j27 : Int) : Prop :=
 K ((rgnV1 xt xhow xref xstate e9 yb14_2j27), w6 (((rgnV1 xt xhow xref xstate e9 yb14_2j27).length : Int) - 1)) 0
def rgnj102y (xt : (List (Bs × Bs × Int)) × Int) (xhow : Int) (xref : Bs) (xstate : Bs) (K : ((List (Bs × Bs × Int)) × Int) → Int → Prop) (e9 : Bs × Bs × Int) (yb14_2j27 : Int) : Prop :=
 K ((rgnV1 xt xhow xref xstate e9 yb14_2j27), w6 (((rgnV1 xt xhow xref xstate e9 yb14_2j27).length : Int) - 1)) 0
def rgnj27 (xt : (List (Bs × Bs × Int)) × Int) (xhow : Int) (xref : Bs) (xstate : Bs) (K : ((List (Bs × Bs × Int)) × Int) → Int → Prop) (e9 : Bs × Bs × Int) (yb14_2j27 : Int) : Prop :=
 wclP xt.1 ∧ (((xhow == 3)) = true → (0 : Int) ≤ xt.2 ∧ Int.toNat xt.2 < (wclS xt.1).length ∧ K (((wclS xt.1).set (Int.toNat xt.2) ((resS e9.1 xref).1, (if (xhow == 1) = true then ([] : Bs) else xstate), yb14_2j27)), xt.2) 0) ∧ (((xhow == 3)) = false → ((0 : Int) ≤ (w6 (xt.2 + 1)) ∧ (w6 (xt.2 + 1)) ≤ ((wclS xt.1).length : Int) ∧ (((wclS xt.1).take (Int.toNat (w6 (xt.2 + 1)))) ++ ([((resS e9.1 xref).1, (if (xhow == 1) = true then ([] : Bs) else xstate), yb14_2j27)] : List (Bs × Bs × Int))).length ≤ 3518437208883 ∧ (((((((wclS xt.1).take (Int.toNat (w6 (xt.2 + 1)))) ++ ([((resS e9.1 xref).1, (if (xhow == 1) = true then ([] : Bs) else xstate), yb14_2j27)] : List (Bs × Bs × Int))).length : Int) == 51)) = true → (0 : Int) ≤ 1 ∧ (1 : Int) ≤ ((((wclS xt.1).take (Int.toNat (w6 (xt.2 + 1)))) ++ ([((resS e9.1 xref).1, (if (xhow == 1) = true then ([] : Bs) else xstate), yb14_2j27)] : List (Bs × Bs × Int))).length : Int) ∧ ((((wclS xt.1).take (Int.toNat (w6 (xt.2 + 1)))) ++ ([((resS e9.1 xref).1, (if (xhow == 1) = true then ([] : Bs) else xstate), yb14_2j27)] : List (Bs × Bs × Int))).length : Int) ≤ ((((wclS xt.1).take (Int.toNat (w6 (xt.2 + 1)))) ++ ([((resS e9.1 xref).1, (if (xhow == 1) = true then ([] : Bs) else xstate), yb14_2j27)] : List (Bs × Bs × Int))).length : Int) ∧ rgnj102 xt xhow xref xstate K e9 yb14_2j27) ∧ (((((((wclS xt.1).take (Int.toNat (w6 (xt.2 + 1)))) ++ ([((resS e9.1 xref).1, (if (xhow == 1) = true then ([] : Bs) else xstate), yb14_2j27)] : List (Bs × Bs × Int))).length : Int) == 51)) = false → rgnj102 xt xhow xref xstate K e9 yb14_2j27)) ∧ ((0 : Int) ≤ (w6 (xt.2 + 1)) ∧ (w6 (xt.2 + 1)) ≤ ((wclS xt.1).length : Int) ∧ (((wclS xt.1).take (Int.toNat (w6 (xt.2 + 1)))) ++ ([((resS e9.1 xref).1, (if (xhow == 1) = true then ([] : Bs) else xstate), yb14_2j27)] : List (Bs × Bs × Int))).length ≤ 3518437208883 ∧ (((((((wclS xt.1).take (Int.toNat (w6 (xt.2 + 1)))) ++ ([((resS e9.1 xref).1, (if (xhow == 1) = true then ([] : Bs) else xstate), yb14_2j27)] : List (Bs × Bs × Int))).length : Int) == 51)) = true → (0 : Int) ≤ 1 ∧ (1 : Int) ≤ ((((wclS xt.1).take (Int.toNat (w6 (xt.2 + 1)))) ++ ([((resS e9.1 xref).1, (if (xhow == 1) = true then ([] : Bs) else xstate), yb14_2j27)] : List (Bs × Bs × Int))).length : Int) ∧ ((((wclS xt.1).take (Int.toNat (w6 (xt.2 + 1)))) ++ ([((resS e9.1 xref).1, (if (xhow == 1) = true then ([] : Bs) else xstate), yb14_2j27)] : List (Bs × Bs × Int))).length : Int) ≤ ((((wclS xt.1).take (Int.toNat (w6 (xt.2 + 1)))) ++ ([((resS e9.1 xref).1, (if (xhow == 1) = true then ([] : Bs) else xstate), yb14_2j27)] : List (Bs × Bs × Int))).length : Int) ∧ rgnj102y xt xhow xref xstate K e9 yb14_2j27) ∧ (((((((wclS xt.1).take (Int.toNat (w6 (xt.2 + 1)))) ++ ([((resS e9.1 xref).1, (if (xhow == 1) = true then ([] : Bs) else xstate), yb14_2j27)] : List (Bs × Bs × Int))).length : Int) == 51)) = false → rgnj102y xt xhow xref xstate K e9 yb14_2j27)))
def rgnl44b (xt : (List (Bs × Bs × Int)) × Int) (xhow : Int) (xref : Bs) (xstate : Bs) (K : ((List (Bs × Bs × Int)) × Int) → Int → Prop) (e9 : Bs × Bs × Int) (x78l44 : Int) (yb14_2l44 : Int) (C44 : Int → Int → Prop) : Prop :=
 ((decide (x78l44 < (xt.1.length : Int))) = true → (0 : Int) ≤ x78l44 ∧ Int.toNat x78l44 < xt.1.length ∧ C44 (w6 (x78l44 + 1)) (if yb14_2l44 < (xt.1.getD (Int.toNat x78l44) default).2.2 then (xt.1.getD (Int.toNat x78l44) default).2.2 else yb14_2l44)) ∧ ((decide (x78l44 < (xt.1.length : Int))) = false → ((decide ((w6 (yb14_2l44 + 1)) > 1000000)) = true → K (([] : List (Bs × Bs × Int)), 0) 2) ∧ ((decide ((w6 (yb14_2l44 + 1)) > 1000000)) = false → rgnj27 xt xhow xref xstate K e9 (w6 (yb14_2l44 + 1))))
def rgnl44 (xt : (List (Bs × Bs × Int)) × Int) (xhow : Int) (xref : Bs) (xstate : Bs) (K : ((List (Bs × Bs × Int)) × Int) → Int → Prop) (e9 : Bs × Bs × Int) : Nat → Int → Int → Prop
 | 0, _, _ => False
 | k + 1, x78l44, yb14_2l44 => rgnl44b xt xhow xref xstate K e9 x78l44 yb14_2l44 (rgnl44 xt xhow xref xstate K e9 k)
def rgnj35 (xt : (List (Bs × Bs × Int)) × Int) (xhow : Int) (xref : Bs) (xstate : Bs) (K : ((List (Bs × Bs × Int)) × Int) → Int → Prop) (e9 : Bs × Bs × Int) : Prop :=
 (((rgnV0 xref e9)) = true → ∃ k, rgnl44 xt xhow xref xstate K e9 k 0 (-1)) ∧ (((rgnV0 xref e9)) = false → rgnj27 xt xhow xref xstate K e9 e9.2.2)
def rgnF (xt : (List (Bs × Bs × Int)) × Int) (xhow : Int) (xref : Bs) (xstate : Bs) (K : ((List (Bs × Bs × Int)) × Int) → Int → Prop) : Prop :=
 lenP xt ∧ ((((chkT xt) != 0)) = true → K (([] : List (Bs × Bs × Int)), 0) (chkT xt)) ∧ ((((chkT xt) != 0)) = false → (0 : Int) ≤ xt.2 ∧ Int.toNat xt.2 < xt.1.length ∧ ((((resS (xt.1.getD (Int.toNat xt.2) default).1 xref).2 != 0)) = true → K (([] : List (Bs × Bs × Int)), 0) (resS (xt.1.getD (Int.toNat xt.2) default).1 xref).2) ∧ ((((resS (xt.1.getD (Int.toNat xt.2) default).1 xref).2 != 0)) = false → (((xhow == 1)) = true → prtP (resS (xt.1.getD (Int.toNat xt.2) default).1 xref).1 ([35] : Bs) ∧ prtP (xt.1.getD (Int.toNat xt.2) default).1 ([35] : Bs) ∧ ((!((prtS (resS (xt.1.getD (Int.toNat xt.2) default).1 xref).1 ([35] : Bs)).1 == (prtS (xt.1.getD (Int.toNat xt.2) default).1 ([35] : Bs)).1)) = true → rgnj35 xt xhow xref xstate K (xt.1.getD (Int.toNat xt.2) default)) ∧ ((!((prtS (resS (xt.1.getD (Int.toNat xt.2) default).1 xref).1 ([35] : Bs)).1 == (prtS (xt.1.getD (Int.toNat xt.2) default).1 ([35] : Bs)).1)) = false → scontP xref ([35] : Bs) ∧ rgnj35 xt xhow xref xstate K (xt.1.getD (Int.toNat xt.2) default))) ∧ (((xhow == 1)) = false → ((decide ((xstate.length : Int) > 2000)) = true → K (([] : List (Bs × Bs × Int)), 0) 2) ∧ ((decide ((xstate.length : Int) > 2000)) = false → oriP (parS (resS (xt.1.getD (Int.toNat xt.2) default).1 xref).1).1 ∧ oriP (parS (xt.1.getD (Int.toNat xt.2) default).1).1 ∧ ((!((rgnV2 xref (xt.1.getD (Int.toNat xt.2) default)) == (rgnV3 (xt.1.getD (Int.toNat xt.2) default)))) = true → K (([] : List (Bs × Bs × Int)), 0) 12) ∧ ((!((rgnV2 xref (xt.1.getD (Int.toNat xt.2) default)) == (rgnV3 (xt.1.getD (Int.toNat xt.2) default)))) = false → rgnj27 xt xhow xref xstate K (xt.1.getD (Int.toNat xt.2) default) (xt.1.getD (Int.toNat xt.2) default).2.2)))))
theorem rgn_ok {g : Ghost} {axt_0 : Option Addr} {cxt_0 : Nat} (xt : (List (Bs × Bs × Int)) × Int) (xhow : Int) (xref : Bs) (xstate : Bs) (hRxt_0 : Rep g (.slice (.pair (.str) (.pair (.str) (.int .i64)))) [.slice axt_0 xt.1.length cxt_0] xt.1) (hG0 : SomeInt g 0) (hG1 : GlobL g 1 (.int .u64) DPow) (K : ((List (Bs × Bs × Int)) × Int) → Int → Prop)
  (hF : rgnF xt xhow xref xstate K) : CallsH Tryz.prog 13 #[.agg ⟨vT xt axt_0 cxt_0⟩, .int .i64 xhow, sv xref, sv xstate] g [] (fun g' H' v => ∃ (r0 : (List (Bs × Bs × Int)) × Int), ∃ (r1 : Int), ∃ (ar0_0 : Option Addr) (cr0_0 : Nat), v = .tuple #[.agg ⟨vT r0 ar0_0 cr0_0⟩, .int .i64 r1] ∧ Rep g' (.slice (.pair (.str) (.pair (.str) (.int .i64)))) [.slice ar0_0 r0.1.length cr0_0] r0.1 ∧ H' = [] ∧ K r0 r1) := by
 refine CallsH.enter 152 [(0, .agg ⟨vT xt axt_0 cxt_0⟩), (1, .int .i64 xhow), (2, sv xref), (3, sv xstate)] Tryz.func13 rfl (by kernel_rfl) (by kernel_rfl) (by kernel_rfl) fun w0 => ?_
 refine Ok.seq (Ok.region (Ok.op rfl (OpOk.box (v := .agg ⟨vT xt axt_0 cxt_0⟩) (cs := ⟨vT xt axt_0 cxt_0⟩) rfl (by kernel_rfl) rfl fun b1 => ?_)))
 have hL2 : RepL g (.pair (.str) (.pair (.str) (.int .i64))) [] [] := rfl
 refine Ok.ownNil 36 3 (Ok.op rfl (OpOk.alloc (z := .agg #[.slice none ([] : List (Bs × Bs × Int)).length 0, .int .i64 0]) (cs := #[.slice none ([] : List (Bs × Bs × Int)).length 0, .int .i64 0]) (by kernel_rfl) (by kernel_rfl) rfl fun b3 => ?_))
 refine Ok.batch 1 [(1, .int .i64 xhow), (2, sv xref), (3, sv xstate), (4, pv b1 0), (8, pv b3 0)] (by kernel_rfl) (Ok.nil (Ok.thenN (Ok.seq (Ok.seq (Ok.region (Ok.op rfl (OpOk.step (v := .agg ⟨vT xt axt_0 cxt_0⟩) (Yields.loadAgg 2 2 ⟨vT xt axt_0 cxt_0⟩ rfl rfl Tryz.underlying24 rfl (by kernel_rfl) (by kernel_rfl) (by kernel_rfl)) rfl rfl ?_)))))))
 obtain ⟨hp4, hF⟩ := hF
 refine Ok.op rfl (OpOk.callG (v := .int .i64 (chkT xt)) enr (fun W hW => rtr_c xt (hRxt_0.mono hW.sees) (hG0.mono hW.sees) (hG1.mono hW.sees) hp4) rfl ?_)
 refine Ok.bat 1 [1, 2, 3, 4, 8] [(10, .int .i64 (chkT xt))] ?_
 refine Ok.nil (Ok.thenN (Ok.seq (Ok.region (Ok.bat 2 [1, 2, 3, 4, 8, 10] [(29, .bool ((chkT xt) != 0))] ?_))))
 refine Ok.nil (Ok.thenN (Ok.cond (b := ((chkT xt) != 0)) rfl (fun hc5 => ?_) (fun hc5 => ?_)))
 ·replace hF := hF.1 hc5
  refine Ok.seq (Ok.region (Ok.bat 2 [8] [(30, .agg #[.slice none 0 0, .int .i64 0]), (31, .int .i64 (chkT xt))] ?_))
  have hL6 : RepL g (.pair (.str) (.pair (.str) (.int .i64))) [] [] := rfl
  refine Ok.ownNil 36 3 (Ok.op rfl (OpOk.sto (k := 2) (v := .agg #[.slice none ([] : List (Bs × Bs × Int)).length 0, .int .i64 0]) 1 #[.slice none ([] : List (Bs × Bs × Int)).length 0, .int .i64 0] rfl rfl rfl ?_))
  refine Ok.bat 1 [8] [(9, .int .i64 (chkT xt))] ?_
  refine Ok.nil (Ok.thenN (Ok.ret (Ok.thenR (Ok.frz 0 rfl hL6 fun g7 hx7 hRf7 => ?_))))
  replace hL2 := hL2.mono hx7.1
  replace hRxt_0 := hRxt_0.mono hx7.1
  replace hG0 := hG0.mono hx7.1
  replace hG1 := hG1.mono hx7.1
  exact Ok.resP (vs := [.agg #[.slice none ([] : List (Bs × Bs × Int)).length 0, .int .i64 0], .int .i64 (chkT xt)]) [] [] (by decide) rfl (.inl rfl) rfl (.cons (.cellAgg 0 2 #[.slice none ([] : List (Bs × Bs × Int)).length 0, .int .i64 0] rfl rfl Tryz.underlying24 rfl (by kernel_rfl) (by kernel_rfl) (by kernel_rfl)) (.cons (.tmp rfl) .nil)) hx7 ⟨(([] : List (Bs × Bs × Int)), 0), (chkT xt), none, 0, rfl, hRf7, rfl, hF⟩
 ·replace hF := hF.2 hc5
  refine Ok.skip (Ok.thenN (Ok.seq (Ok.region (Ok.bat 1 [1, 2, 3, 4, 8] [(32, pv b1 0)] ?_))))
  refine Ok.op rfl (OpOk.step (v := .slice axt_0 xt.1.length cxt_0) (Yields.load 2 rfl rfl Tryz.underlying22 rfl (by kernel_rfl)) rfl rfl (Ok.bat 1 [1, 2, 3, 4, 8] [(33, .slice axt_0 xt.1.length cxt_0), (34, pv b1 1)] ?_))
  refine Ok.op rfl (OpOk.step (v := .int .i64 xt.2) (Yields.load 2 rfl rfl Tryz.underlying3 rfl (by kernel_rfl)) rfl rfl ?_)
  obtain ⟨h09, h19, hF⟩ := hF
  have he9 := get_of (l := xt.1) (default : Bs × Bs × Int) h19
  generalize hg9 : (xt.1.getD (Int.toNat xt.2) default) = e9 at he9 hF ⊢
  refine Ok.op rfl (OpOk.indexRo (e := .pair (.str) (.pair (.str) (.int .i64))) (i := xt.2) (el := e9) rfl rfl Tryz.underlying22 (by kernel_rfl) hRxt_0 h09 he9 rfl fun q8 o8 cs8 _ hat8 hr8 => ?_)
  obtain ⟨_, _, rfl, rfl, ⟨_, _, rfl, rfl, rfl⟩⟩ := hr8
  replace hat8 : At g q8 o8 (vE e9) := hat8
  refine Ok.op rfl (OpOk.step (v := .agg ⟨vE e9⟩) (Yields.loadAggRo 0 3 ⟨vE e9⟩ hat8 (by kernel_rfl) Tryz.underlying36 rfl (by kernel_rfl) (by kernel_rfl) (by kernel_rfl)) rfl rfl (Ok.op rfl (OpOk.alloc (z := .agg #[sv ([] : Bs), sv ([] : Bs), .int .i64 0]) (cs := #[sv ([] : Bs), sv ([] : Bs), .int .i64 0]) (by kernel_rfl) (by kernel_rfl) rfl fun b10 => ?_)))
  refine Ok.op rfl (OpOk.sto (k := 3) (v := .agg ⟨vE e9⟩) 0 ⟨vE e9⟩ rfl rfl rfl ?_)
  refine Ok.nil (Ok.thenN (Ok.seq (Ok.region (Ok.bat 1 [1, 2, 3, 4, 8] [(11, pv b10 0), (39, pv b10 0)] ?_))))
  refine Ok.op rfl (OpOk.step (v := sv e9.1) (Yields.load 0 rfl rfl Tryz.underlying9 rfl (by kernel_rfl)) rfl rfl (Ok.bat 1 [1, 2, 3, 4, 8, 11] [(40, sv e9.1), (41, sv xref)] ?_))
  refine Ok.op rfl (OpOk.callG (v := .tuple #[sv ((resS e9.1 xref).1), .int .i64 (resS e9.1 xref).2]) enr (fun W hW => rres_c e9.1 xref (hG0.mono hW.sees) (hG1.mono hW.sees)) rfl ?_)
  refine Ok.bat 5 [1, 2, 3, 4, 8, 11] [(12, sv ((resS e9.1 xref).1)), (13, .int .i64 (resS e9.1 xref).2)] ?_
  refine Ok.nil (Ok.thenN (Ok.seq (Ok.seq (Ok.region (Ok.bat 2 [1, 2, 3, 4, 8, 11, 12, 13] [(46, .bool ((resS e9.1 xref).2 != 0))] ?_)))))
  refine Ok.nil (Ok.thenN (Ok.cond (b := ((resS e9.1 xref).2 != 0)) rfl (fun hc11 => ?_) (fun hc11 => ?_)))
  ·replace hF := hF.1 hc11
   refine Ok.seq (Ok.region (Ok.bat 2 [8] [(47, .agg #[.slice none 0 0, .int .i64 0]), (48, .int .i64 (resS e9.1 xref).2)] ?_))
   have hL12 : RepL g (.pair (.str) (.pair (.str) (.int .i64))) [] [] := rfl
   refine Ok.ownNil 36 3 (Ok.op rfl (OpOk.sto (k := 2) (v := .agg #[.slice none ([] : List (Bs × Bs × Int)).length 0, .int .i64 0]) 2 #[.slice none ([] : List (Bs × Bs × Int)).length 0, .int .i64 0] rfl rfl rfl ?_))
   refine Ok.bat 1 [8] [(9, .int .i64 (resS e9.1 xref).2)] ?_
   refine Ok.nil (Ok.thenN (Ok.ret (Ok.thenR (Ok.frz 0 rfl hL12 fun g13 hx13 hRf13 => ?_))))
   replace hL2 := hL2.mono hx13.1
   replace hRxt_0 := hRxt_0.mono hx13.1
   replace hG0 := hG0.mono hx13.1
   replace hG1 := hG1.mono hx13.1
   exact Ok.resP (vs := [.agg #[.slice none ([] : List (Bs × Bs × Int)).length 0, .int .i64 0], .int .i64 (resS e9.1 xref).2]) [] [] (by decide) rfl (.inl rfl) rfl (.cons (.cellAgg 1 2 #[.slice none ([] : List (Bs × Bs × Int)).length 0, .int .i64 0] rfl rfl Tryz.underlying24 rfl (by kernel_rfl) (by kernel_rfl) (by kernel_rfl)) (.cons (.tmp rfl) .nil)) hx13 ⟨(([] : List (Bs × Bs × Int)), 0), (resS e9.1 xref).2, none, 0, rfl, hRf13, rfl, hF⟩
  ·replace hF := hF.2 hc11
   refine Ok.skip (Ok.thenN (Ok.seq (Ok.region (Ok.bat 2 [1, 2, 3, 4, 8, 11, 12] [(49, sv ((resS e9.1 xref).1)), (50, pv b10 2)] ?_))))
   refine Ok.op rfl (OpOk.step (v := .int .i64 e9.2.2) (Yields.load 0 rfl rfl Tryz.underlying3 rfl (by kernel_rfl)) rfl rfl (Ok.bat 1 [1, 2, 3, 4, 8, 11, 12] [(52, .agg #[sv ((resS e9.1 xref).1), sv ([] : Bs), .int .i64 e9.2.2])] ?_))
   refine Ok.op rfl (OpOk.alloc (z := .agg #[sv ([] : Bs), sv ([] : Bs), .int .i64 0]) (cs := #[sv ([] : Bs), sv ([] : Bs), .int .i64 0]) (by kernel_rfl) (by kernel_rfl) rfl fun b14 => ?_)
   refine Ok.op rfl (OpOk.sto (k := 3) (v := .agg #[sv ((resS e9.1 xref).1), sv ([] : Bs), .int .i64 e9.2.2]) 0 #[sv ((resS e9.1 xref).1), sv ([] : Bs), .int .i64 e9.2.2] rfl rfl rfl ?_)
   refine Ok.nil (Ok.thenN (Ok.cut (fun a W => ∃ gj27 : Ghost, Gext w0 g gj27 ∧ ∃ (yb14_2j27 : Int), StA 152 [(1, .int .i64 xhow), (4, pv b1 0), (8, pv b3 0), (14, pv b14 0)] a ∧ StW w0 [.blk b14 (.cells #[sv ((resS e9.1 xref).1), sv (if (xhow == 1) = true then ([] : Bs) else xstate), .int .i64 yb14_2j27] 36), .blk b3 (.cells #[.slice none ([] : List (Bs × Bs × Int)).length 0, .int .i64 0] 24), .own (.slice none ([] : List (Bs × Bs × Int)).length 0) 36 3 ([] : List (Bs × Bs × Int)).length ([]), .blk b1 (.cells ⟨vT xt axt_0 cxt_0⟩ 24)] gj27 W ∧ rgnj27 xt xhow xref xstate K e9 yb14_2j27) ?_ ?_))
   ·
    refine Ok.seq (Ok.region (Ok.bat 2 [1, 2, 3, 4, 8, 11, 12] [(14, pv b14 0), (54, .bool (xhow == 1))] ?_))
    refine Ok.nil (Ok.thenN (Ok.cond (b := (xhow == 1)) rfl (fun hc38 => ?_) (fun hc38 => ?_)))
    ·replace hF := hF.1 hc38
     refine Ok.seq (Ok.region (Ok.bat 1 [1, 2, 4, 8, 11, 14] [(56, sv ((resS e9.1 xref).1))] ?_))
     obtain ⟨hp39, hF⟩ := hF
     refine Ok.op rfl (OpOk.callG (v := .tuple #[sv ((prtS (resS e9.1 xref).1 ([35] : Bs)).1), sv ((prtS (resS e9.1 xref).1 ([35] : Bs)).2)]) enr (fun W hW => rprt_c (resS e9.1 xref).1 ([35] : Bs) (hG0.mono hW.sees) hp39) rfl ?_)
     refine Ok.bat 5 [1, 2, 4, 8, 11, 14] [(15, sv ((prtS (resS e9.1 xref).1 ([35] : Bs)).1))] ?_
     refine Ok.nil (Ok.thenN (Ok.seq (Ok.region (Ok.bat 1 [1, 2, 4, 8, 14, 15] [(61, pv b10 0)] ?_))))
     refine Ok.op rfl (OpOk.step (v := sv e9.1) (Yields.load 1 rfl rfl Tryz.underlying9 rfl (by kernel_rfl)) rfl rfl ?_)
     obtain ⟨hp40, hF⟩ := hF
     refine Ok.op rfl (OpOk.callG (v := .tuple #[sv ((prtS e9.1 ([35] : Bs)).1), sv ((prtS e9.1 ([35] : Bs)).2)]) enr (fun W hW => rprt_c e9.1 ([35] : Bs) (hG0.mono hW.sees) hp40) rfl ?_)
     refine Ok.bat 5 [1, 2, 4, 8, 14, 15] [(17, sv ((prtS e9.1 ([35] : Bs)).1))] ?_
     refine Ok.nil (Ok.thenN (Ok.cut (fun a W => ∃ gj35 : Ghost, Gext w0 g gj35 ∧ StA 152 [(1, .int .i64 xhow), (4, pv b1 0), (8, pv b3 0), (14, pv b14 0), (73, .bool (rgnV0 xref e9))] a ∧ StW w0 [.blk b14 (.cells #[sv ((resS e9.1 xref).1), sv ([] : Bs), .int .i64 e9.2.2] 36), .blk b3 (.cells #[.slice none ([] : List (Bs × Bs × Int)).length 0, .int .i64 0] 24), .own (.slice none ([] : List (Bs × Bs × Int)).length 0) 36 3 ([] : List (Bs × Bs × Int)).length ([]), .blk b1 (.cells ⟨vT xt axt_0 cxt_0⟩ 24)] gj35 W ∧ rgnj35 xt xhow xref xstate K e9) ?_ ?_))
     ·
      refine Ok.region (Ok.bat 2 [1, 2, 4, 8, 14] [(66, sv ((prtS (resS e9.1 xref).1 ([35] : Bs)).1)), (67, sv ((prtS e9.1 ([35] : Bs)).1))] ?_)
      refine Ok.op rfl (OpOk.step (v := .bool (!((prtS (resS e9.1 xref).1 ([35] : Bs)).1 == (prtS e9.1 ([35] : Bs)).1))) (Yields.strCmp (f := .neq) (a := (prtS (resS e9.1 xref).1 ([35] : Bs)).1) (b := (prtS e9.1 ([35] : Bs)).1) (by kernel_rfl) (by kernel_rfl) rfl) rfl rfl (Ok.bat 1 [1, 2, 4, 8, 14] [(69, .bool (!((prtS (resS e9.1 xref).1 ([35] : Bs)).1 == (prtS e9.1 ([35] : Bs)).1)))] ?_))
      refine Ok.boolAt 69 (!((prtS (resS e9.1 xref).1 ([35] : Bs)).1 == (prtS e9.1 ([35] : Bs)).1)) rfl (fun hc49 => ?_) (fun hc49 => ?_)
      ·replace hF := hF.1 hc49
       refine Ok.bat 4 [1, 4, 8, 14] [(73, .bool true)] ?_
       refine Ok.nil (Ok.thenN (Ok.reval 73 rfl (show (.bool true : Value) = .bool (rgnV0 xref e9) from congrArg (Value.bool) (mor_t hc49)) ?_))
       exact fun a W hA hW => ⟨g, (Gext.refl w0 g), hA.sub (by kernel_rfl), hW.sub (.cons_cons _ (.cons _ (.cons_cons _ (.cons_cons _ (.cons_cons _ .slnil))))), hF⟩
      ·replace hF := hF.2 hc49
       refine Ok.bat 1 [1, 4, 8, 14] [(69, .bool false), (70, sv xref)] ?_
       obtain ⟨hp50, hF⟩ := hF
       refine Ok.opYes (j := 3) (d := 69) (want := false) (b := false) rfl (by kernel_rfl) (by kernel_rfl) rfl (OpOk.callG (v := .bool (scontS xref ([35] : Bs))) enr (fun W hW => scont_c xref ([35] : Bs) (hG0.mono hW.sees) hp50) rfl ?_)
       refine Ok.bat 2 [1, 4, 8, 14] [(73, .bool (!(scontS xref ([35] : Bs))))] ?_
       refine Ok.nil (Ok.thenN (Ok.reval 73 rfl (show (.bool (!(scontS xref ([35] : Bs))) : Value) = .bool (rgnV0 xref e9) from congrArg (Value.bool) (mor_f hc49)) ?_))
       exact fun a W hA hW => ⟨g, (Gext.refl w0 g), hA.sub (by kernel_rfl), hW.sub (.cons_cons _ (.cons _ (.cons_cons _ (.cons_cons _ (.cons_cons _ .slnil))))), hF⟩
     ·
      clear hF
      rintro a W ⟨gj35, hxj35, hA, hW, hF⟩
      refine (?_ : Ok _ _ _ _ _ _) a W hA hW
      clear hA hW
      replace hL2 := hL2.mono hxj35.1
      replace hRxt_0 := hRxt_0.mono hxj35.1
      replace hG0 := hG0.mono hxj35.1
      replace hG1 := hG1.mono hxj35.1
      refine Ok.cond (b := (rgnV0 xref e9)) rfl (fun hc41 => ?_) (fun hc41 => ?_)
      ·replace hF := hF.1 hc41
       refine Ok.seq (Ok.region (Ok.bat 1 [1, 4, 8, 14] [(74, pv b14 2)] ?_))
       refine Ok.op rfl (OpOk.sto (k := 1) (v := .int .i64 (-1)) 0 #[sv ((resS e9.1 xref).1), sv ([] : Bs), .int .i64 (-1)] rfl rfl rfl ?_)
       refine Ok.nil (Ok.thenN (Ok.seq (Ok.seq (Ok.region (Ok.bat 1 [1, 4, 8, 14] [(75, pv b1 0)] ?_)))))
       refine Ok.op rfl (OpOk.step (v := .slice axt_0 xt.1.length cxt_0) (Yields.load 3 rfl rfl Tryz.underlying22 rfl (by kernel_rfl)) rfl rfl (Ok.bat 2 [1, 4, 8, 14] [(76, .slice axt_0 xt.1.length cxt_0), (77, .int .i64 (xt.1.length : Int)), (78, .int .i64 0)] ?_))
       refine Ok.nil (Ok.thenN (Ok.block ?_))
       obtain ⟨k, hF⟩ := hF
       refine Ok.loop (fun k a W => ∃ gl44 : Ghost, Gext w0 gj35 gl44 ∧ ∃ (x78l44 : Int) (yb14_2l44 : Int), StA 152 [(1, .int .i64 xhow), (4, pv b1 0), (8, pv b3 0), (14, pv b14 0), (76, .slice axt_0 xt.1.length cxt_0), (77, .int .i64 (xt.1.length : Int)), (78, .int .i64 x78l44)] a ∧ StW w0 [.blk b14 (.cells #[sv ((resS e9.1 xref).1), sv ([] : Bs), .int .i64 yb14_2l44] 36), .blk b3 (.cells #[.slice none ([] : List (Bs × Bs × Int)).length 0, .int .i64 0] 24), .own (.slice none ([] : List (Bs × Bs × Int)).length 0) 36 3 ([] : List (Bs × Bs × Int)).length ([]), .blk b1 (.cells ⟨vT xt axt_0 cxt_0⟩ 24)] gl44 W ∧ rgnl44 xt xhow xref xstate K e9 k x78l44 yb14_2l44) k ?_ ?_
       ·
        exact fun a W hA hW => ⟨gj35, (Gext.refl w0 gj35), 0, -1, hA.sub (by kernel_rfl), hW, hF⟩
       ·
        clear hF
        rintro k44 a W ⟨gl44, hxl44, x78l44, yb14_2l44, hA, hW, hF⟩
        cases k44 with
        | zero => exact (hF : False).elim
        | succ k44 =>
         refine (?_ : Ok _ _ _ _ _ _) a W hA hW
         clear hA hW
         replace hRxt_0 := hRxt_0.mono hxl44.1
         replace hL2 := hL2.mono hxl44.1
         replace hG0 := hG0.mono hxl44.1
         replace hG1 := hG1.mono hxl44.1
         refine Ok.seq (Ok.region (Ok.bat 1 [1, 4, 8, 14, 76, 77, 78] [(79, .bool (decide (x78l44 < (xt.1.length : Int))))] ?_))
         refine Ok.nil (Ok.thenN (Ok.seq (Ok.cond (b := decide (x78l44 < (xt.1.length : Int))) rfl (fun hc42 => ?_) (fun hc42 => ?_))))
         ·replace hF := hF.1 hc42
          refine Ok.skip (Ok.thenN (Ok.seq (Ok.block (Ok.seq (Ok.region ?_)))))
          obtain ⟨h044, h144, hF⟩ := hF
          have he44 := get_of (l := xt.1) (default : Bs × Bs × Int) h144
          generalize hg44 : (xt.1.getD (Int.toNat x78l44) default) = e44 at he44 hF ⊢
          refine Ok.op rfl (OpOk.indexRo (e := .pair (.str) (.pair (.str) (.int .i64))) (i := x78l44) (el := e44) rfl rfl Tryz.underlying22 (by kernel_rfl) hRxt_0 h044 he44 rfl fun q43 o43 cs43 _ hat43 hr43 => ?_)
          obtain ⟨_, _, rfl, rfl, ⟨_, _, rfl, rfl, rfl⟩⟩ := hr43
          replace hat43 : At gl44 q43 o43 (vE e44) := hat43
          refine Ok.op rfl (OpOk.step (v := .agg ⟨vE e44⟩) (Yields.loadAggRo 0 3 ⟨vE e44⟩ hat43 (by kernel_rfl) Tryz.underlying36 rfl (by kernel_rfl) (by kernel_rfl) (by kernel_rfl)) rfl rfl (Ok.op rfl (OpOk.alloc (z := .agg #[sv ([] : Bs), sv ([] : Bs), .int .i64 0]) (cs := #[sv ([] : Bs), sv ([] : Bs), .int .i64 0]) (by kernel_rfl) (by kernel_rfl) rfl fun b45 => ?_)))
          refine Ok.op rfl (OpOk.sto (k := 3) (v := .agg ⟨vE e44⟩) 0 ⟨vE e44⟩ rfl rfl rfl ?_)
          refine Ok.nil (Ok.thenN (Ok.region (Ok.bat 1 [1, 4, 8, 14, 76, 77, 78] [(20, pv b45 0), (82, pv b14 2)] ?_)))
          refine Ok.op rfl (OpOk.step (v := .int .i64 yb14_2l44) (Yields.load 1 rfl rfl Tryz.underlying3 rfl (by kernel_rfl)) rfl rfl (Ok.bat 1 [1, 4, 8, 14, 76, 77, 78] [(83, .int .i64 yb14_2l44), (84, pv b45 2)] ?_))
          refine Ok.op rfl (OpOk.step (v := .int .i64 e44.2.2) (Yields.load 0 rfl rfl Tryz.underlying3 rfl (by kernel_rfl)) rfl rfl (Ok.bat 2 [1, 4, 8, 14, 76, 77, 78] [(86, .int .i64 (if yb14_2l44 < e44.2.2 then e44.2.2 else yb14_2l44)), (87, pv b14 2)] ?_))
          refine Ok.op rfl (OpOk.sto (k := 1) (v := .int .i64 (if yb14_2l44 < e44.2.2 then e44.2.2 else yb14_2l44)) 1 #[sv ((resS e9.1 xref).1), sv ([] : Bs), .int .i64 (if yb14_2l44 < e44.2.2 then e44.2.2 else yb14_2l44)] rfl rfl rfl ?_)
          refine Ok.nil (Ok.blockN (Ok.thenN (Ok.region (Ok.bat 2 [1, 4, 8, 14, 76, 77] [(78, .int .i64 (w6 (x78l44 + 1)))] ?_))))
          refine Ok.nil (Ok.thenN ?_)
          subst hg44
          exact fun a W hA hW => ⟨k44, Nat.lt_succ_self _, gl44, hxl44, w6 (x78l44 + 1), (if yb14_2l44 < (xt.1.getD (Int.toNat x78l44) default).2.2 then (xt.1.getD (Int.toNat x78l44) default).2.2 else yb14_2l44), hA.sub (by kernel_rfl), hW.sub (.cons _ (.cons_cons _ (.cons_cons _ (.cons_cons _ (.cons_cons _ .slnil))))), hF⟩
         ·replace hF := hF.2 hc42
          refine Ok.exit (Ok.thenE (Ok.thenE (Ok.blockHit (Ok.thenN (Ok.seq (Ok.region (Ok.bat 1 [1, 4, 8, 14] [(89, pv b14 2)] ?_)))))))
          refine Ok.op rfl (OpOk.step (v := .int .i64 yb14_2l44) (Yields.load 0 rfl rfl Tryz.underlying3 rfl (by kernel_rfl)) rfl rfl (Ok.bat 2 [1, 4, 8, 14] [(91, .int .i64 (w6 (yb14_2l44 + 1))), (92, pv b14 2)] ?_))
          refine Ok.op rfl (OpOk.sto (k := 1) (v := .int .i64 (w6 (yb14_2l44 + 1))) 0 #[sv ((resS e9.1 xref).1), sv ([] : Bs), .int .i64 (w6 (yb14_2l44 + 1))] rfl rfl rfl ?_)
          refine Ok.nil (Ok.thenN (Ok.seq (Ok.region (Ok.bat 1 [1, 4, 8, 14] [(93, pv b14 2)] ?_))))
          refine Ok.op rfl (OpOk.step (v := .int .i64 (w6 (yb14_2l44 + 1))) (Yields.load 0 rfl rfl Tryz.underlying3 rfl (by kernel_rfl)) rfl rfl (Ok.bat 1 [1, 4, 8, 14] [(95, .bool (decide ((w6 (yb14_2l44 + 1)) > 1000000)))] ?_))
          refine Ok.nil (Ok.thenN (Ok.cond (b := decide ((w6 (yb14_2l44 + 1)) > 1000000)) rfl (fun hc46 => ?_) (fun hc46 => ?_)))
          ·replace hF := hF.1 hc46
           refine Ok.seq (Ok.region (Ok.bat 1 [8] [(96, .agg #[.slice none 0 0, .int .i64 0])] ?_))
           have hL47 : RepL gl44 (.pair (.str) (.pair (.str) (.int .i64))) [] [] := rfl
           refine Ok.ownNil 36 3 (Ok.op rfl (OpOk.sto (k := 2) (v := .agg #[.slice none ([] : List (Bs × Bs × Int)).length 0, .int .i64 0]) 2 #[.slice none ([] : List (Bs × Bs × Int)).length 0, .int .i64 0] rfl rfl rfl ?_))
           refine Ok.bat 1 [8] [(9, .int .i64 2)] ?_
           refine Ok.nil (Ok.thenN (Ok.ret (Ok.thenR (Ok.frz 0 rfl hL47 fun g48 hx48 hRf48 => ?_))))
           replace hL2 := hL2.mono hx48.1
           replace hRxt_0 := hRxt_0.mono hx48.1
           replace hG0 := hG0.mono hx48.1
           replace hG1 := hG1.mono hx48.1
           exact Ok.resP (vs := [.agg #[.slice none ([] : List (Bs × Bs × Int)).length 0, .int .i64 0], .int .i64 2]) [] [] (by decide) rfl (.inl rfl) rfl (.cons (.cellAgg 1 2 #[.slice none ([] : List (Bs × Bs × Int)).length 0, .int .i64 0] rfl rfl Tryz.underlying24 rfl (by kernel_rfl) (by kernel_rfl) (by kernel_rfl)) (.cons (.tmp rfl) .nil)) ((hxj35.trans hxl44).trans hx48) ⟨(([] : List (Bs × Bs × Int)), 0), 2, none, 0, rfl, hRf48, rfl, hF⟩
          ·replace hF := hF.2 hc46
           refine Ok.skip (Ok.thenN (Ok.heapEq (H' := [.blk b14 (.cells #[sv ((resS e9.1 xref).1), sv (if (xhow == 1) = true then ([] : Bs) else xstate), .int .i64 (w6 (yb14_2l44 + 1))] 36), .blk b3 (.cells #[.slice none ([] : List (Bs × Bs × Int)).length 0, .int .i64 0] 24), .own (.slice none ([] : List (Bs × Bs × Int)).length 0) 36 3 ([] : List (Bs × Bs × Int)).length ([]), .blk b1 (.cells ⟨vT xt axt_0 cxt_0⟩ 24)]) (econs (congrArg (fun l : List Value => Ent.blk b14 (.cells ⟨l⟩ 36)) (lcons (rfl) (lcons (congrArg ((fun s : Bs => Value.string ⟨⟨s⟩⟩)) ((if_t hc38).symm)) (lcons (rfl) rfl)))) (econs (rfl) (econs (rfl) (econs (rfl) rfl)))) ?_))
           exact fun a W hA hW => ⟨gl44, (hxj35.trans hxl44), w6 (yb14_2l44 + 1), hA.sub (by kernel_rfl), hW, hF⟩
      ·replace hF := hF.2 hc41
       refine Ok.skip (Ok.thenN (Ok.heapEq (H' := [.blk b14 (.cells #[sv ((resS e9.1 xref).1), sv (if (xhow == 1) = true then ([] : Bs) else xstate), .int .i64 e9.2.2] 36), .blk b3 (.cells #[.slice none ([] : List (Bs × Bs × Int)).length 0, .int .i64 0] 24), .own (.slice none ([] : List (Bs × Bs × Int)).length 0) 36 3 ([] : List (Bs × Bs × Int)).length ([]), .blk b1 (.cells ⟨vT xt axt_0 cxt_0⟩ 24)]) (econs (congrArg (fun l : List Value => Ent.blk b14 (.cells ⟨l⟩ 36)) (lcons (rfl) (lcons (congrArg ((fun s : Bs => Value.string ⟨⟨s⟩⟩)) ((if_t hc38).symm)) (lcons (rfl) rfl)))) (econs (rfl) (econs (rfl) (econs (rfl) rfl)))) ?_))
       exact fun a W hA hW => ⟨gj35, hxj35, e9.2.2, hA.sub (by kernel_rfl), hW, hF⟩
    ·replace hF := hF.2 hc38
     refine Ok.seq (Ok.region (Ok.bat 2 [1, 3, 4, 8, 11, 12, 14] [(97, sv xstate), (98, pv b14 1)] ?_))
     refine Ok.op rfl (OpOk.sto (k := 1) (v := sv xstate) 0 #[sv ((resS e9.1 xref).1), sv xstate, .int .i64 e9.2.2] rfl rfl rfl ?_)
     refine Ok.nil (Ok.thenN (Ok.seq (Ok.region (Ok.bat 1 [1, 3, 4, 8, 11, 14] [(100, sv ((resS e9.1 xref).1))] ?_))))
     refine Ok.op rfl (OpOk.callH [] _ enr rfl (radr_c (resS e9.1 xref).1 hG0) rfl fun g51 _ _ hx51 hV51 => ?_)
     obtain ⟨a51_0, c51_0, rfl, hR51_0, rfl⟩ := hV51
     replace hL2 := hL2.mono hx51.1
     replace hRxt_0 := hRxt_0.mono hx51.1
     replace hG0 := hG0.mono hx51.1
     replace hG1 := hG1.mono hx51.1
     refine Ok.bat 3 [1, 3, 4, 8, 11, 14] [(102, .agg ⟨vJ (parS (resS e9.1 xref).1).1 a51_0 c51_0⟩), (103, .int .i64 (parS (resS e9.1 xref).1).2)] ?_
     refine Ok.op rfl (OpOk.alloc (z := .agg ⟨zJ⟩) (cs := ⟨zJ⟩) (by kernel_rfl) (by kernel_rfl) rfl fun b52 => ?_)
     refine Ok.op rfl (OpOk.sto (k := 8) (v := .agg ⟨vJ (parS (resS e9.1 xref).1).1 a51_0 c51_0⟩) 0 ⟨vJ (parS (resS e9.1 xref).1).1 a51_0 c51_0⟩ rfl rfl rfl ?_)
     refine Ok.bat 1 [1, 3, 4, 8, 11, 14] [(21, pv b52 0)] ?_
     refine Ok.nil (Ok.thenN (Ok.seq (Ok.region (Ok.bat 1 [1, 3, 4, 8, 14, 21] [(105, pv b10 0)] ?_))))
     refine Ok.op rfl (OpOk.step (v := sv e9.1) (Yields.load 2 rfl rfl Tryz.underlying9 rfl (by kernel_rfl)) rfl rfl (Ok.op rfl (OpOk.callH [] _ enr rfl (radr_c e9.1 hG0) rfl fun g53 _ _ hx53 hV53 => ?_)))
     obtain ⟨a53_0, c53_0, rfl, hR53_0, rfl⟩ := hV53
     replace hR51_0 := hR51_0.mono hx53.1
     replace hL2 := hL2.mono hx53.1
     replace hRxt_0 := hRxt_0.mono hx53.1
     replace hG0 := hG0.mono hx53.1
     replace hG1 := hG1.mono hx53.1
     refine Ok.bat 3 [1, 3, 4, 8, 14, 21] [(108, .agg ⟨vJ (parS e9.1).1 a53_0 c53_0⟩), (109, .int .i64 (parS e9.1).2)] ?_
     refine Ok.op rfl (OpOk.alloc (z := .agg ⟨zJ⟩) (cs := ⟨zJ⟩) (by kernel_rfl) (by kernel_rfl) rfl fun b54 => ?_)
     refine Ok.op rfl (OpOk.sto (k := 8) (v := .agg ⟨vJ (parS e9.1).1 a53_0 c53_0⟩) 0 ⟨vJ (parS e9.1).1 a53_0 c53_0⟩ rfl rfl rfl ?_)
     refine Ok.bat 1 [1, 3, 4, 8, 14, 21] [(23, pv b54 0)] ?_
     refine Ok.nil (Ok.thenN (Ok.seq (Ok.seq (Ok.region (Ok.bat 3 [1, 4, 8, 14, 21, 23] [(112, .bool (decide ((xstate.length : Int) > 2000)))] ?_)))))
     refine Ok.nil (Ok.thenN (Ok.cond (b := decide ((xstate.length : Int) > 2000)) rfl (fun hc55 => ?_) (fun hc55 => ?_)))
     ·replace hF := hF.1 hc55
      refine Ok.seq (Ok.region (Ok.bat 1 [8] [(113, .agg #[.slice none 0 0, .int .i64 0])] ?_))
      have hL56 : RepL g53 (.pair (.str) (.pair (.str) (.int .i64))) [] [] := rfl
      refine Ok.ownNil 36 3 (Ok.op rfl (OpOk.sto (k := 2) (v := .agg #[.slice none ([] : List (Bs × Bs × Int)).length 0, .int .i64 0]) 5 #[.slice none ([] : List (Bs × Bs × Int)).length 0, .int .i64 0] rfl rfl rfl ?_))
      refine Ok.bat 1 [8] [(9, .int .i64 2)] ?_
      refine Ok.nil (Ok.thenN (Ok.ret (Ok.thenR (Ok.thenR (Ok.frz 0 rfl hL56 fun g57 hx57 hRf57 => ?_)))))
      replace hR53_0 := hR53_0.mono hx57.1
      replace hR51_0 := hR51_0.mono hx57.1
      replace hL2 := hL2.mono hx57.1
      replace hRxt_0 := hRxt_0.mono hx57.1
      replace hG0 := hG0.mono hx57.1
      replace hG1 := hG1.mono hx57.1
      exact Ok.resP (vs := [.agg #[.slice none ([] : List (Bs × Bs × Int)).length 0, .int .i64 0], .int .i64 2]) [] [] (by decide) rfl (.inl rfl) rfl (.cons (.cellAgg 4 2 #[.slice none ([] : List (Bs × Bs × Int)).length 0, .int .i64 0] rfl rfl Tryz.underlying24 rfl (by kernel_rfl) (by kernel_rfl) (by kernel_rfl)) (.cons (.tmp rfl) .nil)) ((hx51.trans hx53).trans hx57) ⟨(([] : List (Bs × Bs × Int)), 0), 2, none, 0, rfl, hRf57, rfl, hF⟩
     ·replace hF := hF.2 hc55
      refine Ok.skip (Ok.thenN (Ok.seq (Ok.quiet' (by kernel_rfl) (by kernel_rfl) (OkQ.op rfl (OpQ.step (v := .agg ⟨vJ (parS (resS e9.1 xref).1).1 a51_0 c51_0⟩) (Yields.loadAgg 1 8 ⟨vJ (parS (resS e9.1 xref).1).1 a51_0 c51_0⟩ rfl rfl Tryz.underlying53 rfl (by kernel_rfl) (by kernel_rfl) (by kernel_rfl)) rfl rfl ?_)))))
      obtain ⟨hp58, hF⟩ := hF
      refine OkQ.op rfl (OpQ.callG (v := sv (rgnV2 xref e9)) enr (fun W hW => rori_c (parS (resS e9.1 xref).1).1 (hR51_0.mono hW.sees) (hG1.mono hW.sees) hp58) rfl ?_)
      refine OkQ.op rfl (OpQ.step (v := .agg ⟨vJ (parS e9.1).1 a53_0 c53_0⟩) (Yields.loadAgg 0 8 ⟨vJ (parS e9.1).1 a53_0 c53_0⟩ rfl rfl Tryz.underlying53 rfl (by kernel_rfl) (by kernel_rfl) (by kernel_rfl)) rfl rfl ?_)
      obtain ⟨hp59, hF⟩ := hF
      refine OkQ.op rfl (OpQ.callG (v := sv (rgnV3 e9)) enr (fun W hW => rori_c (parS e9.1).1 (hR53_0.mono hW.sees) (hG1.mono hW.sees) hp59) rfl ?_)
      refine OkQ.op rfl (OpQ.step (v := .bool (!((rgnV2 xref e9) == (rgnV3 e9)))) (Yields.strCmp (f := .neq) (a := (rgnV2 xref e9)) (b := (rgnV3 e9)) (by kernel_rfl) (by kernel_rfl) rfl) rfl rfl (OkQ.nil (Ok.thenN (Ok.cond (b := !((rgnV2 xref e9) == (rgnV3 e9))) rfl (fun hc60 => ?_) (fun hc60 => ?_)))))
      ·replace hF := hF.1 hc60
       refine Ok.seq (Ok.region (Ok.bat 1 [8] [(119, .agg #[.slice none 0 0, .int .i64 0])] ?_))
       have hL61 : RepL g53 (.pair (.str) (.pair (.str) (.int .i64))) [] [] := rfl
       refine Ok.ownNil 36 3 (Ok.op rfl (OpOk.sto (k := 2) (v := .agg #[.slice none ([] : List (Bs × Bs × Int)).length 0, .int .i64 0]) 5 #[.slice none ([] : List (Bs × Bs × Int)).length 0, .int .i64 0] rfl rfl rfl ?_))
       refine Ok.bat 1 [8] [(9, .int .i64 12)] ?_
       refine Ok.nil (Ok.thenN (Ok.ret (Ok.thenR (Ok.frz 0 rfl hL61 fun g62 hx62 hRf62 => ?_))))
       replace hR53_0 := hR53_0.mono hx62.1
       replace hR51_0 := hR51_0.mono hx62.1
       replace hL2 := hL2.mono hx62.1
       replace hRxt_0 := hRxt_0.mono hx62.1
       replace hG0 := hG0.mono hx62.1
       replace hG1 := hG1.mono hx62.1
       exact Ok.resP (vs := [.agg #[.slice none ([] : List (Bs × Bs × Int)).length 0, .int .i64 0], .int .i64 12]) [] [] (by decide) rfl (.inl rfl) rfl (.cons (.cellAgg 4 2 #[.slice none ([] : List (Bs × Bs × Int)).length 0, .int .i64 0] rfl rfl Tryz.underlying24 rfl (by kernel_rfl) (by kernel_rfl) (by kernel_rfl)) (.cons (.tmp rfl) .nil)) ((hx51.trans hx53).trans hx62) ⟨(([] : List (Bs × Bs × Int)), 0), 12, none, 0, rfl, hRf62, rfl, hF⟩
      ·replace hF := hF.2 hc60
       refine Ok.skip (Ok.thenN (Ok.heapEq (H' := [.blk b54 (.cells ⟨vJ (parS e9.1).1 a53_0 c53_0⟩ 53), .blk b52 (.cells ⟨vJ (parS (resS e9.1 xref).1).1 a51_0 c51_0⟩ 53), .blk b14 (.cells #[sv ((resS e9.1 xref).1), sv (if (xhow == 1) = true then ([] : Bs) else xstate), .int .i64 e9.2.2] 36), .blk b10 (.cells ⟨vE e9⟩ 36), .blk b3 (.cells #[.slice none ([] : List (Bs × Bs × Int)).length 0, .int .i64 0] 24), .own (.slice none ([] : List (Bs × Bs × Int)).length 0) 36 3 ([] : List (Bs × Bs × Int)).length ([]), .blk b1 (.cells ⟨vT xt axt_0 cxt_0⟩ 24)]) (econs (rfl) (econs (rfl) (econs (congrArg (fun l : List Value => Ent.blk b14 (.cells ⟨l⟩ 36)) (lcons (rfl) (lcons (congrArg ((fun s : Bs => Value.string ⟨⟨s⟩⟩)) ((if_f hc38).symm)) (lcons (rfl) rfl)))) (econs (rfl) (econs (rfl) (econs (rfl) (econs (rfl) rfl))))))) ?_))
       exact fun a W hA hW => ⟨g53, (hx51.trans hx53), e9.2.2, hA.sub (by kernel_rfl), hW.sub (.cons _ (.cons _ (.cons_cons _ (.cons _ (.cons_cons _ (.cons_cons _ (.cons_cons _ .slnil))))))), hF⟩
   ·
    clear hF
    rintro a W ⟨gj27, hxj27, yb14_2j27, hA, hW, hF⟩
    refine (?_ : Ok _ _ _ _ _ _) a W hA hW
    clear hA hW
    replace hL2 := hL2.mono hxj27.1
    replace hRxt_0 := hRxt_0.mono hxj27.1
    replace hG0 := hG0.mono hxj27.1
    replace hG1 := hG1.mono hxj27.1
    refine Ok.seq (Ok.region (Ok.bat 1 [1, 4, 8, 14] [(120, pv b1 0)] ?_))
    refine Ok.op rfl (OpOk.step (v := .slice axt_0 xt.1.length cxt_0) (Yields.load 3 rfl rfl Tryz.underlying22 rfl (by kernel_rfl)) rfl rfl ?_)
    obtain ⟨hp15, hF⟩ := hF
    refine Ok.op rfl (OpOk.callH [] _ enr rfl (wcl_c xt.1 hRxt_0 hp15) rfl fun g16 _ _ hx16 hV16 => ?_)
    obtain ⟨a16_0, c16_0, xs16_0, rfl, hL16_0, rfl⟩ := hV16
    replace hRxt_0 := hRxt_0.mono hx16.1
    replace hL2 := hL2.mono hx16.1
    replace hG0 := hG0.mono hx16.1
    replace hG1 := hG1.mono hx16.1
    refine Ok.bat 1 [1, 4, 8, 14] [(25, .slice a16_0 (wclS xt.1).length c16_0)] ?_
    refine Ok.nil (Ok.thenN (Ok.seq (Ok.seq (Ok.region (Ok.bat 2 [4, 8, 14, 25] [(124, .bool (xhow == 3))] ?_)))))
    refine Ok.nil (Ok.thenN (Ok.cond (b := (xhow == 3)) rfl (fun hc17 => ?_) (fun hc17 => ?_)))
    ·replace hF := hF.1 hc17
     refine Ok.seq (Ok.region (Ok.bat 2 [4, 8, 14, 25] [(125, .slice a16_0 (wclS xt.1).length c16_0), (126, pv b1 1)] ?_))
     refine Ok.op rfl (OpOk.step (v := .int .i64 xt.2) (Yields.load 4 rfl rfl Tryz.underlying3 rfl (by kernel_rfl)) rfl rfl (Ok.op rfl (OpOk.step (v := .agg #[sv ((resS e9.1 xref).1), sv (if (xhow == 1) = true then ([] : Bs) else xstate), .int .i64 yb14_2j27]) (Yields.loadAgg 1 3 #[sv ((resS e9.1 xref).1), sv (if (xhow == 1) = true then ([] : Bs) else xstate), .int .i64 yb14_2j27] rfl rfl Tryz.underlying36 rfl (by kernel_rfl) (by kernel_rfl) (by kernel_rfl)) rfl rfl ?_)))
     obtain ⟨h019, h119, hF⟩ := hF
     have he19 := get_of (l := (wclS xt.1)) (default : Bs × Bs × Int) h119
     generalize hg19 : ((wclS xt.1).getD (Int.toNat xt.2) default) = e19 at he19 hF ⊢
     refine Ok.op rfl (OpOk.indexOwn (e := .pair (.str) (.pair (.str) (.int .i64))) (q := xt.2) (el := e19) 0 rfl hL16_0 rfl rfl Tryz.underlying22 (by kernel_rfl) (by kernel_rfl) h019 he19 rfl fun cs18 _ hr18 hc18 => ?_)
     obtain ⟨_, _, rfl, rfl, ⟨_, _, rfl, rfl, rfl⟩⟩ := hr18
     replace hc18 : ∀ j v, ((vE e19) : List Value)[j]? = some v → xs16_0[Int.toNat xt.2 * 3 + j]? = some v := hc18
     refine Ok.op rfl (OpOk.storeOwn (e := .pair (.str) (.pair (.str) (.int .i64))) (q := Int.toNat xt.2) (cells := (vE e19)) (vs := [sv ((resS e9.1 xref).1), sv (if (xhow == 1) = true then ([] : Bs) else xstate), .int .i64 yb14_2j27]) (el' := ((resS e9.1 xref).1, (if (xhow == 1) = true then ([] : Bs) else xstate), yb14_2j27)) 0 0 3 rfl hL16_0 hc18 (by kernel_rfl) rfl rfl rfl (by kernel_rfl) (by kernel_rfl) (by kernel_rfl) (by kernel_rfl) (by kernel_rfl) (show Rep _ _ [sv ((resS e9.1 xref).1), sv (if (xhow == 1) = true then ([] : Bs) else xstate), .int .i64 yb14_2j27] _ from ⟨[sv ((resS e9.1 xref).1)], [sv (if (xhow == 1) = true then ([] : Bs) else xstate), .int .i64 yb14_2j27], rfl, rfl, ⟨[sv (if (xhow == 1) = true then ([] : Bs) else xstate)], [.int .i64 yb14_2j27], rfl, rfl, rfl⟩⟩) fun xs20 hL20 => ?_)
     rw [show (wclS xt.1).length = ((wclS xt.1).set (Int.toNat xt.2) ((resS e9.1 xref).1, (if (xhow == 1) = true then ([] : Bs) else xstate), yb14_2j27)).length from (List.length_set ..).symm]
     refine Ok.nil (Ok.thenN (Ok.seq (Ok.region (Ok.bat 2 [8] [(130, .slice a16_0 ((wclS xt.1).set (Int.toNat xt.2) ((resS e9.1 xref).1, (if (xhow == 1) = true then ([] : Bs) else xstate), yb14_2j27)).length c16_0), (131, pv b1 1)] ?_))))
     refine Ok.op rfl (OpOk.step (v := .int .i64 xt.2) (Yields.load 4 rfl rfl Tryz.underlying3 rfl (by kernel_rfl)) rfl rfl (Ok.bat 1 [8] [(133, .agg #[.slice a16_0 ((wclS xt.1).set (Int.toNat xt.2) ((resS e9.1 xref).1, (if (xhow == 1) = true then ([] : Bs) else xstate), yb14_2j27)).length c16_0, .int .i64 xt.2])] ?_))
     refine Ok.op rfl (OpOk.sto (k := 2) (v := .agg #[.slice a16_0 ((wclS xt.1).set (Int.toNat xt.2) ((resS e9.1 xref).1, (if (xhow == 1) = true then ([] : Bs) else xstate), yb14_2j27)).length c16_0, .int .i64 xt.2]) 2 #[.slice a16_0 ((wclS xt.1).set (Int.toNat xt.2) ((resS e9.1 xref).1, (if (xhow == 1) = true then ([] : Bs) else xstate), yb14_2j27)).length c16_0, .int .i64 xt.2] rfl rfl rfl ?_)
     refine Ok.bat 1 [8] [(9, .int .i64 0)] ?_
     refine Ok.nil (Ok.thenN (Ok.ret (Ok.thenR (Ok.frz 0 rfl hL20 fun g21 hx21 hRf21 => ?_))))
     replace hL2 := hL2.mono hx21.1
     replace hRxt_0 := hRxt_0.mono hx21.1
     replace hG0 := hG0.mono hx21.1
     replace hG1 := hG1.mono hx21.1
     exact Ok.resP (vs := [.agg #[.slice a16_0 ((wclS xt.1).set (Int.toNat xt.2) ((resS e9.1 xref).1, (if (xhow == 1) = true then ([] : Bs) else xstate), yb14_2j27)).length c16_0, .int .i64 xt.2], .int .i64 0]) [] [] (by decide) rfl (.inl rfl) rfl (.cons (.cellAgg 1 2 #[.slice a16_0 ((wclS xt.1).set (Int.toNat xt.2) ((resS e9.1 xref).1, (if (xhow == 1) = true then ([] : Bs) else xstate), yb14_2j27)).length c16_0, .int .i64 xt.2] rfl rfl Tryz.underlying24 rfl (by kernel_rfl) (by kernel_rfl) (by kernel_rfl)) (.cons (.tmp rfl) .nil)) ((hxj27.trans hx16).trans hx21) ⟨(((wclS xt.1).set (Int.toNat xt.2) ((resS e9.1 xref).1, (if (xhow == 1) = true then ([] : Bs) else xstate), yb14_2j27)), xt.2), 0, a16_0, c16_0, rfl, hRf21, rfl, hF⟩
    ·replace hF := hF.2 hc17
     refine Ok.skip (Ok.thenN (Ok.seq (Ok.fork [] [] [.blk b14 (.cells #[sv ((resS e9.1 xref).1), sv (if (xhow == 1) = true then ([] : Bs) else xstate), .int .i64 yb14_2j27] 36), .blk b3 (.cells #[.slice none ([] : List (Bs × Bs × Int)).length 0, .int .i64 0] 24), .own (.slice none ([] : List (Bs × Bs × Int)).length 0) 36 3 ([] : List (Bs × Bs × Int)).length ([]), .blk b1 (.cells ⟨vT xt axt_0 cxt_0⟩ 24)] [(0, true), (1, true), (2, true), (3, true), (5, true)] 4 [(6, false), (7, false), (8, true)] 6 [(4, false), (7, false), (8, true)] (by kernel_rfl) (by kernel_rfl) (.cons _ (.cons_cons _ (.cons_cons _ (.cons_cons _ (.cons_cons _ .slnil))))) (OkM.bat 2 [8, 14, 25] [(134, .slice a16_0 (wclS xt.1).length c16_0), (135, pv b1 1)] ?_))))
     refine OkM.head rfl rfl (show _ = [.blk b14 (.cells #[sv ((resS e9.1 xref).1), sv (if (xhow == 1) = true then ([] : Bs) else xstate), .int .i64 yb14_2j27] 36), .blk b3 (.cells #[.slice none ([] : List (Bs × Bs × Int)).length 0, .int .i64 0] 24), .own (.slice none ([] : List (Bs × Bs × Int)).length 0) 36 3 ([] : List (Bs × Bs × Int)).length ([]), .blk b1 (.cells ⟨vT xt axt_0 cxt_0⟩ 24)] from rfl) (OpQ.step (v := .int .i64 xt.2) (Yields.load 3 rfl rfl Tryz.underlying3 rfl (by kernel_rfl)) rfl rfl (OkM.bat 1 [8, 14, 25, 134] [(137, .int .i64 (w6 (xt.2 + 1)))] ?_))
     refine OkM.head rfl rfl (show _ = [.blk b14 (.cells #[sv ((resS e9.1 xref).1), sv (if (xhow == 1) = true then ([] : Bs) else xstate), .int .i64 yb14_2j27] 36), .blk b3 (.cells #[.slice none ([] : List (Bs × Bs × Int)).length 0, .int .i64 0] 24), .own (.slice none ([] : List (Bs × Bs × Int)).length 0) 36 3 ([] : List (Bs × Bs × Int)).length ([]), .blk b1 (.cells ⟨vT xt axt_0 cxt_0⟩ 24)] from rfl) (OpQ.step (v := .agg #[sv ((resS e9.1 xref).1), sv (if (xhow == 1) = true then ([] : Bs) else xstate), .int .i64 yb14_2j27]) (Yields.loadAgg 0 3 #[sv ((resS e9.1 xref).1), sv (if (xhow == 1) = true then ([] : Bs) else xstate), .int .i64 yb14_2j27] rfl rfl Tryz.underlying36 rfl (by kernel_rfl) (by kernel_rfl) (by kernel_rfl)) rfl rfl (OkM.nil (Ok.both ?_ ?_)))
     ·replace hF := hF.1
      obtain ⟨h022, h222, hF⟩ := hF
      refine OkM.tail rfl rfl (OpOk.cutOwn (e := .pair (.str) (.pair (.str) (.int .i64))) (h := (w6 (xt.2 + 1))) 0 rfl rfl rfl hL16_0 Tryz.underlying22 (by kernel_rfl) h022 h222 rfl fun xs22 hL22 => ?_)
      refine OkM.leaf (i := 4) (show _ = [.blk b14 (.cells #[sv ((resS e9.1 xref).1), sv (if (xhow == 1) = true then ([] : Bs) else xstate), .int .i64 yb14_2j27] 36), .blk b3 (.cells #[.slice none ([] : List (Bs × Bs × Int)).length 0, .int .i64 0] 24), .own (.slice none ([] : List (Bs × Bs × Int)).length 0) 36 3 ([] : List (Bs × Bs × Int)).length ([]), .blk b1 (.cells ⟨vT xt axt_0 cxt_0⟩ 24)] from rfl) (Gle.refl _) (.cons _ (.cons_cons _ (.cons_cons _ (.cons_cons _ (.cons_cons _ .slnil))))) ?_
      have hL23 : RepL g16 (.pair (.str) (.pair (.str) (.int .i64))) ([sv ((resS e9.1 xref).1), sv (if (xhow == 1) = true then ([] : Bs) else xstate), .int .i64 yb14_2j27] : List Value) ([((resS e9.1 xref).1, (if (xhow == 1) = true then ([] : Bs) else xstate), yb14_2j27)] : List (Bs × Bs × Int)) := (RepL.consN (c := [sv ((resS e9.1 xref).1), sv (if (xhow == 1) = true then ([] : Bs) else xstate), .int .i64 yb14_2j27]) ⟨[sv ((resS e9.1 xref).1)], [sv (if (xhow == 1) = true then ([] : Bs) else xstate), .int .i64 yb14_2j27], rfl, rfl, ⟨[sv (if (xhow == 1) = true then ([] : Bs) else xstate)], [.int .i64 yb14_2j27], rfl, rfl, rfl⟩⟩ rfl)
      refine OkM.tail rfl rfl (OpOk.lit (E := 36) (.pair (.str) (.pair (.str) (.int .i64))) ([((resS e9.1 xref).1, (if (xhow == 1) = true then ([] : Bs) else xstate), yb14_2j27)] : List (Bs × Bs × Int)) ([sv ((resS e9.1 xref).1), sv (if (xhow == 1) = true then ([] : Bs) else xstate), .int .i64 yb14_2j27] : List Value) (by kernel_rfl) (by kernel_rfl) rfl (by kernel_rfl) hL23 rfl fun b23 => ?_)
      refine OkM.leaf (i := 6) (show _ = [.blk b14 (.cells #[sv ((resS e9.1 xref).1), sv (if (xhow == 1) = true then ([] : Bs) else xstate), .int .i64 yb14_2j27] 36), .blk b3 (.cells #[.slice none ([] : List (Bs × Bs × Int)).length 0, .int .i64 0] 24), .own (.slice none ([] : List (Bs × Bs × Int)).length 0) 36 3 ([] : List (Bs × Bs × Int)).length ([]), .blk b1 (.cells ⟨vT xt axt_0 cxt_0⟩ 24)] from rfl) (Gle.refl _) (.cons _ (.cons _ (.cons_cons _ (.cons_cons _ (.cons_cons _ (.cons_cons _ .slnil)))))) ?_
      obtain ⟨hb24, hF⟩ := hF
      refine OkM.tail rfl rfl (OpOk.append' (e := .pair (.str) (.pair (.str) (.int .i64))) 40 3518437208883 1 0 rfl rfl rfl rfl hL22 hL23 Tryz.underlying22 (by kernel_rfl) (by kernel_rfl) (by kernel_rfl) hb24 rfl fun a24 c24 xs24 hL24 => ?_)
      refine OkM.leaf (i := 7) (show _ = [.blk b14 (.cells #[sv ((resS e9.1 xref).1), sv (if (xhow == 1) = true then ([] : Bs) else xstate), .int .i64 yb14_2j27] 36), .blk b3 (.cells #[.slice none ([] : List (Bs × Bs × Int)).length 0, .int .i64 0] 24), .own (.slice none ([] : List (Bs × Bs × Int)).length 0) 36 3 ([] : List (Bs × Bs × Int)).length ([]), .blk b1 (.cells ⟨vT xt axt_0 cxt_0⟩ 24)] from rfl) (Gle.refl _) (.cons _ (.cons _ (.cons_cons _ (.cons_cons _ (.cons_cons _ (.cons_cons _ .slnil)))))) (OkM.bat 1 [8] [(25, .slice a24 (((wclS xt.1).take (Int.toNat (w6 (xt.2 + 1)))) ++ ([((resS e9.1 xref).1, (if (xhow == 1) = true then ([] : Bs) else xstate), yb14_2j27)] : List (Bs × Bs × Int))).length c24)] ?_)
      refine OkM.nil (Ok.thenN (Ok.cut (fun a W => ∃ gj102 : Ghost, Gext w0 g16 gj102 ∧ ∃ (ax25j102 : Option Addr) (cx25j102 : Nat), Rep gj102 (.slice (.pair (.str) (.pair (.str) (.int .i64)))) [.slice ax25j102 (rgnV1 xt xhow xref xstate e9 yb14_2j27).length cx25j102] (rgnV1 xt xhow xref xstate e9 yb14_2j27) ∧ StA 152 [(8, pv b3 0), (25, .slice ax25j102 (rgnV1 xt xhow xref xstate e9 yb14_2j27).length cx25j102)] a ∧ StW w0 [.blk b3 (.cells #[.slice none ([] : List (Bs × Bs × Int)).length 0, .int .i64 0] 24), .own (.slice none ([] : List (Bs × Bs × Int)).length 0) 36 3 ([] : List (Bs × Bs × Int)).length ([])] gj102 W ∧ rgnj102 xt xhow xref xstate K e9 yb14_2j27) ?_ ?_))
      ·
       refine Ok.seq (Ok.region (Ok.bat 3 [8, 25] [(144, .bool (((((wclS xt.1).take (Int.toNat (w6 (xt.2 + 1)))) ++ ([((resS e9.1 xref).1, (if (xhow == 1) = true then ([] : Bs) else xstate), yb14_2j27)] : List (Bs × Bs × Int))).length : Int) == 51))] ?_))
       refine Ok.nil (Ok.thenN (Ok.cond (b := (((((wclS xt.1).take (Int.toNat (w6 (xt.2 + 1)))) ++ ([((resS e9.1 xref).1, (if (xhow == 1) = true then ([] : Bs) else xstate), yb14_2j27)] : List (Bs × Bs × Int))).length : Int) == 51)) rfl (fun hc26 => ?_) (fun hc26 => ?_)))
       ·replace hF := hF.1 hc26
        refine Ok.region (Ok.bat 1 [8] [(145, .slice a24 (((wclS xt.1).take (Int.toNat (w6 (xt.2 + 1)))) ++ ([((resS e9.1 xref).1, (if (xhow == 1) = true then ([] : Bs) else xstate), yb14_2j27)] : List (Bs × Bs × Int))).length c24)] ?_)
        refine Ok.frz 1 rfl hL24 fun g27 hx27 hRf27 => ?_
        replace hL23 := hL23.mono hx27.1
        replace hL2 := hL2.mono hx27.1
        replace hRxt_0 := hRxt_0.mono hx27.1
        replace hG0 := hG0.mono hx27.1
        replace hG1 := hG1.mono hx27.1
        obtain ⟨h028, h128, h228, hF⟩ := hF
        refine Ok.op rfl (OpOk.sliceRo (e := .pair (.str) (.pair (.str) (.int .i64))) (l := 1) (h := ((((wclS xt.1).take (Int.toNat (w6 (xt.2 + 1)))) ++ ([((resS e9.1 xref).1, (if (xhow == 1) = true then ([] : Bs) else xstate), yb14_2j27)] : List (Bs × Bs × Int))).length : Int)) rfl Tryz.underlying22 (by kernel_rfl) (.inl ⟨_, _, rfl, rfl⟩) (.inr ⟨rfl, rfl⟩) hRf27 h028 h128 h228 rfl ((((wclS xt.1).take (Int.toNat (w6 (xt.2 + 1)))) ++ ([((resS e9.1 xref).1, (if (xhow == 1) = true then ([] : Bs) else xstate), yb14_2j27)] : List (Bs × Bs × Int))).drop (Int.toNat 1)) (by rw [show (((((wclS xt.1).take (Int.toNat (w6 (xt.2 + 1)))) ++ ([((resS e9.1 xref).1, (if (xhow == 1) = true then ([] : Bs) else xstate), yb14_2j27)] : List (Bs × Bs × Int))).length : Int)).toNat = (((wclS xt.1).take (Int.toNat (w6 (xt.2 + 1)))) ++ ([((resS e9.1 xref).1, (if (xhow == 1) = true then ([] : Bs) else xstate), yb14_2j27)] : List (Bs × Bs × Int))).length from Int.toNat_natCast _, List.take_length]) fun a28 c28 hR28 => ?_)
        refine Ok.bat 1 [8] [(25, .slice a28 ((((wclS xt.1).take (Int.toNat (w6 (xt.2 + 1)))) ++ ([((resS e9.1 xref).1, (if (xhow == 1) = true then ([] : Bs) else xstate), yb14_2j27)] : List (Bs × Bs × Int))).drop (Int.toNat 1)).length c28)] ?_
        refine Ok.nil (Ok.thenN (Ok.reval 25 rfl (show (.slice a28 ((((wclS xt.1).take (Int.toNat (w6 (xt.2 + 1)))) ++ ([((resS e9.1 xref).1, (if (xhow == 1) = true then ([] : Bs) else xstate), yb14_2j27)] : List (Bs × Bs × Int))).drop (Int.toNat 1)).length c28 : Value) = .slice a28 (rgnV1 xt xhow xref xstate e9 yb14_2j27).length c28 from congrArg (fun l : List (Bs × Bs × Int) => Value.slice a28 l.length c28) ((if_t hc26).symm)) ?_))
        exact fun a W hA hW => ⟨g27, hx27, a28, c28, (Eq.mp (congrArg (fun l : List (Bs × Bs × Int) => Rep g27 (.slice (.pair (.str) (.pair (.str) (.int .i64)))) [.slice a28 l.length c28] l) ((if_t hc26).symm)) hR28), hA.sub (by kernel_rfl), hW.sub (.cons _ (.cons _ (.cons_cons _ (.cons_cons _ (.cons _ .slnil))))), hF⟩
       ·replace hF := hF.2 hc26
        refine Ok.skip (Ok.thenN (Ok.frz 1 rfl hL24 fun g29 hx29 hRf29 => ?_))
        replace hL23 := hL23.mono hx29.1
        replace hL2 := hL2.mono hx29.1
        replace hRxt_0 := hRxt_0.mono hx29.1
        replace hG0 := hG0.mono hx29.1
        replace hG1 := hG1.mono hx29.1
        refine Ok.reval 25 rfl (show (.slice a24 (((wclS xt.1).take (Int.toNat (w6 (xt.2 + 1)))) ++ ([((resS e9.1 xref).1, (if (xhow == 1) = true then ([] : Bs) else xstate), yb14_2j27)] : List (Bs × Bs × Int))).length c24 : Value) = .slice a24 (rgnV1 xt xhow xref xstate e9 yb14_2j27).length c24 from congrArg (fun l : List (Bs × Bs × Int) => Value.slice a24 l.length c24) ((if_f hc26).symm)) ?_
        exact fun a W hA hW => ⟨g29, hx29, a24, c24, (Eq.mp (congrArg (fun l : List (Bs × Bs × Int) => Rep g29 (.slice (.pair (.str) (.pair (.str) (.int .i64)))) [.slice a24 l.length c24] l) ((if_f hc26).symm)) hRf29), hA.sub (by kernel_rfl), hW.sub (.cons _ (.cons _ (.cons_cons _ (.cons_cons _ (.cons _ .slnil))))), hF⟩
      ·
       clear hF
       rintro a W ⟨gj102, hxj102, ax25j102, cx25j102, hRx25j102, hA, hW, hF⟩
       refine (?_ : Ok _ _ _ _ _ _) a W hA hW
       clear hA hW
       replace hL2 := hL2.mono hxj102.1
       replace hG0 := hG0.mono hxj102.1
       replace hG1 := hG1.mono hxj102.1
       refine Ok.seq (Ok.region (Ok.bat 5 [8] [(151, .agg #[.slice ax25j102 (rgnV1 xt xhow xref xstate e9 yb14_2j27).length cx25j102, .int .i64 (w6 (((rgnV1 xt xhow xref xstate e9 yb14_2j27).length : Int) - 1))])] ?_))
       refine Ok.op rfl (OpOk.sto (k := 2) (v := .agg #[.slice ax25j102 (rgnV1 xt xhow xref xstate e9 yb14_2j27).length cx25j102, .int .i64 (w6 (((rgnV1 xt xhow xref xstate e9 yb14_2j27).length : Int) - 1))]) 0 #[.slice ax25j102 (rgnV1 xt xhow xref xstate e9 yb14_2j27).length cx25j102, .int .i64 (w6 (((rgnV1 xt xhow xref xstate e9 yb14_2j27).length : Int) - 1))] rfl rfl rfl ?_)
       refine Ok.bat 1 [8] [(9, .int .i64 0)] ?_
       refine Ok.nil (Ok.thenN (Ok.ret ?_))
       exact Ok.resP (vs := [.agg #[.slice ax25j102 (rgnV1 xt xhow xref xstate e9 yb14_2j27).length cx25j102, .int .i64 (w6 (((rgnV1 xt xhow xref xstate e9 yb14_2j27).length : Int) - 1))], .int .i64 0]) [] [] (by decide) rfl (.inl rfl) rfl (.cons (.cellAgg 0 2 #[.slice ax25j102 (rgnV1 xt xhow xref xstate e9 yb14_2j27).length cx25j102, .int .i64 (w6 (((rgnV1 xt xhow xref xstate e9 yb14_2j27).length : Int) - 1))] rfl rfl Tryz.underlying24 rfl (by kernel_rfl) (by kernel_rfl) (by kernel_rfl)) (.cons (.tmp rfl) .nil)) ((hxj27.trans hx16).trans hxj102) ⟨((rgnV1 xt xhow xref xstate e9 yb14_2j27), w6 (((rgnV1 xt xhow xref xstate e9 yb14_2j27).length : Int) - 1)), 0, ax25j102, cx25j102, rfl, hRx25j102, rfl, hF⟩
     ·replace hF := hF.2
      have hL30 : RepL g16 (.pair (.str) (.pair (.str) (.int .i64))) ([sv ((resS e9.1 xref).1), sv (if (xhow == 1) = true then ([] : Bs) else xstate), .int .i64 yb14_2j27] : List Value) ([((resS e9.1 xref).1, (if (xhow == 1) = true then ([] : Bs) else xstate), yb14_2j27)] : List (Bs × Bs × Int)) := (RepL.consN (c := [sv ((resS e9.1 xref).1), sv (if (xhow == 1) = true then ([] : Bs) else xstate), .int .i64 yb14_2j27]) ⟨[sv ((resS e9.1 xref).1)], [sv (if (xhow == 1) = true then ([] : Bs) else xstate), .int .i64 yb14_2j27], rfl, rfl, ⟨[sv (if (xhow == 1) = true then ([] : Bs) else xstate)], [.int .i64 yb14_2j27], rfl, rfl, rfl⟩⟩ rfl)
      refine OkM.tail rfl rfl (OpOk.lit (E := 36) (.pair (.str) (.pair (.str) (.int .i64))) ([((resS e9.1 xref).1, (if (xhow == 1) = true then ([] : Bs) else xstate), yb14_2j27)] : List (Bs × Bs × Int)) ([sv ((resS e9.1 xref).1), sv (if (xhow == 1) = true then ([] : Bs) else xstate), .int .i64 yb14_2j27] : List Value) (by kernel_rfl) (by kernel_rfl) rfl (by kernel_rfl) hL30 rfl fun b30 => ?_)
      refine OkM.leaf (i := 6) (show _ = [.blk b14 (.cells #[sv ((resS e9.1 xref).1), sv (if (xhow == 1) = true then ([] : Bs) else xstate), .int .i64 yb14_2j27] 36), .blk b3 (.cells #[.slice none ([] : List (Bs × Bs × Int)).length 0, .int .i64 0] 24), .own (.slice none ([] : List (Bs × Bs × Int)).length 0) 36 3 ([] : List (Bs × Bs × Int)).length ([]), .blk b1 (.cells ⟨vT xt axt_0 cxt_0⟩ 24)] from rfl) (Gle.refl _) (.cons _ (.cons _ (.cons_cons _ (.cons_cons _ (.cons_cons _ (.cons_cons _ .slnil)))))) ?_
      obtain ⟨h031, h231, hF⟩ := hF
      refine OkM.tail rfl rfl (OpOk.cutOwn (e := .pair (.str) (.pair (.str) (.int .i64))) (h := (w6 (xt.2 + 1))) 1 rfl rfl rfl hL16_0 Tryz.underlying22 (by kernel_rfl) h031 h231 rfl fun xs31 hL31 => ?_)
      refine OkM.leaf (i := 4) (show _ = [.blk b14 (.cells #[sv ((resS e9.1 xref).1), sv (if (xhow == 1) = true then ([] : Bs) else xstate), .int .i64 yb14_2j27] 36), .blk b3 (.cells #[.slice none ([] : List (Bs × Bs × Int)).length 0, .int .i64 0] 24), .own (.slice none ([] : List (Bs × Bs × Int)).length 0) 36 3 ([] : List (Bs × Bs × Int)).length ([]), .blk b1 (.cells ⟨vT xt axt_0 cxt_0⟩ 24)] from rfl) (Gle.refl _) (.cons _ (.cons _ (.cons_cons _ (.cons_cons _ (.cons_cons _ (.cons_cons _ .slnil)))))) ?_
      obtain ⟨hb32, hF⟩ := hF
      refine OkM.tail rfl rfl (OpOk.append' (e := .pair (.str) (.pair (.str) (.int .i64))) 40 3518437208883 1 0 rfl rfl rfl rfl hL31 hL30 Tryz.underlying22 (by kernel_rfl) (by kernel_rfl) (by kernel_rfl) hb32 rfl fun a32 c32 xs32 hL32 => ?_)
      refine OkM.leaf (i := 7) (show _ = [.blk b14 (.cells #[sv ((resS e9.1 xref).1), sv (if (xhow == 1) = true then ([] : Bs) else xstate), .int .i64 yb14_2j27] 36), .blk b3 (.cells #[.slice none ([] : List (Bs × Bs × Int)).length 0, .int .i64 0] 24), .own (.slice none ([] : List (Bs × Bs × Int)).length 0) 36 3 ([] : List (Bs × Bs × Int)).length ([]), .blk b1 (.cells ⟨vT xt axt_0 cxt_0⟩ 24)] from rfl) (Gle.refl _) (.cons _ (.cons _ (.cons_cons _ (.cons_cons _ (.cons_cons _ (.cons_cons _ .slnil)))))) (OkM.bat 1 [8] [(25, .slice a32 (((wclS xt.1).take (Int.toNat (w6 (xt.2 + 1)))) ++ ([((resS e9.1 xref).1, (if (xhow == 1) = true then ([] : Bs) else xstate), yb14_2j27)] : List (Bs × Bs × Int))).length c32)] ?_)
      refine OkM.nil (Ok.thenN (Ok.cut (fun a W => ∃ gj102 : Ghost, Gext w0 g16 gj102 ∧ ∃ (ax25j102 : Option Addr) (cx25j102 : Nat), Rep gj102 (.slice (.pair (.str) (.pair (.str) (.int .i64)))) [.slice ax25j102 (rgnV1 xt xhow xref xstate e9 yb14_2j27).length cx25j102] (rgnV1 xt xhow xref xstate e9 yb14_2j27) ∧ StA 152 [(8, pv b3 0), (25, .slice ax25j102 (rgnV1 xt xhow xref xstate e9 yb14_2j27).length cx25j102)] a ∧ StW w0 [.blk b3 (.cells #[.slice none ([] : List (Bs × Bs × Int)).length 0, .int .i64 0] 24), .own (.slice none ([] : List (Bs × Bs × Int)).length 0) 36 3 ([] : List (Bs × Bs × Int)).length ([])] gj102 W ∧ rgnj102y xt xhow xref xstate K e9 yb14_2j27) ?_ ?_))
      ·
       refine Ok.seq (Ok.region (Ok.bat 3 [8, 25] [(144, .bool (((((wclS xt.1).take (Int.toNat (w6 (xt.2 + 1)))) ++ ([((resS e9.1 xref).1, (if (xhow == 1) = true then ([] : Bs) else xstate), yb14_2j27)] : List (Bs × Bs × Int))).length : Int) == 51))] ?_))
       refine Ok.nil (Ok.thenN (Ok.cond (b := (((((wclS xt.1).take (Int.toNat (w6 (xt.2 + 1)))) ++ ([((resS e9.1 xref).1, (if (xhow == 1) = true then ([] : Bs) else xstate), yb14_2j27)] : List (Bs × Bs × Int))).length : Int) == 51)) rfl (fun hc34 => ?_) (fun hc34 => ?_)))
       ·replace hF := hF.1 hc34
        refine Ok.region (Ok.bat 1 [8] [(145, .slice a32 (((wclS xt.1).take (Int.toNat (w6 (xt.2 + 1)))) ++ ([((resS e9.1 xref).1, (if (xhow == 1) = true then ([] : Bs) else xstate), yb14_2j27)] : List (Bs × Bs × Int))).length c32)] ?_)
        refine Ok.frz 1 rfl hL32 fun g35 hx35 hRf35 => ?_
        replace hL30 := hL30.mono hx35.1
        replace hL2 := hL2.mono hx35.1
        replace hRxt_0 := hRxt_0.mono hx35.1
        replace hG0 := hG0.mono hx35.1
        replace hG1 := hG1.mono hx35.1
        obtain ⟨h036, h136, h236, hF⟩ := hF
        refine Ok.op rfl (OpOk.sliceRo (e := .pair (.str) (.pair (.str) (.int .i64))) (l := 1) (h := ((((wclS xt.1).take (Int.toNat (w6 (xt.2 + 1)))) ++ ([((resS e9.1 xref).1, (if (xhow == 1) = true then ([] : Bs) else xstate), yb14_2j27)] : List (Bs × Bs × Int))).length : Int)) rfl Tryz.underlying22 (by kernel_rfl) (.inl ⟨_, _, rfl, rfl⟩) (.inr ⟨rfl, rfl⟩) hRf35 h036 h136 h236 rfl ((((wclS xt.1).take (Int.toNat (w6 (xt.2 + 1)))) ++ ([((resS e9.1 xref).1, (if (xhow == 1) = true then ([] : Bs) else xstate), yb14_2j27)] : List (Bs × Bs × Int))).drop (Int.toNat 1)) (by rw [show (((((wclS xt.1).take (Int.toNat (w6 (xt.2 + 1)))) ++ ([((resS e9.1 xref).1, (if (xhow == 1) = true then ([] : Bs) else xstate), yb14_2j27)] : List (Bs × Bs × Int))).length : Int)).toNat = (((wclS xt.1).take (Int.toNat (w6 (xt.2 + 1)))) ++ ([((resS e9.1 xref).1, (if (xhow == 1) = true then ([] : Bs) else xstate), yb14_2j27)] : List (Bs × Bs × Int))).length from Int.toNat_natCast _, List.take_length]) fun a36 c36 hR36 => ?_)
        refine Ok.bat 1 [8] [(25, .slice a36 ((((wclS xt.1).take (Int.toNat (w6 (xt.2 + 1)))) ++ ([((resS e9.1 xref).1, (if (xhow == 1) = true then ([] : Bs) else xstate), yb14_2j27)] : List (Bs × Bs × Int))).drop (Int.toNat 1)).length c36)] ?_
        refine Ok.nil (Ok.thenN (Ok.reval 25 rfl (show (.slice a36 ((((wclS xt.1).take (Int.toNat (w6 (xt.2 + 1)))) ++ ([((resS e9.1 xref).1, (if (xhow == 1) = true then ([] : Bs) else xstate), yb14_2j27)] : List (Bs × Bs × Int))).drop (Int.toNat 1)).length c36 : Value) = .slice a36 (rgnV1 xt xhow xref xstate e9 yb14_2j27).length c36 from congrArg (fun l : List (Bs × Bs × Int) => Value.slice a36 l.length c36) ((if_t hc34).symm)) ?_))
        exact fun a W hA hW => ⟨g35, hx35, a36, c36, (Eq.mp (congrArg (fun l : List (Bs × Bs × Int) => Rep g35 (.slice (.pair (.str) (.pair (.str) (.int .i64)))) [.slice a36 l.length c36] l) ((if_t hc34).symm)) hR36), hA.sub (by kernel_rfl), hW.sub (.cons _ (.cons _ (.cons_cons _ (.cons_cons _ (.cons _ .slnil))))), hF⟩
       ·replace hF := hF.2 hc34
        refine Ok.skip (Ok.thenN (Ok.frz 1 rfl hL32 fun g37 hx37 hRf37 => ?_))
        replace hL30 := hL30.mono hx37.1
        replace hL2 := hL2.mono hx37.1
        replace hRxt_0 := hRxt_0.mono hx37.1
        replace hG0 := hG0.mono hx37.1
        replace hG1 := hG1.mono hx37.1
        refine Ok.reval 25 rfl (show (.slice a32 (((wclS xt.1).take (Int.toNat (w6 (xt.2 + 1)))) ++ ([((resS e9.1 xref).1, (if (xhow == 1) = true then ([] : Bs) else xstate), yb14_2j27)] : List (Bs × Bs × Int))).length c32 : Value) = .slice a32 (rgnV1 xt xhow xref xstate e9 yb14_2j27).length c32 from congrArg (fun l : List (Bs × Bs × Int) => Value.slice a32 l.length c32) ((if_f hc34).symm)) ?_
        exact fun a W hA hW => ⟨g37, hx37, a32, c32, (Eq.mp (congrArg (fun l : List (Bs × Bs × Int) => Rep g37 (.slice (.pair (.str) (.pair (.str) (.int .i64)))) [.slice a32 l.length c32] l) ((if_f hc34).symm)) hRf37), hA.sub (by kernel_rfl), hW.sub (.cons _ (.cons _ (.cons_cons _ (.cons_cons _ (.cons _ .slnil))))), hF⟩
      ·
       clear hF
       rintro a W ⟨gj102, hxj102, ax25j102, cx25j102, hRx25j102, hA, hW, hF⟩
       refine (?_ : Ok _ _ _ _ _ _) a W hA hW
       clear hA hW
       replace hL2 := hL2.mono hxj102.1
       replace hG0 := hG0.mono hxj102.1
       replace hG1 := hG1.mono hxj102.1
       refine Ok.seq (Ok.region (Ok.bat 5 [8] [(151, .agg #[.slice ax25j102 (rgnV1 xt xhow xref xstate e9 yb14_2j27).length cx25j102, .int .i64 (w6 (((rgnV1 xt xhow xref xstate e9 yb14_2j27).length : Int) - 1))])] ?_))
       refine Ok.op rfl (OpOk.sto (k := 2) (v := .agg #[.slice ax25j102 (rgnV1 xt xhow xref xstate e9 yb14_2j27).length cx25j102, .int .i64 (w6 (((rgnV1 xt xhow xref xstate e9 yb14_2j27).length : Int) - 1))]) 0 #[.slice ax25j102 (rgnV1 xt xhow xref xstate e9 yb14_2j27).length cx25j102, .int .i64 (w6 (((rgnV1 xt xhow xref xstate e9 yb14_2j27).length : Int) - 1))] rfl rfl rfl ?_)
       refine Ok.bat 1 [8] [(9, .int .i64 0)] ?_
       refine Ok.nil (Ok.thenN (Ok.ret ?_))
       exact Ok.resP (vs := [.agg #[.slice ax25j102 (rgnV1 xt xhow xref xstate e9 yb14_2j27).length cx25j102, .int .i64 (w6 (((rgnV1 xt xhow xref xstate e9 yb14_2j27).length : Int) - 1))], .int .i64 0]) [] [] (by decide) rfl (.inl rfl) rfl (.cons (.cellAgg 0 2 #[.slice ax25j102 (rgnV1 xt xhow xref xstate e9 yb14_2j27).length cx25j102, .int .i64 (w6 (((rgnV1 xt xhow xref xstate e9 yb14_2j27).length : Int) - 1))] rfl rfl Tryz.underlying24 rfl (by kernel_rfl) (by kernel_rfl) (by kernel_rfl)) (.cons (.tmp rfl) .nil)) ((hxj27.trans hx16).trans hxj102) ⟨((rgnV1 xt xhow xref xstate e9 yb14_2j27), w6 (((rgnV1 xt xhow xref xstate e9 yb14_2j27).length : Int) - 1)), 0, ax25j102, cx25j102, rfl, hRx25j102, rfl, hF⟩
def gonS0 (t : JTr) (h : Int) (r s : Bs) : JTr × Int := if (h == 1) = true then ldS t r else if (h == 2) = true then puS t r s else rpS t r s
noncomputable def gonS : JTr → Int → Bs → Bs → JTr × Int := Classical.choose (rigid gonS0)
theorem gonS_eq : gonS = gonS0 := Classical.choose_spec (rigid gonS0)
def gonP (t : JTr) (h : Int) (r s : Bs) : Prop := lenP t ∧ (h = 1 ∨ h = 2 ∨ h = 3)
theorem gon_err {t : JTr} {h : Int} {r s : Bs} {a : Bs} {e : Int} (he : rvS t r = (a, e)) (h0 : (e != 0) = true) : gonS t h r s = (([], 0), e) := by
 have h1 : (rvS t r).2 = e := by rw [he]
 have ow : owS t r s = (ze, e) := by
  rw [owS_eq]; unfold owS0
  rw [h1, if_t h0]
 rw [gonS_eq]
 unfold gonS0
 split
 ·rw [ldS_eq]; unfold ldS0; rw [h1, if_t h0]
 ·split
  ·rw [puS_eq]; unfold puS0; rw [ow, if_t h0]
  ·rw [rpS_eq]; unfold rpS0; rw [ow, if_t h0]
theorem prt_bar (s : Bs) : (prtS s [35]).1 = barS s := (prt_cut 35 (by decide) s).1
/-- the greatest document -/
def maxR : List JEn → Int → Int
 | [], a => a
 | x :: l, a => maxR l (if a < x.2.2 then x.2.2 else a)
theorem rng_of {e : JEn} (h : rngD e = true) : 0 ≤ e.2.2 ∧ e.2.2 ≤ 1000000 := by
 unfold rngD at h
 rw [Bool.not_eq_true', Bool.or_eq_false_iff] at h
 have a := of_decide_eq_false h.1
 have b := of_decide_eq_false h.2
 omega
theorem doc_max : ∀ (l : List JEn) (a : Int), (∀ e ∈ l, rngD e = true) → docM l (a + 1) = maxR l a + 1
 | [], _, _ => rfl
 | x :: l, a, h => by
  have hx := rng_of (h x (List.mem_cons_self ..))
  rw [docM, maxR, w64 (by omega)]
  by_cases hc : a < x.2.2
  ·rw [if_pos hc, if_pos (by omega)]
   exact doc_max l _ fun e he => h e (List.mem_cons_of_mem _ he)
  ·rw [if_neg hc, if_neg (by omega)]
   exact doc_max l _ fun e he => h e (List.mem_cons_of_mem _ he)
theorem maxR_le : ∀ (l : List JEn) (a : Int), (∀ e ∈ l, rngD e = true) → -1 ≤ a → a ≤ 1000000 → -1 ≤ maxR l a ∧ maxR l a ≤ 1000000
 | [], a, _, h1, h2 => ⟨h1, h2⟩
 | x :: l, a, h, h1, h2 => by
  have hx := rng_of (h x (List.mem_cons_self ..))
  rw [maxR]
  refine maxR_le l _ (fun e he => h e (List.mem_cons_of_mem _ he)) ?_ ?_ <;> split <;> omega
section
variable {t : JTr} {r s : Bs}
theorem gn_j27 {G : JTr × Int} {d : Int} (q : Int) (hh : hereP t) (hl : t.1.length ≤ 50)
  (h3 : (q == 3) = true → G = ((t.1.set (Int.toNat t.2) ((resS (hereS t).1 r).1, (if (q == 1) = true then ([] : Bs) else s), d), t.2), 0))
  (h12 : (q == 3) = false → G = (behS t ((resS (hereS t).1 r).1, (if (q == 1) = true then ([] : Bs) else s), d), 0)) :
  rgnj27 t q r s (fun a b => (a, b) = G) (hereS t) d := by
 obtain ⟨hh1, hh2⟩ := hh
 have ew : w6 (t.2 + 1) = t.2 + 1 := w64 (by omega)
 have hB : ∀ e : JEn, (((wclS t.1).take (Int.toNat (w6 (t.2 + 1)))) ++ [e]).length = Int.toNat t.2 + 2 := fun e => by
  rw [ew, show Int.toNat (t.2 + 1) = Int.toNat t.2 + 1 by omega]
  unfold wclS
  rw [List.length_append, List.length_take, List.length_singleton]; omega
 refine ⟨here_cl ⟨hh1, hh2⟩ hl, fun h => ⟨hh1, hh2, (h3 h).symm⟩, fun h => ?_⟩
 have hv : ((rgnV1 t q r s (hereS t) d, w6 (((rgnV1 t q r s (hereS t) d).length : Int) - 1)), (0 : Int)) = G := by
  rw [h12 h, behS_eq]
  have e1 : rgnV1 t q r s (hereS t) d = wbhV0 t ((resS (hereS t).1 r).1, (if (q == 1) = true then ([] : Bs) else s), d) := by
   have hb := hB ((resS (hereS t).1 r).1, (if (q == 1) = true then ([] : Bs) else s), d)
   have key : ∀ B : List JEn, B.length = Int.toNat t.2 + 2 → (if ((B.length : Int) == 51) = true then B.drop (Int.toNat 1) else B) = if decide ((B.length : Int) > 50) = true then B.drop (Int.toNat 1) else B := fun B hB => by
    by_cases hc : Int.toNat t.2 + 2 = 51
    ·rw [if_t (by rw [hB, hc]; rfl), if_t (decide_eq_true (by omega))]
    ·rw [if_f (by rw [beq_eq_false_iff_ne]; omega), if_f (decide_eq_false (by omega))]
   exact key _ hb
  unfold behS0
  rw [e1]
 have hw : (0 : Int) ≤ w6 (t.2 + 1) ∧ w6 (t.2 + 1) ≤ ((wclS t.1).length : Int) := by
  rw [ew]; unfold wclS; omega
 have j : rgnj102 t q r s (fun a b => (a, b) = G) (hereS t) d := hv
 have jy : rgnj102y t q r s (fun a b => (a, b) = G) (hereS t) d := hv
 simp only [hB]
 exact ⟨⟨hw.1, hw.2, by omega, fun _ => ⟨by omega, by omega, by omega, j⟩, fun _ => j⟩, hw.1, hw.2, by omega, fun _ => ⟨by omega, by omega, by omega, jy⟩, fun _ => jy⟩
end
theorem rgn_F (t : JTr) (q : Int) (r s : Bs) (hp : gonP t q r s) : rgnF t q r s (fun a b => (a, b) = gonS t q r s) := by
 obtain ⟨hp1, hq⟩ := hp
 refine ⟨hp1, fun h => ?_, fun h => ?_⟩
 ·rw [gon_err (t := t) (r := r) (a := []) (e := chkT t) (by rw [rvS_eq]; unfold rvS0; rw [if_t h]) h]
 have h0 : chkT t = 0 := by simpa using h
 obtain ⟨hh, hl, hcl, hrg⟩ := chk_zero h0
 have hrv : rvS t r = resS (hereS t).1 r := by rw [rvS_eq]; unfold rvS0; rw [if_f h]
 refine ⟨hh.1, hh.2, fun h1 => ?_, fun h1 => ?_⟩
 ·rw [gon_err (t := t) (r := r) (a := (resS (hereS t).1 r).1) (e := (resS (hereS t).1 r).2) hrv h1]; rfl
 have h1' : (resS (hereS t).1 r).2 = 0 := by
  have h1 : ((resS (hereS t).1 r).2 != 0) = false := h1
  simpa using h1
 obtain ⟨r1, r2, r3⟩ := res_ok h1'
 have r4 := par_len r1
 have hr0 : ((rvS t r).2 != 0) = false := by rw [hrv, h1']; rfl
 have hmem : hereS t ∈ t.1 := by
  unfold hereS
  rw [List.getD_eq_getElem?_getD, List.getElem?_eq_getElem hh.2]
  exact List.getElem_mem _
 refine ⟨fun hq1 => ?_, fun hq1 => ?_⟩
 ·have hq1' : q = 1 := beq_iff_eq.1 hq1
  have hg : gonS t q r s = if decide (ldD t r > 1000000) = true then (([], 0), 2) else (behS t ((rvS t r).1, [], ldD t r), 0) := by
   rw [gonS_eq]; unfold gonS0; rw [if_t hq1, ldS_eq]; unfold ldS0; rw [if_f hr0]
  have hv : rgnV0 r (hereS t) = wldV0 t r := by
   unfold rgnV0 wldV0
   rw [prt_bar, prt_bar, hrv, Bool.or_comm]
  have j27 : ∀ d, d ≤ 1000000 → d = ldD t r → rgnj27 t q r s (fun a b => (a, b) = gonS t q r s) (hereS t) d := fun d hd hdd => by
   refine gn_j27 q hh hl (fun h => ?_) (fun h => ?_)
   ·rw [hq1'] at h; cases h
   ·rw [hg, ← hdd, if_f (decide_eq_false (by omega)), hrv, if_t hq1]
  have j35 : rgnj35 t q r s (fun a b => (a, b) = gonS t q r s) (hereS t) := by
   have loop : wldV0 t r = true → ∀ (k i : Nat) (a : Int), i + k = t.1.length → maxR (t.1.drop i) a = maxR t.1 (-1) → rgnl44 t q r s (fun a b => (a, b) = gonS t q r s) (hereS t) (k + 1) (i : Int) a := by
    intro hvt k
    have hm := maxR_le t.1 (-1) hrg (by omega) (by omega)
    have hld : ldD t r = maxR t.1 (-1) + 1 := by
     unfold ldD
     rw [if_t hvt]
     exact doc_max t.1 (-1) hrg
    induction k with
    | zero =>
     intro i a h h2
     rw [List.drop_of_length_le (by omega)] at h2
     have h2 : a = maxR t.1 (-1) := h2
     subst h2
     refine ⟨fun h => (by have := of_decide_eq_true h; omega), fun _ => ?_⟩
     rw [w64 (by omega)]
     refine ⟨fun h => ?_, fun h => ?_⟩
     ·rw [hg, hld, if_t h]
     ·have := of_decide_eq_false h
      exact j27 _ (by omega) hld.symm
    | succ k ih =>
     intro i a h h2
     rw [drop_get (l := t.1) default (by omega), maxR] at h2
     refine ⟨fun _ => ⟨by omega, by rw [Int.toNat_natCast]; omega, ?_⟩, fun h => (by have := of_decide_eq_false h; omega)⟩
     rw [Int.toNat_natCast, w64 (x := (i : Int) + 1) (by omega)]
     exact ih (i + 1) _ (by omega) h2
   refine ⟨fun h => ?_, fun h => ?_⟩
   ·exact ⟨_, loop (hv.symm.trans h) t.1.length 0 (-1) (by omega) rfl⟩
   ·have hd := rng_of (hrg _ hmem)
    refine j27 _ hd.2 ?_
    unfold ldD
    rw [if_f (hv.symm.trans h)]
  refine ⟨⟨by show (resS (hereS t).1 r).1.length ≤ 4000; omega, by decide⟩, ⟨by show (hereS t).1.length ≤ 4000; omega, by decide⟩, fun _ => j35, fun _ => ⟨?_, j35⟩⟩
  show r.length < 4294967281
  omega
 ·have hgo : owS t r s = if decide ((s.length : Int) > 2000) = true then (ze, 2) else if (!(worM (rvS t r).1 == worM (hereS t).1)) = true then (ze, 12) else (((rvS t r).1, s, (hereS t).2.2), 0) := by
   rw [owS_eq]; unfold owS0; rw [if_f hr0]
  have hge : ∀ e : Int, (e != 0) = true → owS t r s = (ze, e) → gonS t q r s = (([], 0), e) := fun e he ho => by
   rw [gonS_eq]; unfold gonS0; rw [if_f hq1]
   split
   ·rw [puS_eq]; unfold puS0; rw [ho, if_t he]
   ·rw [rpS_eq]; unfold rpS0; rw [ho, if_t he]
  refine ⟨fun h2 => ?_, fun h2 => ⟨par_ori _, par_ori _, ?_⟩⟩
  ·rw [hge 2 rfl (by rw [hgo, if_t h2])]
  ·have e1 : (rgnV2 r (hereS t) == rgnV3 (hereS t)) = (worM (rvS t r).1 == worM (hereS t).1) := by
    rw [wor_same r1, hrv]; rfl
   refine ⟨fun h3 => ?_, fun h3 => ?_⟩
   ·have h3 : (!(rgnV2 r (hereS t) == rgnV3 (hereS t))) = true := h3
    rw [e1] at h3
    rw [hge 12 rfl (by rw [hgo, if_f h2, if_t h3])]
   ·have h3 : (!(rgnV2 r (hereS t) == rgnV3 (hereS t))) = false := h3
    rw [e1] at h3
    have ho : owS t r s = (((rvS t r).1, s, (hereS t).2.2), 0) := by rw [hgo, if_f h2, if_f h3]
    refine gn_j27 q hh hl (fun h4 => ?_) (fun h4 => ?_)
    ·have : q = 3 := beq_iff_eq.1 h4
     subst this
     rw [gonS_eq]; unfold gonS0
     rw [if_f (show ((3 : Int) == 1) = false from rfl), if_f (show ((3 : Int) == 2) = false from rfl), rpS_eq]; unfold rpS0
     rw [ho, if_f (show ((3 : Int) == 1) = false from rfl), hrv]
     rfl
    ·have hq2 : q = 2 := by
      rcases hq with h | h | h
      ·rw [h] at hq1; cases hq1
      ·exact h
      ·rw [h] at h4; cases h4
     subst hq2
     rw [gonS_eq]; unfold gonS0
     rw [if_f (show ((2 : Int) == 1) = false from rfl), if_t (show ((2 : Int) == 2) = true from rfl), puS_eq]; unfold puS0
     rw [ho, if_f (show ((2 : Int) == 1) = false from rfl), hrv]
     rfl
theorem rgn_c {g : Ghost} {axt_0 : Option Addr} {cxt_0 : Nat} (xt : (List (Bs × Bs × Int)) × Int) (xhow : Int) (xref : Bs) (xstate : Bs) (hRxt_0 : Rep g (.slice (.pair (.str) (.pair (.str) (.int .i64)))) [.slice axt_0 xt.1.length cxt_0] xt.1) (hG0 : SomeInt g 0) (hG1 : GlobL g 1 (.int .u64) DPow)  (hp : gonP xt xhow xref xstate) : CallsH Tryz.prog 13 #[.agg ⟨vT xt axt_0 cxt_0⟩, .int .i64 xhow, sv xref, sv xstate] g [] (fun g' H' v => ∃ (ar0_0 : Option Addr) (cr0_0 : Nat), v = .tuple #[.agg ⟨vT (gonS xt xhow xref xstate).1 ar0_0 cr0_0⟩, .int .i64 (gonS xt xhow xref xstate).2] ∧ Rep g' (.slice (.pair (.str) (.pair (.str) (.int .i64)))) [.slice ar0_0 (gonS xt xhow xref xstate).1.1.length cr0_0] (gonS xt xhow xref xstate).1.1 ∧ H' = []) :=
 (rgn_ok xt xhow xref xstate hRxt_0 hG0 hG1 _ (rgn_F xt xhow xref xstate hp)).mono (by rintro g' H' v _ ⟨r0, r1, ar0_0, cr0_0, rfl, hRr0_0, rfl, hK⟩; obtain ⟨rfl, rfl⟩ : r0 = (gonS xt xhow xref xstate).1 ∧ r1 = (gonS xt xhow xref xstate).2 := ⟨congrArg (fun z => z.1) hK, congrArg (fun z => z.2) hK⟩; exact ⟨ar0_0, cr0_0, rfl, hRr0_0, rfl⟩)
def rstj3 (xa : (List (Bs × Bs × Int)) × Int) (xb : (List (Bs × Bs × Int)) × Int) (K : Bool → Prop) : Prop :=
 K ((xa.2 == xb.2) && (weqS xa.1 xb.1))
def rstF (xa : (List (Bs × Bs × Int)) × Int) (xb : (List (Bs × Bs × Int)) × Int) (K : Bool → Prop) : Prop :=
 (((xa.2 == xb.2)) = true → weqP xa.1 xb.1 ∧ rstj3 xa xb K) ∧ (((xa.2 == xb.2)) = false → rstj3 xa xb K)
theorem rst_ok {g : Ghost} {axa_0 : Option Addr} {cxa_0 : Nat} (xa : (List (Bs × Bs × Int)) × Int) {axb_0 : Option Addr} {cxb_0 : Nat} (xb : (List (Bs × Bs × Int)) × Int) (hRxa_0 : Rep g (.slice (.pair (.str) (.pair (.str) (.int .i64)))) [.slice axa_0 xa.1.length cxa_0] xa.1) (hRxb_0 : Rep g (.slice (.pair (.str) (.pair (.str) (.int .i64)))) [.slice axb_0 xb.1.length cxb_0] xb.1) (K : Bool → Prop)
  (hF : rstF xa xb K) : CallsH Tryz.prog 12 #[.agg ⟨vT xa axa_0 cxa_0⟩, .agg ⟨vT xb axb_0 cxb_0⟩] g [] (fun g' H' v => ∃ (r0 : Bool), v = .bool r0 ∧ H' = [] ∧ K r0) := by
 refine CallsH.enter 17 [(0, .agg ⟨vT xa axa_0 cxa_0⟩), (1, .agg ⟨vT xb axb_0 cxb_0⟩)] Tryz.func12 rfl (by kernel_rfl) (by kernel_rfl) (by kernel_rfl) fun w0 => ?_
 refine Ok.seq (Ok.region (Ok.op rfl (OpOk.box (v := .agg ⟨vT xa axa_0 cxa_0⟩) (cs := ⟨vT xa axa_0 cxa_0⟩) rfl (by kernel_rfl) rfl fun b1 => ?_)))
 refine Ok.op rfl (OpOk.box (v := .agg ⟨vT xb axb_0 cxb_0⟩) (cs := ⟨vT xb axb_0 cxb_0⟩) rfl (by kernel_rfl) rfl fun b2 => ?_)
 refine Ok.batch 1 [(2, pv b1 0), (3, pv b2 0)] (by kernel_rfl) (Ok.nil (Ok.thenN (Ok.cut (fun a W => StA 17 [(4, .bool ((xa.2 == xb.2) && (weqS xa.1 xb.1)))] a ∧ StW w0 [] g W ∧ rstj3 xa xb K) ?_ ?_)))
 ·
  refine Ok.region (Ok.bat 1 [2, 3] [(5, pv b1 1)] ?_)
  refine Ok.op rfl (OpOk.step (v := .int .i64 xa.2) (Yields.load 1 rfl rfl Tryz.underlying3 rfl (by kernel_rfl)) rfl rfl (Ok.bat 1 [2, 3] [(6, .int .i64 xa.2), (7, pv b2 1)] ?_))
  refine Ok.op rfl (OpOk.step (v := .int .i64 xb.2) (Yields.load 0 rfl rfl Tryz.underlying3 rfl (by kernel_rfl)) rfl rfl (Ok.bat 2 [2, 3] [(10, .bool (xa.2 == xb.2))] ?_))
  refine Ok.boolAt 10 ((xa.2 == xb.2)) rfl (fun hc3 => ?_) (fun hc3 => ?_)
  ·replace hF := hF.1 hc3
   refine Ok.bat 1 [3] [(10, .bool true), (11, pv b1 0)] ?_
   refine Ok.opYes (j := 5) (d := 10) (want := true) (b := true) rfl (by kernel_rfl) (by kernel_rfl) rfl (OpOk.step (v := .slice axa_0 xa.1.length cxa_0) (Yields.load 1 rfl rfl Tryz.underlying22 rfl (by kernel_rfl)) rfl rfl (Ok.bat 1 [10] [(12, .slice axa_0 xa.1.length cxa_0), (13, pv b2 0)] ?_))
   refine Ok.opYes (j := 5) (d := 10) (want := true) (b := true) rfl (by kernel_rfl) (by kernel_rfl) rfl (OpOk.step (v := .slice axb_0 xb.1.length cxb_0) (Yields.load 0 rfl rfl Tryz.underlying22 rfl (by kernel_rfl)) rfl rfl ?_)
   obtain ⟨hp4, hF⟩ := hF
   refine Ok.opYes (j := 5) (d := 10) (want := true) (b := true) rfl (by kernel_rfl) (by kernel_rfl) rfl (OpOk.callG (v := .bool (weqS xa.1 xb.1)) enr (fun W hW => weq_c xa.1 xb.1 (hRxa_0.mono hW.sees) (hRxb_0.mono hW.sees) hp4) rfl ?_)
   refine Ok.batch 2 [(4, .bool (weqS xa.1 xb.1))] (by kernel_rfl) (Ok.nil (Ok.thenN (Ok.reval 4 rfl (show (.bool (weqS xa.1 xb.1) : Value) = .bool ((xa.2 == xb.2) && (weqS xa.1 xb.1)) from congrArg (Value.bool) (mand_t hc3)) ?_)))
   exact fun a W hA hW => ⟨hA.sub (by kernel_rfl), hW.sub (.cons _ (.cons _ .slnil)), hF⟩
  ·replace hF := hF.2 hc3
   refine Ok.batch 7 [(4, .bool false)] (by kernel_rfl) (Ok.nil (Ok.thenN (Ok.reval 4 rfl (show (.bool false : Value) = .bool ((xa.2 == xb.2) && (weqS xa.1 xb.1)) from congrArg (Value.bool) (mand_f hc3)) ?_)))
   exact fun a W hA hW => ⟨hA.sub (by kernel_rfl), hW.sub (.cons _ (.cons _ .slnil)), hF⟩
 ·
  clear hF
  rintro a W ⟨hA, hW, hF⟩
  refine (?_ : Ok _ _ _ _ _ _) a W hA hW
  clear hA hW
  refine Ok.ret ?_
  exact Ok.resH (vs := [.bool ((xa.2 == xb.2) && (weqS xa.1 xb.1))]) (.inl rfl) rfl (.cons (.tmp rfl) .nil) (Gext.refl w0 g) ⟨((xa.2 == xb.2) && (weqS xa.1 xb.1)), rfl, rfl, hF⟩
def smtS (a b : JTr) : Bool := (a.2 == b.2) && (a.1 == b.1)
def smtP (a b : JTr) : Prop := weqP a.1 b.1
theorem rst_F (a b : JTr) (hp : smtP a b) : rstF a b (fun r => r = smtS a b) := ⟨fun _ => ⟨hp, rfl⟩, fun _ => rfl⟩
theorem rst_c {g : Ghost} {axa_0 : Option Addr} {cxa_0 : Nat} (xa : (List (Bs × Bs × Int)) × Int) {axb_0 : Option Addr} {cxb_0 : Nat} (xb : (List (Bs × Bs × Int)) × Int) (hRxa_0 : Rep g (.slice (.pair (.str) (.pair (.str) (.int .i64)))) [.slice axa_0 xa.1.length cxa_0] xa.1) (hRxb_0 : Rep g (.slice (.pair (.str) (.pair (.str) (.int .i64)))) [.slice axb_0 xb.1.length cxb_0] xb.1)  (hp : smtP xa xb) : CallsG Tryz.prog 12 #[.agg ⟨vT xa axa_0 cxa_0⟩, .agg ⟨vT xb axb_0 cxb_0⟩] g (.bool (smtS xa xb)) :=
 (rst_ok xa xb hRxa_0 hRxb_0 _ (rst_F xa xb hp)).gives (by rintro g' H' v _ ⟨r0, rfl, rfl, hK⟩; subst hK; rfl)
end
end Go.Proofs.YtdaagfgedkdmjaaGreatDoor.Ub
