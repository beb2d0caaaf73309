/- Trails: Start, Load, Push, Replace, Go. -/
import Derived.Test.YtdaagfgedkdmjaaGreatDoorTwb
import Derived.Test.YtdaagfgedkdmjaaGreatDoorFrk
namespace Go.Proofs.YtdaagfgedkdmjaaGreatDoor.Ub
open Go Go.Eng Go.RowKit Go.Shelf Go.Proofs Bld Sp Ti Uc Ua Ui
set_option maxHeartbeats 4000000
set_option maxRecDepth 100000
set_option linter.unusedSimpArgs false
set_option linter.unusedVariables false
noncomputable section
def hereP (t : JTr) : Prop := 0 ≤ t.2 ∧ Int.toNat t.2 < t.1.length
def hereS (t : JTr) : JEn := t.1.getD (Int.toNat t.2) default
theorem dcF_rng : ∀ (r m : List JEn), dcF worM m r = true → ∀ e ∈ r, rngD e = true
 | [], _, _, _, h => by cases h
 | x :: r, m, h, e, he => by
  rw [dcF, Bool.and_eq_true, Bool.and_eq_true] at h
  rcases List.mem_cons.1 he with rfl | he
  ·exact h.1
  ·exact dcF_rng r _ h.2.2 e he
theorem chk_zero {t : JTr} (h : chkT t = 0) : hereP t ∧ t.1.length ≤ 50 ∧ (∀ e ∈ t.1, wcnM e.1 = true) ∧ ∀ e ∈ t.1, rngD e = true := by
 rw [chkT_eq] at h
 unfold chkT0 at h
 split at h
 ·exact absurd h (by decide)
 ·rename_i h0
  split at h
  ·exact absurd h (by decide)
  ·rename_i h1
   have h0 : wckV0 t = false := by simpa using h0
   have h1 : wckV1 t = false := by simpa using h1
   unfold wckV0 at h0
   unfold wckV1 at h1
   simp only [Bool.or_eq_false_iff] at h0 h1
   obtain ⟨a1, a2, a3, a4⟩ := h1
   have b0 := of_decide_eq_false h0.1
   have b1 := of_decide_eq_false a1
   have b2 := of_decide_eq_false a2
   refine ⟨⟨by omega, by omega⟩, by omega, fun e he => ?_, fun e he => ?_⟩
   ·have : (t.1.any fun y => wc2M y) = false := a3
    rw [List.any_eq_false] at this
    have := this e he
    unfold wc2M at this
    simpa using this
   ·have : wdcS t.1 = true := by simpa using a4
    exact dcF_rng _ _ this e he
theorem res_ok {b r : Bs} (h : (resS b r).2 = 0) : (parS b).2 = 0 ∧ r.length ≤ 500 ∧ (resS b r).1.length ≤ 500 := by
 rw [resS_eq] at h ⊢
 unfold resS0 at h ⊢
 split at h
 ·rename_i h1
  rw [h] at h1; cases h1
 ·rename_i h1
  rw [if_neg h1]
  split at h
  ·exact absurd h (by decide)
  ·rename_i h2
   rw [if_neg h2]
   split at h
   ·rename_i h3
    rw [h] at h3; cases h3
   ·rename_i h3
    rw [if_neg h3]
    split at h
    ·exact absurd h (by decide)
    ·rename_i h4
     rw [if_neg h4]
     have h2 : decide ((r.length : Int) > 500) = false := by simpa using h2
     have h4 : decide (((txtS (resU b r).1).length : Int) > 500) = false := by simpa using h4
     have := of_decide_eq_false h2
     have := of_decide_eq_false h4
     refine ⟨by simpa using h1, by omega, ?_⟩
     show (txtS (resU b r).1).length ≤ 500
     omega
theorem par_len {b : Bs} (h : (parS b).2 = 0) : b.length ≤ 500 := by
 rw [parS_eq] at h
 unfold parS0 at h
 split at h
 ·exact absurd (show (2 : Int) = 0 from h) (by decide)
 ·rename_i h1
  have h1 : decide ((b.length : Int) > 500) = false := by simpa using h1
  have := of_decide_eq_false h1
  omega
def whrF (xt : (List (Bs × Bs × Int)) × Int) (K : (Bs × Bs × Int) → Prop) : Prop :=
 (0 : Int) ≤ xt.2 ∧ Int.toNat xt.2 < xt.1.length ∧ K (xt.1.getD (Int.toNat xt.2) default)
theorem whr_ok {g : Ghost} {axt_0 : Option Addr} {cxt_0 : Nat} (xt : (List (Bs × Bs × Int)) × Int) (hRxt_0 : Rep g (.slice (.pair (.str) (.pair (.str) (.int .i64)))) [.slice axt_0 xt.1.length cxt_0] xt.1) (K : (Bs × Bs × Int) → Prop)
  (hF : whrF xt K) : CallsH Tryz.prog 17 #[.agg ⟨vT xt axt_0 cxt_0⟩] g [] (fun g' H' v => ∃ (r0 : Bs × Bs × Int), v = .agg ⟨vE r0⟩ ∧ H' = [] ∧ K r0) := by
 refine CallsH.enter 9 [(0, .agg ⟨vT xt axt_0 cxt_0⟩)] Tryz.func17 rfl (by kernel_rfl) (by kernel_rfl) (by kernel_rfl) fun w0 => ?_
 refine Ok.seq (Ok.region (Ok.op rfl (OpOk.box (v := .agg ⟨vT xt axt_0 cxt_0⟩) (cs := ⟨vT xt axt_0 cxt_0⟩) rfl (by kernel_rfl) rfl fun b1 => ?_)))
 refine Ok.op rfl (OpOk.alloc (z := .agg #[sv ([] : Bs), sv ([] : Bs), .int .i64 0]) (cs := #[sv ([] : Bs), sv ([] : Bs), .int .i64 0]) (by kernel_rfl) (by kernel_rfl) rfl fun b2 => ?_)
 refine Ok.nil (Ok.thenN (Ok.seq (Ok.region (Ok.batch 1 [(1, pv b1 0), (2, pv b2 0), (3, pv b1 0)] (by kernel_rfl) (Ok.op rfl (OpOk.step (v := .slice axt_0 xt.1.length cxt_0) (Yields.load 1 rfl rfl Tryz.underlying22 rfl (by kernel_rfl)) rfl rfl (Ok.bat 1 [2] [(4, .slice axt_0 xt.1.length cxt_0), (5, pv b1 1)] ?_)))))))
 refine Ok.op rfl (OpOk.step (v := .int .i64 xt.2) (Yields.load 1 rfl rfl Tryz.underlying3 rfl (by kernel_rfl)) rfl rfl ?_)
 obtain ⟨h04, h14, hF⟩ := hF
 have he4 := get_of (l := xt.1) (default : Bs × Bs × Int) h14
 generalize hg4 : (xt.1.getD (Int.toNat xt.2) default) = e4 at he4 hF ⊢
 refine Ok.op rfl (OpOk.indexRo (e := .pair (.str) (.pair (.str) (.int .i64))) (i := xt.2) (el := e4) rfl rfl Tryz.underlying22 (by kernel_rfl) hRxt_0 h04 he4 rfl fun q3 o3 cs3 _ hat3 hr3 => ?_)
 obtain ⟨_, _, rfl, rfl, ⟨_, _, rfl, rfl, rfl⟩⟩ := hr3
 replace hat3 : At g q3 o3 (vE e4) := hat3
 refine Ok.op rfl (OpOk.step (v := .agg ⟨vE e4⟩) (Yields.loadAggRo 0 3 ⟨vE e4⟩ hat3 (by kernel_rfl) Tryz.underlying36 rfl (by kernel_rfl) (by kernel_rfl) (by kernel_rfl)) rfl rfl (Ok.op rfl (OpOk.sto (k := 3) (v := .agg ⟨vE e4⟩) 0 ⟨vE e4⟩ rfl rfl rfl ?_)))
 refine Ok.nil (Ok.thenN (Ok.ret ?_))
 exact Ok.resP (vs := [.agg ⟨vE e4⟩]) [] [] (by decide) rfl (.inl rfl) rfl (.cons (.cellAgg 0 3 ⟨vE e4⟩ rfl rfl Tryz.underlying36 rfl (by kernel_rfl) (by kernel_rfl) (by kernel_rfl)) .nil) (Gext.refl w0 g) ⟨e4, rfl, rfl, hF⟩
theorem whr_F (t : JTr) (hp : hereP t) : whrF t (fun r => r = hereS t) := ⟨hp.1, hp.2, rfl⟩
theorem whr_c {g : Ghost} {axt_0 : Option Addr} {cxt_0 : Nat} (xt : (List (Bs × Bs × Int)) × Int) (hRxt_0 : Rep g (.slice (.pair (.str) (.pair (.str) (.int .i64)))) [.slice axt_0 xt.1.length cxt_0] xt.1)  (hp : hereP xt) : CallsG Tryz.prog 17 #[.agg ⟨vT xt axt_0 cxt_0⟩] g (.agg ⟨vE (hereS xt)⟩) :=
 (whr_ok xt hRxt_0 _ (whr_F xt hp)).gives (by rintro g' H' v _ ⟨r0, rfl, rfl, hK⟩; subst hK; rfl)
def staS0 (s : Bs) : JTr × Int := if ((resS s s).2 != 0) = true then (([], 0), (resS s s).2) else (([((resS s s).1, [], 0)], 0), 0)
noncomputable def staS : Bs → JTr × Int := Classical.choose (rigid staS0)
theorem staS_eq : staS = staS0 := Classical.choose_spec (rigid staS0)
def wstF (xat : Bs) (K : ((List (Bs × Bs × Int)) × Int) → Int → Prop) : Prop :=
 ((((resS xat xat).2 != 0)) = true → K ([], 0) (resS xat xat).2) ∧ ((((resS xat xat).2 != 0)) = false → K (([((resS xat xat).1, ([] : Bs), 0)] : List (Bs × Bs × Int)), 0) 0)
theorem wst_ok {g : Ghost} (xat : Bs) (hG0 : SomeInt g 0) (hG1 : GlobL g 1 (.int .u64) DPow) (hG2 : SomeIf g 2) (hG3 : SomeIf g 3) (hG4 : GlobL g 4 (.int .u8) DFirst) (hG5 : GlobL g 5 (.pair (.int .u8) (.int .u8)) DAcc) (K : ((List (Bs × Bs × Int)) × Int) → Int → Prop)
  (hF : wstF xat K) : CallsH Tryz.prog 4 #[sv xat] g [] (fun g' H' v => ∃ (r0 : (List (Bs × Bs × Int)) × Int), ∃ (r1 : Int), ∃ (ar0_0 : Option Addr) (cr0_0 : Nat), v = .tuple #[.agg ⟨vT r0 ar0_0 cr0_0⟩, .int .i64 r1] ∧ Rep g' (.slice (.pair (.str) (.pair (.str) (.int .i64)))) [.slice ar0_0 r0.1.length cr0_0] r0.1 ∧ H' = [] ∧ K r0 r1) := by
 refine CallsH.enter 20 [(0, sv xat)] Tryz.func4 rfl (by kernel_rfl) (by kernel_rfl) (by kernel_rfl) fun w0 => ?_
 refine Ok.seq (Ok.region (Ok.op rfl (OpOk.alloc (z := .agg #[.slice none 0 0, .int .i64 0]) (cs := #[.slice none 0 0, .int .i64 0]) (by kernel_rfl) (by kernel_rfl) rfl fun b1 => ?_)))
 refine Ok.batch 1 [(0, sv xat), (2, pv b1 0)] (by kernel_rfl) (Ok.nil (Ok.thenN (Ok.seq (Ok.region (Ok.bat 2 [2] [(7, sv xat), (8, sv xat)] ?_)))))
 refine Ok.op rfl (OpOk.callG (v := .tuple #[sv ((resS xat xat).1), .int .i64 (resS xat xat).2]) enr (fun W hW => ures_c xat xat (hG0.mono hW.sees) (hG1.mono hW.sees) (hG2.mono hW.sees) (hG3.mono hW.sees) (hG4.mono hW.sees) (hG5.mono hW.sees)) rfl ?_)
 refine Ok.bat 5 [2] [(4, sv ((resS xat xat).1)), (5, .int .i64 (resS xat xat).2)] ?_
 refine Ok.nil (Ok.thenN (Ok.seq (Ok.seq (Ok.region (Ok.bat 2 [2, 4, 5] [(13, .bool ((resS xat xat).2 != 0))] ?_)))))
 refine Ok.nil (Ok.thenN (Ok.cond (b := ((resS xat xat).2 != 0)) rfl (fun hc2 => ?_) (fun hc2 => ?_)))
 ·replace hF := hF.1 hc2
  refine Ok.seq (Ok.region (Ok.bat 2 [2] [(14, .agg #[.slice none 0 0, .int .i64 0]), (15, .int .i64 (resS xat xat).2)] ?_))
  refine Ok.op rfl (OpOk.sto (k := 2) (v := .agg #[.slice none 0 0, .int .i64 0]) 0 #[.slice none 0 0, .int .i64 0] rfl rfl rfl ?_)
  refine Ok.bat 1 [2] [(3, .int .i64 (resS xat xat).2)] ?_
  refine Ok.nil (Ok.thenN (Ok.ret (Ok.thenR ?_)))
  exact Ok.resP (vs := [.agg #[.slice none 0 0, .int .i64 0], .int .i64 (resS xat xat).2]) [] [] (by decide) rfl (.inl rfl) rfl (.cons (.cellAgg 0 2 #[.slice none 0 0, .int .i64 0] rfl rfl Tryz.underlying24 rfl (by kernel_rfl) (by kernel_rfl) (by kernel_rfl)) (.cons (.tmp rfl) .nil)) (Gext.refl w0 g) ⟨([], 0), (resS xat xat).2, none, 0, rfl, Rep.nil, rfl, hF⟩
 ·replace hF := hF.2 hc2
  refine Ok.skip (Ok.thenN (Ok.seq (Ok.region (Ok.bat 2 [2] [(17, .agg #[sv ((resS xat xat).1), sv ([] : Bs), .int .i64 0])] ?_))))
  have hL3 : RepL g (.pair (.str) (.pair (.str) (.int .i64))) ([sv ((resS xat xat).1), sv ([] : Bs), .int .i64 0] : List Value) ([((resS xat xat).1, ([] : Bs), 0)] : List (Bs × Bs × Int)) := (RepL.consN (c := [sv ((resS xat xat).1), sv ([] : Bs), .int .i64 0]) ⟨[sv ((resS xat xat).1)], [sv ([] : Bs), .int .i64 0], rfl, rfl, ⟨[sv ([] : Bs)], [.int .i64 0], rfl, rfl, rfl⟩⟩ rfl)
  refine Ok.op rfl (OpOk.lit (E := 36) (.pair (.str) (.pair (.str) (.int .i64))) ([((resS xat xat).1, ([] : Bs), 0)] : List (Bs × Bs × Int)) ([sv ((resS xat xat).1), sv ([] : Bs), .int .i64 0] : List Value) (by kernel_rfl) (by kernel_rfl) rfl (by kernel_rfl) hL3 rfl fun b3 => ?_)
  refine Ok.bat 1 [2] [(19, .agg #[.slice (some ⟨b3, 0, none⟩) ([((resS xat xat).1, ([] : Bs), 0)] : List (Bs × Bs × Int)).length 1, .int .i64 0])] ?_
  refine Ok.op rfl (OpOk.sto (k := 2) (v := .agg #[.slice (some ⟨b3, 0, none⟩) ([((resS xat xat).1, ([] : Bs), 0)] : List (Bs × Bs × Int)).length 1, .int .i64 0]) 1 #[.slice (some ⟨b3, 0, none⟩) ([((resS xat xat).1, ([] : Bs), 0)] : List (Bs × Bs × Int)).length 1, .int .i64 0] rfl rfl rfl ?_)
  refine Ok.bat 1 [2] [(3, .int .i64 0)] ?_
  refine Ok.nil (Ok.thenN (Ok.ret (Ok.frz 0 rfl hL3 fun g4 hx4 hRf4 => ?_)))
  replace hG0 := hG0.mono hx4.1
  replace hG1 := hG1.mono hx4.1
  replace hG2 := hG2.mono hx4.1
  replace hG3 := hG3.mono hx4.1
  replace hG4 := hG4.mono hx4.1
  replace hG5 := hG5.mono hx4.1
  exact Ok.resP (vs := [.agg #[.slice (some ⟨b3, 0, none⟩) ([((resS xat xat).1, ([] : Bs), 0)] : List (Bs × Bs × Int)).length 1, .int .i64 0], .int .i64 0]) [] [] (by decide) rfl (.inl rfl) rfl (.cons (.cellAgg 0 2 #[.slice (some ⟨b3, 0, none⟩) ([((resS xat xat).1, ([] : Bs), 0)] : List (Bs × Bs × Int)).length 1, .int .i64 0] rfl rfl Tryz.underlying24 rfl (by kernel_rfl) (by kernel_rfl) (by kernel_rfl)) (.cons (.tmp rfl) .nil)) hx4 ⟨(([((resS xat xat).1, ([] : Bs), 0)] : List (Bs × Bs × Int)), 0), 0, (some ⟨b3, 0, none⟩), 1, rfl, hRf4, rfl, hF⟩
theorem wst_F (s : Bs) : wstF s (fun a b => (a, b) = staS s) := by
 rw [staS_eq]
 unfold staS0
 exact ⟨fun h => by rw [if_t h], fun h => by rw [if_f h]⟩
theorem wst_c {g : Ghost} (xat : Bs) (hG0 : SomeInt g 0) (hG1 : GlobL g 1 (.int .u64) DPow) (hG2 : SomeIf g 2) (hG3 : SomeIf g 3) (hG4 : GlobL g 4 (.int .u8) DFirst) (hG5 : GlobL g 5 (.pair (.int .u8) (.int .u8)) DAcc)  : CallsH Tryz.prog 4 #[sv xat] g [] (fun g' H' v => ∃ (ar0_0 : Option Addr) (cr0_0 : Nat), v = .tuple #[.agg ⟨vT (staS xat).1 ar0_0 cr0_0⟩, .int .i64 (staS xat).2] ∧ Rep g' (.slice (.pair (.str) (.pair (.str) (.int .i64)))) [.slice ar0_0 (staS xat).1.1.length cr0_0] (staS xat).1.1 ∧ H' = []) :=
 (wst_ok xat hG0 hG1 hG2 hG3 hG4 hG5 _ (wst_F xat)).mono (by rintro g' H' v _ ⟨r0, r1, ar0_0, cr0_0, rfl, hRr0_0, rfl, hK⟩; obtain ⟨rfl, rfl⟩ : r0 = (staS xat).1 ∧ r1 = (staS xat).2 := ⟨congrArg (fun z => z.1) hK, congrArg (fun z => z.2) hK⟩; exact ⟨ar0_0, cr0_0, rfl, hRr0_0, rfl⟩)
def behP (t : JTr) (_ : JEn) : Prop := hereP t ∧ t.1.length ≤ 50
def wbhV0 (xt : (List (Bs × Bs × Int)) × Int) (xe : Bs × Bs × Int) : List (Bs × Bs × Int) :=
 (if (decide ((((wclS (xt.1.take (Int.toNat (w6 (xt.2 + 1))))) ++ ([xe] : List (Bs × Bs × Int))).length : Int) > 50)) = true then (((wclS (xt.1.take (Int.toNat (w6 (xt.2 + 1))))) ++ ([xe] : List (Bs × Bs × Int))).drop (Int.toNat 1)) else ((wclS (xt.1.take (Int.toNat (w6 (xt.2 + 1))))) ++ ([xe] : List (Bs × Bs × Int))))
def wbhj5 (xt : (List (Bs × Bs × Int)) × Int) (xe : Bs × Bs × Int) (K : ((List (Bs × Bs × Int)) × Int) → Prop) : Prop :=
 wclP (wbhV0 xt xe) ∧ K ((wclS (wbhV0 xt xe)), w6 (((wbhV0 xt xe).length : Int) - 1))
def wbhj5y (xt : (List (Bs × Bs × Int)) × Int) (xe : Bs × Bs × Int) (K : ((List (Bs × Bs × Int)) × Int) → Prop) : Prop :=
 wclP (wbhV0 xt xe) ∧ K ((wclS (wbhV0 xt xe)), w6 (((wbhV0 xt xe).length : Int) - 1))
def wbhF (xt : (List (Bs × Bs × Int)) × Int) (xe : Bs × Bs × Int) (K : ((List (Bs × Bs × Int)) × Int) → Prop) : Prop :=
 (0 : Int) ≤ 0 ∧ (0 : Int) ≤ (w6 (xt.2 + 1)) ∧ (w6 (xt.2 + 1)) ≤ (xt.1.length : Int) ∧ (wclP (xt.1.take (Int.toNat (w6 (xt.2 + 1)))) ∧ ((wclS (xt.1.take (Int.toNat (w6 (xt.2 + 1))))) ++ ([xe] : List (Bs × Bs × Int))).length ≤ 3518437208883 ∧ ((decide ((((wclS (xt.1.take (Int.toNat (w6 (xt.2 + 1))))) ++ ([xe] : List (Bs × Bs × Int))).length : Int) > 50)) = true → (0 : Int) ≤ 1 ∧ (1 : Int) ≤ (((wclS (xt.1.take (Int.toNat (w6 (xt.2 + 1))))) ++ ([xe] : List (Bs × Bs × Int))).length : Int) ∧ (((wclS (xt.1.take (Int.toNat (w6 (xt.2 + 1))))) ++ ([xe] : List (Bs × Bs × Int))).length : Int) ≤ (((wclS (xt.1.take (Int.toNat (w6 (xt.2 + 1))))) ++ ([xe] : List (Bs × Bs × Int))).length : Int) ∧ wbhj5 xt xe K) ∧ ((decide ((((wclS (xt.1.take (Int.toNat (w6 (xt.2 + 1))))) ++ ([xe] : List (Bs × Bs × Int))).length : Int) > 50)) = false → wbhj5 xt xe K)) ∧ (wclP (xt.1.take (Int.toNat (w6 (xt.2 + 1)))) ∧ ((wclS (xt.1.take (Int.toNat (w6 (xt.2 + 1))))) ++ ([xe] : List (Bs × Bs × Int))).length ≤ 3518437208883 ∧ ((decide ((((wclS (xt.1.take (Int.toNat (w6 (xt.2 + 1))))) ++ ([xe] : List (Bs × Bs × Int))).length : Int) > 50)) = true → (0 : Int) ≤ 1 ∧ (1 : Int) ≤ (((wclS (xt.1.take (Int.toNat (w6 (xt.2 + 1))))) ++ ([xe] : List (Bs × Bs × Int))).length : Int) ∧ (((wclS (xt.1.take (Int.toNat (w6 (xt.2 + 1))))) ++ ([xe] : List (Bs × Bs × Int))).length : Int) ≤ (((wclS (xt.1.take (Int.toNat (w6 (xt.2 + 1))))) ++ ([xe] : List (Bs × Bs × Int))).length : Int) ∧ wbhj5y xt xe K) ∧ ((decide ((((wclS (xt.1.take (Int.toNat (w6 (xt.2 + 1))))) ++ ([xe] : List (Bs × Bs × Int))).length : Int) > 50)) = false → wbhj5y xt xe K))
theorem wbh_ok {g : Ghost} {axt_0 : Option Addr} {cxt_0 : Nat} (xt : (List (Bs × Bs × Int)) × Int) (xe : Bs × Bs × Int) (hRxt_0 : Rep g (.slice (.pair (.str) (.pair (.str) (.int .i64)))) [.slice axt_0 xt.1.length cxt_0] xt.1) (K : ((List (Bs × Bs × Int)) × Int) → Prop)
  (hF : wbhF xt xe K) : CallsH Tryz.prog 20 #[.agg ⟨vT xt axt_0 cxt_0⟩, .agg ⟨vE xe⟩] g [] (fun g' H' v => ∃ (r0 : (List (Bs × Bs × Int)) × Int), ∃ (ar0_0 : Option Addr) (cr0_0 : Nat), v = .agg ⟨vT r0 ar0_0 cr0_0⟩ ∧ Rep g' (.slice (.pair (.str) (.pair (.str) (.int .i64)))) [.slice ar0_0 r0.1.length cr0_0] r0.1 ∧ H' = [] ∧ K r0) := by
 refine CallsH.enter 27 [(0, .agg ⟨vT xt axt_0 cxt_0⟩), (1, .agg ⟨vE xe⟩)] Tryz.func20 rfl (by kernel_rfl) (by kernel_rfl) (by kernel_rfl) fun w0 => ?_
 refine Ok.seq (Ok.region (Ok.op rfl (OpOk.box (v := .agg ⟨vT xt axt_0 cxt_0⟩) (cs := ⟨vT xt axt_0 cxt_0⟩) rfl (by kernel_rfl) rfl fun b1 => ?_)))
 refine Ok.op rfl (OpOk.box (v := .agg ⟨vE xe⟩) (cs := ⟨vE xe⟩) rfl (by kernel_rfl) rfl fun b2 => ?_)
 have hL3 : RepL g (.pair (.str) (.pair (.str) (.int .i64))) [] [] := rfl
 refine Ok.ownNil 36 3 (Ok.op rfl (OpOk.alloc (z := .agg #[.slice none ([] : List (Bs × Bs × Int)).length 0, .int .i64 0]) (cs := #[.slice none ([] : List (Bs × Bs × Int)).length 0, .int .i64 0]) (by kernel_rfl) (by kernel_rfl) rfl fun b4 => ?_))
 refine Ok.nil (Ok.thenN (Ok.seq (Ok.fork [] [] [.blk b4 (.cells #[.slice none ([] : List (Bs × Bs × Int)).length 0, .int .i64 0] 24), .own (.slice none ([] : List (Bs × Bs × Int)).length 0) 36 3 ([] : List (Bs × Bs × Int)).length ([]), .blk b2 (.cells ⟨vE xe⟩ 36), .blk b1 (.cells ⟨vT xt axt_0 cxt_0⟩ 24)] [(0, true), (1, true), (2, true), (3, true), (4, true), (5, true), (7, true)] 6 [(8, false), (9, false), (10, true)] 8 [(6, false), (9, false), (10, true)] (by kernel_rfl) (by kernel_rfl) (.cons_cons _ (.cons_cons _ (.cons_cons _ (.cons_cons _ .slnil)))) (OkM.batch 1 [(2, pv b1 0), (3, pv b2 0), (4, pv b4 0), (6, pv b1 0)] (by kernel_rfl) (OkM.head rfl rfl (show _ = [.blk b4 (.cells #[.slice none ([] : List (Bs × Bs × Int)).length 0, .int .i64 0] 24), .own (.slice none ([] : List (Bs × Bs × Int)).length 0) 36 3 ([] : List (Bs × Bs × Int)).length ([]), .blk b2 (.cells ⟨vE xe⟩ 36), .blk b1 (.cells ⟨vT xt axt_0 cxt_0⟩ 24)] from rfl) (OpQ.step (v := .slice axt_0 xt.1.length cxt_0) (Yields.load 3 rfl rfl Tryz.underlying22 rfl (by kernel_rfl)) rfl rfl (OkM.bat 1 [3, 4] [(7, .slice axt_0 xt.1.length cxt_0), (8, pv b1 1)] ?_)))))))
 refine OkM.head rfl rfl (show _ = [.blk b4 (.cells #[.slice none ([] : List (Bs × Bs × Int)).length 0, .int .i64 0] 24), .own (.slice none ([] : List (Bs × Bs × Int)).length 0) 36 3 ([] : List (Bs × Bs × Int)).length ([]), .blk b2 (.cells ⟨vE xe⟩ 36), .blk b1 (.cells ⟨vT xt axt_0 cxt_0⟩ 24)] from rfl) (OpQ.step (v := .int .i64 xt.2) (Yields.load 3 rfl rfl Tryz.underlying3 rfl (by kernel_rfl)) rfl rfl (OkM.bat 1 [3, 4, 7] [(10, .int .i64 (w6 (xt.2 + 1)))] ?_))
 obtain ⟨h05, h15, h25, hF⟩ := hF
 refine OkM.head rfl rfl (show _ = [.blk b4 (.cells #[.slice none ([] : List (Bs × Bs × Int)).length 0, .int .i64 0] 24), .own (.slice none ([] : List (Bs × Bs × Int)).length 0) 36 3 ([] : List (Bs × Bs × Int)).length ([]), .blk b2 (.cells ⟨vE xe⟩ 36), .blk b1 (.cells ⟨vT xt axt_0 cxt_0⟩ 24)] from rfl) (OpQ.sliceRo (e := .pair (.str) (.pair (.str) (.int .i64))) (l := 0) (h := (w6 (xt.2 + 1))) rfl Tryz.underlying22 (by kernel_rfl) (.inr ⟨rfl, rfl⟩) (.inl ⟨_, _, rfl, rfl⟩) hRxt_0 h05 h15 h25 rfl (xt.1.take (Int.toNat (w6 (xt.2 + 1)))) (by simp) fun a5 c5 hR5 => ?_)
 refine OkM.head rfl rfl (show _ = [.blk b4 (.cells #[.slice none ([] : List (Bs × Bs × Int)).length 0, .int .i64 0] 24), .own (.slice none ([] : List (Bs × Bs × Int)).length 0) 36 3 ([] : List (Bs × Bs × Int)).length ([]), .blk b2 (.cells ⟨vE xe⟩ 36), .blk b1 (.cells ⟨vT xt axt_0 cxt_0⟩ 24)] from rfl) (OpQ.step (v := .agg ⟨vE xe⟩) (Yields.loadAgg 2 3 ⟨vE xe⟩ rfl rfl Tryz.underlying36 rfl (by kernel_rfl) (by kernel_rfl) (by kernel_rfl)) rfl rfl (OkM.nil (Ok.both ?_ ?_)))
 ·replace hF := hF.1
  obtain ⟨hp6, hF⟩ := hF
  refine OkM.tail rfl rfl (OpOk.callH [] _ enr rfl (wcl_c (xt.1.take (Int.toNat (w6 (xt.2 + 1)))) hR5 hp6) rfl fun g7 _ _ hx7 hV7 => ?_)
  obtain ⟨a7_0, c7_0, xs7_0, rfl, hL7_0, rfl⟩ := hV7
  replace hR5 := hR5.mono hx7.1
  replace hL3 := hL3.mono hx7.1
  replace hRxt_0 := hRxt_0.mono hx7.1
  refine OkM.leaf (i := 6) (show _ = [.blk b4 (.cells #[.slice none ([] : List (Bs × Bs × Int)).length 0, .int .i64 0] 24), .own (.slice none ([] : List (Bs × Bs × Int)).length 0) 36 3 ([] : List (Bs × Bs × Int)).length ([]), .blk b2 (.cells ⟨vE xe⟩ 36), .blk b1 (.cells ⟨vT xt axt_0 cxt_0⟩ 24)] from rfl) hx7.1 (.cons _ (.cons_cons _ (.cons_cons _ (.cons_cons _ (.cons_cons _ .slnil))))) ?_
  have hL8 : RepL g7 (.pair (.str) (.pair (.str) (.int .i64))) ((vE xe) : List Value) ([xe] : List (Bs × Bs × Int)) := (RepL.consN (c := (vE xe)) ⟨[sv xe.1], [sv xe.2.1, .int .i64 xe.2.2], rfl, rfl, ⟨[sv xe.2.1], [.int .i64 xe.2.2], rfl, rfl, rfl⟩⟩ rfl)
  refine OkM.tail rfl rfl (OpOk.lit (E := 36) (.pair (.str) (.pair (.str) (.int .i64))) ([xe] : List (Bs × Bs × Int)) ((vE xe) : List Value) (by kernel_rfl) (by kernel_rfl) rfl (by kernel_rfl) hL8 rfl fun b8 => ?_)
  refine OkM.leaf (i := 8) (show _ = [.blk b4 (.cells #[.slice none ([] : List (Bs × Bs × Int)).length 0, .int .i64 0] 24), .own (.slice none ([] : List (Bs × Bs × Int)).length 0) 36 3 ([] : List (Bs × Bs × Int)).length ([]), .blk b2 (.cells ⟨vE xe⟩ 36), .blk b1 (.cells ⟨vT xt axt_0 cxt_0⟩ 24)] from rfl) hx7.1 (.cons _ (.cons _ (.cons_cons _ (.cons_cons _ (.cons_cons _ (.cons_cons _ .slnil)))))) ?_
  obtain ⟨hb9, hF⟩ := hF
  refine OkM.tail rfl rfl (OpOk.append' (e := .pair (.str) (.pair (.str) (.int .i64))) 40 3518437208883 1 0 rfl rfl rfl rfl hL7_0 hL8 Tryz.underlying22 (by kernel_rfl) (by kernel_rfl) (by kernel_rfl) hb9 rfl fun a9 c9 xs9 hL9 => ?_)
  refine OkM.leaf (i := 9) (show _ = [.blk b4 (.cells #[.slice none ([] : List (Bs × Bs × Int)).length 0, .int .i64 0] 24), .own (.slice none ([] : List (Bs × Bs × Int)).length 0) 36 3 ([] : List (Bs × Bs × Int)).length ([]), .blk b2 (.cells ⟨vE xe⟩ 36), .blk b1 (.cells ⟨vT xt axt_0 cxt_0⟩ 24)] from rfl) hx7.1 (.cons _ (.cons _ (.cons_cons _ (.cons_cons _ (.cons_cons _ (.cons_cons _ .slnil)))))) (OkM.bat 1 [4] [(5, .slice a9 ((wclS (xt.1.take (Int.toNat (w6 (xt.2 + 1))))) ++ ([xe] : List (Bs × Bs × Int))).length c9)] ?_)
  refine OkM.nil (Ok.thenN (Ok.cut (fun a W => ∃ gj5 : Ghost, Gext w0 g7 gj5 ∧ ∃ (ax5j5 : Option Addr) (cx5j5 : Nat), Rep gj5 (.slice (.pair (.str) (.pair (.str) (.int .i64)))) [.slice ax5j5 (wbhV0 xt xe).length cx5j5] (wbhV0 xt xe) ∧ StA 27 [(4, pv b4 0), (5, .slice ax5j5 (wbhV0 xt xe).length cx5j5)] a ∧ StW w0 [.blk b4 (.cells #[.slice none ([] : List (Bs × Bs × Int)).length 0, .int .i64 0] 24), .own (.slice none ([] : List (Bs × Bs × Int)).length 0) 36 3 ([] : List (Bs × Bs × Int)).length ([])] gj5 W ∧ wbhj5 xt xe K) ?_ ?_))
  ·
   refine Ok.seq (Ok.region (Ok.bat 3 [4, 5] [(18, .bool (decide ((((wclS (xt.1.take (Int.toNat (w6 (xt.2 + 1))))) ++ ([xe] : List (Bs × Bs × Int))).length : Int) > 50)))] ?_))
   refine Ok.nil (Ok.thenN (Ok.cond (b := decide ((((wclS (xt.1.take (Int.toNat (w6 (xt.2 + 1))))) ++ ([xe] : List (Bs × Bs × Int))).length : Int) > 50)) rfl (fun hc14 => ?_) (fun hc14 => ?_)))
   ·replace hF := hF.1 hc14
    refine Ok.region (Ok.bat 1 [4] [(19, .slice a9 ((wclS (xt.1.take (Int.toNat (w6 (xt.2 + 1))))) ++ ([xe] : List (Bs × Bs × Int))).length c9)] ?_)
    refine Ok.frz 1 rfl hL9 fun g15 hx15 hRf15 => ?_
    replace hL8 := hL8.mono hx15.1
    replace hL3 := hL3.mono hx15.1
    replace hRxt_0 := hRxt_0.mono hx15.1
    obtain ⟨h016, h116, h216, hF⟩ := hF
    refine Ok.op rfl (OpOk.sliceRo (e := .pair (.str) (.pair (.str) (.int .i64))) (l := 1) (h := (((wclS (xt.1.take (Int.toNat (w6 (xt.2 + 1))))) ++ ([xe] : List (Bs × Bs × Int))).length : Int)) rfl Tryz.underlying22 (by kernel_rfl) (.inl ⟨_, _, rfl, rfl⟩) (.inr ⟨rfl, rfl⟩) hRf15 h016 h116 h216 rfl (((wclS (xt.1.take (Int.toNat (w6 (xt.2 + 1))))) ++ ([xe] : List (Bs × Bs × Int))).drop (Int.toNat 1)) (by rw [show ((((wclS (xt.1.take (Int.toNat (w6 (xt.2 + 1))))) ++ ([xe] : List (Bs × Bs × Int))).length : Int)).toNat = ((wclS (xt.1.take (Int.toNat (w6 (xt.2 + 1))))) ++ ([xe] : List (Bs × Bs × Int))).length from Int.toNat_natCast _, List.take_length]) fun a16 c16 hR16 => ?_)
    refine Ok.bat 1 [4] [(5, .slice a16 (((wclS (xt.1.take (Int.toNat (w6 (xt.2 + 1))))) ++ ([xe] : List (Bs × Bs × Int))).drop (Int.toNat 1)).length c16)] ?_
    refine Ok.nil (Ok.thenN (Ok.reval 5 rfl (show (.slice a16 (((wclS (xt.1.take (Int.toNat (w6 (xt.2 + 1))))) ++ ([xe] : List (Bs × Bs × Int))).drop (Int.toNat 1)).length c16 : Value) = .slice a16 (wbhV0 xt xe).length c16 from congrArg (fun l : List (Bs × Bs × Int) => Value.slice a16 l.length c16) ((if_t hc14).symm)) ?_))
    exact fun a W hA hW => ⟨g15, hx15, a16, c16, (Eq.mp (congrArg (fun l : List (Bs × Bs × Int) => Rep g15 (.slice (.pair (.str) (.pair (.str) (.int .i64)))) [.slice a16 l.length c16] l) ((if_t hc14).symm)) hR16), hA.sub (by kernel_rfl), hW.sub (.cons _ (.cons_cons _ (.cons_cons _ (.cons _ (.cons _ .slnil))))), hF⟩
   ·replace hF := hF.2 hc14
    refine Ok.skip (Ok.thenN (Ok.frz 1 rfl hL9 fun g17 hx17 hRf17 => ?_))
    replace hL8 := hL8.mono hx17.1
    replace hL3 := hL3.mono hx17.1
    replace hRxt_0 := hRxt_0.mono hx17.1
    refine Ok.reval 5 rfl (show (.slice a9 ((wclS (xt.1.take (Int.toNat (w6 (xt.2 + 1))))) ++ ([xe] : List (Bs × Bs × Int))).length c9 : Value) = .slice a9 (wbhV0 xt xe).length c9 from congrArg (fun l : List (Bs × Bs × Int) => Value.slice a9 l.length c9) ((if_f hc14).symm)) ?_
    exact fun a W hA hW => ⟨g17, hx17, a9, c9, (Eq.mp (congrArg (fun l : List (Bs × Bs × Int) => Rep g17 (.slice (.pair (.str) (.pair (.str) (.int .i64)))) [.slice a9 l.length c9] l) ((if_f hc14).symm)) hRf17), hA.sub (by kernel_rfl), hW.sub (.cons _ (.cons_cons _ (.cons_cons _ (.cons _ (.cons _ .slnil))))), hF⟩
  ·
   clear hF
   rintro a W ⟨gj5, hxj5, ax5j5, cx5j5, hRx5j5, hA, hW, hF⟩
   refine (?_ : Ok _ _ _ _ _ _) a W hA hW
   clear hA hW
   replace hL3 := hL3.mono hxj5.1
   refine Ok.seq (Ok.region (Ok.bat 1 [4, 5] [(21, .slice ax5j5 (wbhV0 xt xe).length cx5j5)] ?_))
   obtain ⟨hp11, hF⟩ := hF
   refine Ok.op rfl (OpOk.callH [] _ enr rfl (wcl_c (wbhV0 xt xe) hRx5j5 hp11) rfl fun g12 _ _ hx12 hV12 => ?_)
   obtain ⟨a12_0, c12_0, xs12_0, rfl, hL12_0, rfl⟩ := hV12
   replace hRx5j5 := hRx5j5.mono hx12.1
   replace hL3 := hL3.mono hx12.1
   refine Ok.bat 4 [4] [(26, .agg #[.slice a12_0 (wclS (wbhV0 xt xe)).length c12_0, .int .i64 (w6 (((wbhV0 xt xe).length : Int) - 1))])] ?_
   refine Ok.op rfl (OpOk.sto (k := 2) (v := .agg #[.slice a12_0 (wclS (wbhV0 xt xe)).length c12_0, .int .i64 (w6 (((wbhV0 xt xe).length : Int) - 1))]) 1 #[.slice a12_0 (wclS (wbhV0 xt xe)).length c12_0, .int .i64 (w6 (((wbhV0 xt xe).length : Int) - 1))] rfl rfl rfl ?_)
   refine Ok.nil (Ok.thenN (Ok.ret (Ok.frz 0 rfl hL12_0 fun g13 hx13 hRf13 => ?_)))
   replace hL3 := hL3.mono hx13.1
   exact Ok.resP (vs := [.agg #[.slice a12_0 (wclS (wbhV0 xt xe)).length c12_0, .int .i64 (w6 (((wbhV0 xt xe).length : Int) - 1))]]) [] [] (by decide) rfl (.inl rfl) rfl (.cons (.cellAgg 0 2 #[.slice a12_0 (wclS (wbhV0 xt xe)).length c12_0, .int .i64 (w6 (((wbhV0 xt xe).length : Int) - 1))] rfl rfl Tryz.underlying24 rfl (by kernel_rfl) (by kernel_rfl) (by kernel_rfl)) .nil) (((hx7.trans hxj5).trans hx12).trans hx13) ⟨((wclS (wbhV0 xt xe)), w6 (((wbhV0 xt xe).length : Int) - 1)), a12_0, c12_0, rfl, hRf13, rfl, hF⟩
 ·replace hF := hF.2
  have hL18 : RepL g (.pair (.str) (.pair (.str) (.int .i64))) ((vE xe) : List Value) ([xe] : List (Bs × Bs × Int)) := (RepL.consN (c := (vE xe)) ⟨[sv xe.1], [sv xe.2.1, .int .i64 xe.2.2], rfl, rfl, ⟨[sv xe.2.1], [.int .i64 xe.2.2], rfl, rfl, rfl⟩⟩ rfl)
  refine OkM.tail rfl rfl (OpOk.lit (E := 36) (.pair (.str) (.pair (.str) (.int .i64))) ([xe] : List (Bs × Bs × Int)) ((vE xe) : List Value) (by kernel_rfl) (by kernel_rfl) rfl (by kernel_rfl) hL18 rfl fun b18 => ?_)
  refine OkM.leaf (i := 8) (show _ = [.blk b4 (.cells #[.slice none ([] : List (Bs × Bs × Int)).length 0, .int .i64 0] 24), .own (.slice none ([] : List (Bs × Bs × Int)).length 0) 36 3 ([] : List (Bs × Bs × Int)).length ([]), .blk b2 (.cells ⟨vE xe⟩ 36), .blk b1 (.cells ⟨vT xt axt_0 cxt_0⟩ 24)] from rfl) (Gle.refl _) (.cons _ (.cons_cons _ (.cons_cons _ (.cons_cons _ (.cons_cons _ .slnil))))) ?_
  obtain ⟨hp19, hF⟩ := hF
  refine OkM.tail rfl rfl (OpOk.callH [] _ enr rfl (wcl_c (xt.1.take (Int.toNat (w6 (xt.2 + 1)))) hR5 hp19) rfl fun g20 _ _ hx20 hV20 => ?_)
  obtain ⟨a20_0, c20_0, xs20_0, rfl, hL20_0, rfl⟩ := hV20
  replace hR5 := hR5.mono hx20.1
  replace hL18 := hL18.mono hx20.1
  replace hL3 := hL3.mono hx20.1
  replace hRxt_0 := hRxt_0.mono hx20.1
  refine OkM.leaf (i := 6) (show _ = [.blk b4 (.cells #[.slice none ([] : List (Bs × Bs × Int)).length 0, .int .i64 0] 24), .own (.slice none ([] : List (Bs × Bs × Int)).length 0) 36 3 ([] : List (Bs × Bs × Int)).length ([]), .blk b2 (.cells ⟨vE xe⟩ 36), .blk b1 (.cells ⟨vT xt axt_0 cxt_0⟩ 24)] from rfl) hx20.1 (.cons _ (.cons _ (.cons_cons _ (.cons_cons _ (.cons_cons _ (.cons_cons _ .slnil)))))) ?_
  obtain ⟨hb21, hF⟩ := hF
  refine OkM.tail rfl rfl (OpOk.append' (e := .pair (.str) (.pair (.str) (.int .i64))) 40 3518437208883 0 1 rfl rfl rfl rfl hL20_0 hL18 Tryz.underlying22 (by kernel_rfl) (by kernel_rfl) (by kernel_rfl) hb21 rfl fun a21 c21 xs21 hL21 => ?_)
  refine OkM.leaf (i := 9) (show _ = [.blk b4 (.cells #[.slice none ([] : List (Bs × Bs × Int)).length 0, .int .i64 0] 24), .own (.slice none ([] : List (Bs × Bs × Int)).length 0) 36 3 ([] : List (Bs × Bs × Int)).length ([]), .blk b2 (.cells ⟨vE xe⟩ 36), .blk b1 (.cells ⟨vT xt axt_0 cxt_0⟩ 24)] from rfl) hx20.1 (.cons _ (.cons _ (.cons_cons _ (.cons_cons _ (.cons_cons _ (.cons_cons _ .slnil)))))) (OkM.bat 1 [4] [(5, .slice a21 ((wclS (xt.1.take (Int.toNat (w6 (xt.2 + 1))))) ++ ([xe] : List (Bs × Bs × Int))).length c21)] ?_)
  refine OkM.nil (Ok.thenN (Ok.cut (fun a W => ∃ gj5 : Ghost, Gext w0 g20 gj5 ∧ ∃ (ax5j5 : Option Addr) (cx5j5 : Nat), Rep gj5 (.slice (.pair (.str) (.pair (.str) (.int .i64)))) [.slice ax5j5 (wbhV0 xt xe).length cx5j5] (wbhV0 xt xe) ∧ StA 27 [(4, pv b4 0), (5, .slice ax5j5 (wbhV0 xt xe).length cx5j5)] a ∧ StW w0 [.blk b4 (.cells #[.slice none ([] : List (Bs × Bs × Int)).length 0, .int .i64 0] 24), .own (.slice none ([] : List (Bs × Bs × Int)).length 0) 36 3 ([] : List (Bs × Bs × Int)).length ([])] gj5 W ∧ wbhj5y xt xe K) ?_ ?_))
  ·
   refine Ok.seq (Ok.region (Ok.bat 3 [4, 5] [(18, .bool (decide ((((wclS (xt.1.take (Int.toNat (w6 (xt.2 + 1))))) ++ ([xe] : List (Bs × Bs × Int))).length : Int) > 50)))] ?_))
   refine Ok.nil (Ok.thenN (Ok.cond (b := decide ((((wclS (xt.1.take (Int.toNat (w6 (xt.2 + 1))))) ++ ([xe] : List (Bs × Bs × Int))).length : Int) > 50)) rfl (fun hc26 => ?_) (fun hc26 => ?_)))
   ·replace hF := hF.1 hc26
    refine Ok.region (Ok.bat 1 [4] [(19, .slice a21 ((wclS (xt.1.take (Int.toNat (w6 (xt.2 + 1))))) ++ ([xe] : List (Bs × Bs × Int))).length c21)] ?_)
    refine Ok.frz 0 rfl hL21 fun g27 hx27 hRf27 => ?_
    replace hL18 := hL18.mono hx27.1
    replace hL3 := hL3.mono hx27.1
    replace hRxt_0 := hRxt_0.mono hx27.1
    obtain ⟨h028, h128, h228, hF⟩ := hF
    refine Ok.op rfl (OpOk.sliceRo (e := .pair (.str) (.pair (.str) (.int .i64))) (l := 1) (h := (((wclS (xt.1.take (Int.toNat (w6 (xt.2 + 1))))) ++ ([xe] : List (Bs × Bs × Int))).length : Int)) rfl Tryz.underlying22 (by kernel_rfl) (.inl ⟨_, _, rfl, rfl⟩) (.inr ⟨rfl, rfl⟩) hRf27 h028 h128 h228 rfl (((wclS (xt.1.take (Int.toNat (w6 (xt.2 + 1))))) ++ ([xe] : List (Bs × Bs × Int))).drop (Int.toNat 1)) (by rw [show ((((wclS (xt.1.take (Int.toNat (w6 (xt.2 + 1))))) ++ ([xe] : List (Bs × Bs × Int))).length : Int)).toNat = ((wclS (xt.1.take (Int.toNat (w6 (xt.2 + 1))))) ++ ([xe] : List (Bs × Bs × Int))).length from Int.toNat_natCast _, List.take_length]) fun a28 c28 hR28 => ?_)
    refine Ok.bat 1 [4] [(5, .slice a28 (((wclS (xt.1.take (Int.toNat (w6 (xt.2 + 1))))) ++ ([xe] : List (Bs × Bs × Int))).drop (Int.toNat 1)).length c28)] ?_
    refine Ok.nil (Ok.thenN (Ok.reval 5 rfl (show (.slice a28 (((wclS (xt.1.take (Int.toNat (w6 (xt.2 + 1))))) ++ ([xe] : List (Bs × Bs × Int))).drop (Int.toNat 1)).length c28 : Value) = .slice a28 (wbhV0 xt xe).length c28 from congrArg (fun l : List (Bs × Bs × Int) => Value.slice a28 l.length c28) ((if_t hc26).symm)) ?_))
    exact fun a W hA hW => ⟨g27, hx27, a28, c28, (Eq.mp (congrArg (fun l : List (Bs × Bs × Int) => Rep g27 (.slice (.pair (.str) (.pair (.str) (.int .i64)))) [.slice a28 l.length c28] l) ((if_t hc26).symm)) hR28), hA.sub (by kernel_rfl), hW.sub (.cons _ (.cons_cons _ (.cons_cons _ (.cons _ (.cons _ .slnil))))), hF⟩
   ·replace hF := hF.2 hc26
    refine Ok.skip (Ok.thenN (Ok.frz 0 rfl hL21 fun g29 hx29 hRf29 => ?_))
    replace hL18 := hL18.mono hx29.1
    replace hL3 := hL3.mono hx29.1
    replace hRxt_0 := hRxt_0.mono hx29.1
    refine Ok.reval 5 rfl (show (.slice a21 ((wclS (xt.1.take (Int.toNat (w6 (xt.2 + 1))))) ++ ([xe] : List (Bs × Bs × Int))).length c21 : Value) = .slice a21 (wbhV0 xt xe).length c21 from congrArg (fun l : List (Bs × Bs × Int) => Value.slice a21 l.length c21) ((if_f hc26).symm)) ?_
    exact fun a W hA hW => ⟨g29, hx29, a21, c21, (Eq.mp (congrArg (fun l : List (Bs × Bs × Int) => Rep g29 (.slice (.pair (.str) (.pair (.str) (.int .i64)))) [.slice a21 l.length c21] l) ((if_f hc26).symm)) hRf29), hA.sub (by kernel_rfl), hW.sub (.cons _ (.cons_cons _ (.cons_cons _ (.cons _ (.cons _ .slnil))))), hF⟩
  ·
   clear hF
   rintro a W ⟨gj5, hxj5, ax5j5, cx5j5, hRx5j5, hA, hW, hF⟩
   refine (?_ : Ok _ _ _ _ _ _) a W hA hW
   clear hA hW
   replace hL3 := hL3.mono hxj5.1
   refine Ok.seq (Ok.region (Ok.bat 1 [4, 5] [(21, .slice ax5j5 (wbhV0 xt xe).length cx5j5)] ?_))
   obtain ⟨hp23, hF⟩ := hF
   refine Ok.op rfl (OpOk.callH [] _ enr rfl (wcl_c (wbhV0 xt xe) hRx5j5 hp23) rfl fun g24 _ _ hx24 hV24 => ?_)
   obtain ⟨a24_0, c24_0, xs24_0, rfl, hL24_0, rfl⟩ := hV24
   replace hRx5j5 := hRx5j5.mono hx24.1
   replace hL3 := hL3.mono hx24.1
   refine Ok.bat 4 [4] [(26, .agg #[.slice a24_0 (wclS (wbhV0 xt xe)).length c24_0, .int .i64 (w6 (((wbhV0 xt xe).length : Int) - 1))])] ?_
   refine Ok.op rfl (OpOk.sto (k := 2) (v := .agg #[.slice a24_0 (wclS (wbhV0 xt xe)).length c24_0, .int .i64 (w6 (((wbhV0 xt xe).length : Int) - 1))]) 1 #[.slice a24_0 (wclS (wbhV0 xt xe)).length c24_0, .int .i64 (w6 (((wbhV0 xt xe).length : Int) - 1))] rfl rfl rfl ?_)
   refine Ok.nil (Ok.thenN (Ok.ret (Ok.frz 0 rfl hL24_0 fun g25 hx25 hRf25 => ?_)))
   replace hL3 := hL3.mono hx25.1
   exact Ok.resP (vs := [.agg #[.slice a24_0 (wclS (wbhV0 xt xe)).length c24_0, .int .i64 (w6 (((wbhV0 xt xe).length : Int) - 1))]]) [] [] (by decide) rfl (.inl rfl) rfl (.cons (.cellAgg 0 2 #[.slice a24_0 (wclS (wbhV0 xt xe)).length c24_0, .int .i64 (w6 (((wbhV0 xt xe).length : Int) - 1))] rfl rfl Tryz.underlying24 rfl (by kernel_rfl) (by kernel_rfl) (by kernel_rfl)) .nil) (((hx20.trans hxj5).trans hx24).trans hx25) ⟨((wclS (wbhV0 xt xe)), w6 (((wbhV0 xt xe).length : Int) - 1)), a24_0, c24_0, rfl, hRf25, rfl, hF⟩
def behS0 (t : JTr) (e : JEn) : JTr := (wbhV0 t e, w6 (((wbhV0 t e).length : Int) - 1))
noncomputable def behS : JTr → JEn → JTr := Classical.choose (rigid behS0)
theorem behS_eq : behS = behS0 := Classical.choose_spec (rigid behS0)
theorem wbh_F (t : JTr) (e : JEn) (hp : behP t e) : wbhF t e (fun r => r = behS t e) := by
 rw [behS_eq]
 obtain ⟨⟨h1, h2⟩, h3⟩ := hp
 have ew : w6 (t.2 + 1) = t.2 + 1 := w64 (by omega)
 have hB : ((wclS (t.1.take (Int.toNat (w6 (t.2 + 1))))) ++ [e]).length = Int.toNat t.2 + 2 := by
  rw [ew, show Int.toNat (t.2 + 1) = Int.toNat t.2 + 1 by omega]
  unfold wclS
  rw [List.length_append, List.length_take, List.length_singleton]; omega
 have hV : wclP (wbhV0 t e) := by
  unfold wbhV0
  split
  ·rename_i hc
   have hc := of_decide_eq_true hc
   refine ⟨?_, ?_⟩
   ·intro h0
    have := congrArg List.length h0
    rw [List.length_drop, List.length_nil, hB] at this
    rw [hB] at hc
    have : Int.toNat 1 = 1 := rfl
    omega
   ·rw [List.length_drop, hB]; omega
  ·exact ⟨by simp, by rw [hB]; omega⟩
 have hc : wclP (t.1.take (Int.toNat (w6 (t.2 + 1)))) := by
  rw [ew]
  refine ⟨?_, by rw [List.length_take]; omega⟩
  intro h0
  have := congrArg List.length h0
  rw [List.length_take, List.length_nil] at this
  omega
 have j5 : wbhj5 t e (fun r => r = behS0 t e) := ⟨hV, rfl⟩
 have j5y : wbhj5y t e (fun r => r = behS0 t e) := ⟨hV, rfl⟩
 unfold wbhF
 simp only [hB]
 exact ⟨by omega, by omega, by omega, ⟨hc, by omega, fun _ => ⟨by omega, by omega, by omega, j5⟩, fun _ => j5⟩, hc, by omega, fun _ => ⟨by omega, by omega, by omega, j5y⟩, fun _ => j5y⟩
theorem wbh_c {g : Ghost} {axt_0 : Option Addr} {cxt_0 : Nat} (xt : (List (Bs × Bs × Int)) × Int) (xe : Bs × Bs × Int) (hRxt_0 : Rep g (.slice (.pair (.str) (.pair (.str) (.int .i64)))) [.slice axt_0 xt.1.length cxt_0] xt.1)  (hp : behP xt xe) : CallsH Tryz.prog 20 #[.agg ⟨vT xt axt_0 cxt_0⟩, .agg ⟨vE xe⟩] g [] (fun g' H' v => ∃ (ar0_0 : Option Addr) (cr0_0 : Nat), v = .agg ⟨vT (behS xt xe) ar0_0 cr0_0⟩ ∧ Rep g' (.slice (.pair (.str) (.pair (.str) (.int .i64)))) [.slice ar0_0 (behS xt xe).1.length cr0_0] (behS xt xe).1 ∧ H' = []) :=
 (wbh_ok xt xe hRxt_0 _ (wbh_F xt xe hp)).mono (by rintro g' H' v _ ⟨r0, ar0_0, cr0_0, rfl, hRr0_0, rfl, hK⟩; subst hK; exact ⟨ar0_0, cr0_0, rfl, hRr0_0, rfl⟩)
def wbaF (xs : Bs) (K : Bs → Prop) : Prop :=
 cutP xs ([35] : Bs) ∧ K (cutS xs ([35] : Bs)).1
theorem wba_ok {g : Ghost} (xs : Bs) (hG0 : SomeInt g 0) (K : Bs → Prop)
  (hF : wbaF xs K) : CallsH Tryz.prog 19 #[sv xs] g [] (fun g' H' v => ∃ (r0 : Bs), v = sv r0 ∧ H' = [] ∧ K r0) := by
 refine CallsH.enter 10 [(0, sv xs)] Tryz.func19 rfl (by kernel_rfl) (by kernel_rfl) (by kernel_rfl) fun w0 => ?_
 refine Ok.seq (Ok.region (Ok.batch 1 [(0, sv xs)] (by kernel_rfl) (Ok.nil (Ok.thenN (Ok.seq (Ok.region (Ok.batch 1 [(4, sv xs)] (by kernel_rfl) ?_)))))))
 obtain ⟨hp1, hF⟩ := hF
 refine Ok.op rfl (OpOk.callG (v := .tuple #[sv ((cutS xs ([35] : Bs)).1), sv ((cutS xs ([35] : Bs)).2.1), .bool (cutS xs ([35] : Bs)).2.2]) enr (fun W hW => cut_c xs ([35] : Bs) (hG0.mono hW.sees) hp1) rfl ?_)
 refine Ok.batch 5 [(0, sv ((cutS xs ([35] : Bs)).1))] (by kernel_rfl) (Ok.nil (Ok.thenN (Ok.seq (Ok.region (Ok.batch 2 [(2, sv ((cutS xs ([35] : Bs)).1))] (by kernel_rfl) (Ok.nil (Ok.thenN (Ok.ret ?_))))))))
 exact Ok.resH (vs := [sv ((cutS xs ([35] : Bs)).1)]) (.inl rfl) rfl (.cons (.tmp rfl) .nil) (Gext.refl w0 g) ⟨(cutS xs ([35] : Bs)).1, rfl, rfl, hF⟩
def barS (s : Bs) : Bs := (cutS s [35]).1
def barP (s : Bs) : Prop := cutP s [35]
theorem wba_F (s : Bs) (hp : barP s) : wbaF s (fun r => r = barS s) := ⟨hp, rfl⟩
theorem wba_c {g : Ghost} (xs : Bs) (hG0 : SomeInt g 0)  (hp : barP xs) : CallsG Tryz.prog 19 #[sv xs] g (sv (barS xs)) :=
 (wba_ok xs hG0 _ (wba_F xs hp)).gives (by rintro g' H' v _ ⟨r0, rfl, rfl, hK⟩; subst hK; rfl)
def wreF (xt : (List (Bs × Bs × Int)) × Int) (xref : Bs) (K : Bs → Int → Prop) : Prop :=
 ((((chkT xt) != 0)) = true → K ([] : Bs) (chkT xt)) ∧ ((((chkT xt) != 0)) = false → hereP xt ∧ K (resS (hereS xt).1 xref).1 (resS (hereS xt).1 xref).2)
theorem wre_ok {g : Ghost} {axt_0 : Option Addr} {cxt_0 : Nat} (xt : (List (Bs × Bs × Int)) × Int) (xref : Bs) (hRxt_0 : Rep g (.slice (.pair (.str) (.pair (.str) (.int .i64)))) [.slice axt_0 xt.1.length cxt_0] xt.1) (hG0 : SomeInt g 0) (hG1 : GlobL g 1 (.int .u64) DPow) (hG2 : SomeIf g 2) (hG3 : SomeIf g 3) (hG4 : GlobL g 4 (.int .u8) DFirst) (hG5 : GlobL g 5 (.pair (.int .u8) (.int .u8)) DAcc) (K : Bs → Int → Prop)
  (hF : wreF xt xref K) : CallsH Tryz.prog 16 #[.agg ⟨vT xt axt_0 cxt_0⟩, sv xref] g [] (fun g' H' v => ∃ (r0 : Bs), ∃ (r1 : Int), v = .tuple #[sv r0, .int .i64 r1] ∧ H' = [] ∧ K r0 r1) := by
 refine CallsH.enter 19 [(0, .agg ⟨vT xt axt_0 cxt_0⟩), (1, sv xref)] Tryz.func16 rfl (by kernel_rfl) (by kernel_rfl) (by kernel_rfl) fun w0 => ?_
 refine Ok.seq (Ok.region (Ok.op rfl (OpOk.box (v := .agg ⟨vT xt axt_0 cxt_0⟩) (cs := ⟨vT xt axt_0 cxt_0⟩) rfl (by kernel_rfl) rfl fun b1 => ?_)))
 refine Ok.batch 2 [(1, sv xref), (2, pv b1 0)] (by kernel_rfl) (Ok.nil (Ok.thenN (Ok.seq (Ok.seq (Ok.region (Ok.op rfl (OpOk.step (v := .agg ⟨vT xt axt_0 cxt_0⟩) (Yields.loadAgg 0 2 ⟨vT xt axt_0 cxt_0⟩ rfl rfl Tryz.underlying24 rfl (by kernel_rfl) (by kernel_rfl) (by kernel_rfl)) rfl rfl (Ok.op rfl (OpOk.callG (v := .int .i64 (chkT xt)) enr (fun W hW => wck_c xt (hRxt_0.mono hW.sees) (hG0.mono hW.sees) (hG1.mono hW.sees) (hG2.mono hW.sees) (hG3.mono hW.sees) (hG4.mono hW.sees) (hG5.mono hW.sees)) rfl ?_)))))))))
 refine Ok.bat 1 [1, 2] [(6, .int .i64 (chkT xt))] ?_
 refine Ok.nil (Ok.thenN (Ok.seq (Ok.region (Ok.bat 2 [1, 2, 6] [(10, .bool ((chkT xt) != 0))] ?_))))
 refine Ok.nil (Ok.thenN (Ok.cond (b := ((chkT xt) != 0)) rfl (fun hc2 => ?_) (fun hc2 => ?_)))
 ·replace hF := hF.1 hc2
  refine Ok.seq (Ok.region (Ok.batch 3 [(4, sv ([] : Bs)), (5, .int .i64 (chkT xt))] (by kernel_rfl) (Ok.nil (Ok.thenN (Ok.ret (Ok.thenR ?_))))))
  exact Ok.resP (vs := [sv ([] : Bs), .int .i64 (chkT xt)]) [] [] (by decide) rfl (.inl rfl) rfl (.cons (.tmp rfl) (.cons (.tmp rfl) .nil)) (Gext.refl w0 g) ⟨([] : Bs), (chkT xt), rfl, rfl, hF⟩
 ·replace hF := hF.2 hc2
  refine Ok.skip (Ok.thenN (Ok.seq (Ok.region (Ok.op rfl (OpOk.step (v := .agg ⟨vT xt axt_0 cxt_0⟩) (Yields.loadAgg 0 2 ⟨vT xt axt_0 cxt_0⟩ rfl rfl Tryz.underlying24 rfl (by kernel_rfl) (by kernel_rfl) (by kernel_rfl)) rfl rfl ?_)))))
  obtain ⟨hp3, hF⟩ := hF
  refine Ok.op rfl (OpOk.callG (v := .agg ⟨vE (hereS xt)⟩) enr (fun W hW => whr_c xt (hRxt_0.mono hW.sees) hp3) rfl ?_)
  refine Ok.batch 2 [(14, sv ((hereS xt).1)), (15, sv xref)] (by kernel_rfl) (Ok.op rfl (OpOk.callG (v := .tuple #[sv ((resS (hereS xt).1 xref).1), .int .i64 (resS (hereS xt).1 xref).2]) enr (fun W hW => ures_c (hereS xt).1 xref (hG0.mono hW.sees) (hG1.mono hW.sees) (hG2.mono hW.sees) (hG3.mono hW.sees) (hG4.mono hW.sees) (hG5.mono hW.sees)) rfl ?_))
  refine Ok.batch 4 [(4, sv ((resS (hereS xt).1 xref).1)), (5, .int .i64 (resS (hereS xt).1 xref).2)] (by kernel_rfl) (Ok.nil (Ok.thenN (Ok.ret ?_)))
  exact Ok.resP (vs := [sv ((resS (hereS xt).1 xref).1), .int .i64 (resS (hereS xt).1 xref).2]) [] [] (by decide) rfl (.inl rfl) rfl (.cons (.tmp rfl) (.cons (.tmp rfl) .nil)) (Gext.refl w0 g) ⟨(resS (hereS xt).1 xref).1, (resS (hereS xt).1 xref).2, rfl, rfl, hF⟩
def rvS0 (t : JTr) (r : Bs) : Bs × Int := if (chkT t != 0) = true then ([], chkT t) else resS (hereS t).1 r
noncomputable def rvS : JTr → Bs → Bs × Int := Classical.choose (rigid rvS0)
theorem rvS_eq : rvS = rvS0 := Classical.choose_spec (rigid rvS0)
theorem wre_F (t : JTr) (r : Bs) : wreF t r (fun a b => (a, b) = rvS t r) := by
 rw [rvS_eq]
 unfold rvS0
 refine ⟨fun h => by rw [if_t h], fun h => ?_⟩
 rw [if_f h]
 exact ⟨(chk_zero (by simpa using h)).1, rfl⟩
theorem wre_c {g : Ghost} {axt_0 : Option Addr} {cxt_0 : Nat} (xt : (List (Bs × Bs × Int)) × Int) (xref : Bs) (hRxt_0 : Rep g (.slice (.pair (.str) (.pair (.str) (.int .i64)))) [.slice axt_0 xt.1.length cxt_0] xt.1) (hG0 : SomeInt g 0) (hG1 : GlobL g 1 (.int .u64) DPow) (hG2 : SomeIf g 2) (hG3 : SomeIf g 3) (hG4 : GlobL g 4 (.int .u8) DFirst) (hG5 : GlobL g 5 (.pair (.int .u8) (.int .u8)) DAcc)  : CallsG Tryz.prog 16 #[.agg ⟨vT xt axt_0 cxt_0⟩, sv xref] g (.tuple #[sv ((rvS xt xref).1), .int .i64 (rvS xt xref).2]) :=
 (wre_ok xt xref hRxt_0 hG0 hG1 hG2 hG3 hG4 hG5 _ (wre_F xt xref)).gives (by rintro g' H' v _ ⟨r0, r1, rfl, rfl, hK⟩; obtain ⟨rfl, rfl⟩ : r0 = (rvS xt xref).1 ∧ r1 = (rvS xt xref).2 := ⟨congrArg (fun z => z.1) hK, congrArg (fun z => z.2) hK⟩; rfl)
theorem rv_ok {t : JTr} {r : Bs} (h : (rvS t r).2 = 0) : chkT t = 0 ∧ rvS t r = resS (hereS t).1 r ∧ (resS (hereS t).1 r).2 = 0 := by
 rw [rvS_eq] at h ⊢
 unfold rvS0 at h ⊢
 split at h
 ·rename_i h1
  have h : chkT t = 0 := h
  rw [h] at h1; cases h1
 ·rename_i h1
  rw [if_neg h1]
  exact ⟨by simpa using h1, rfl, h⟩
def wldV0 (xt : (List (Bs × Bs × Int)) × Int) (xref : Bs) : Bool :=
 ((!(scontS xref ([35] : Bs))) || (!((barS (rvS xt xref).1) == (barS (hereS xt).1))))
def wldj15 (xt : (List (Bs × Bs × Int)) × Int) (xref : Bs) (K : ((List (Bs × Bs × Int)) × Int) → Int → Prop) (x8j15 : Int) : Prop :=
 ((decide (x8j15 > 1000000)) = true → K ([], 0) 2) ∧ ((decide (x8j15 > 1000000)) = false → behP xt ((rvS xt xref).1, ([] : Bs), x8j15) ∧ K (behS xt ((rvS xt xref).1, ([] : Bs), x8j15)) 0)
def wldl24b (xt : (List (Bs × Bs × Int)) × Int) (xref : Bs) (K : ((List (Bs × Bs × Int)) × Int) → Int → Prop) (x8l24 : Int) (x39l24 : Int) (C24 : Int → Int → Prop) : Prop :=
 ((decide (x39l24 < (xt.1.length : Int))) = true → (0 : Int) ≤ x39l24 ∧ Int.toNat x39l24 < xt.1.length ∧ C24 (if x8l24 < (w6 ((xt.1.getD (Int.toNat x39l24) default).2.2 + 1)) then (w6 ((xt.1.getD (Int.toNat x39l24) default).2.2 + 1)) else x8l24) (w6 (x39l24 + 1))) ∧ ((decide (x39l24 < (xt.1.length : Int))) = false → wldj15 xt xref K x8l24)
def wldl24 (xt : (List (Bs × Bs × Int)) × Int) (xref : Bs) (K : ((List (Bs × Bs × Int)) × Int) → Int → Prop) : Nat → Int → Int → Prop
 | 0, _, _ => False
 | k + 1, x8l24, x39l24 => wldl24b xt xref K x8l24 x39l24 (wldl24 xt xref K k)
def wldj16 (xt : (List (Bs × Bs × Int)) × Int) (xref : Bs) (K : ((List (Bs × Bs × Int)) × Int) → Int → Prop) : Prop :=
 (((wldV0 xt xref)) = true → ∃ k, wldl24 xt xref K k 0 0) ∧ (((wldV0 xt xref)) = false → wldj15 xt xref K (hereS xt).2.2)
def wldF (xt : (List (Bs × Bs × Int)) × Int) (xref : Bs) (K : ((List (Bs × Bs × Int)) × Int) → Int → Prop) : Prop :=
 ((((rvS xt xref).2 != 0)) = true → K ([], 0) (rvS xt xref).2) ∧ ((((rvS xt xref).2 != 0)) = false → hereP xt ∧ scontP xref ([35] : Bs) ∧ ((!(scontS xref ([35] : Bs))) = true → wldj16 xt xref K) ∧ ((!(scontS xref ([35] : Bs))) = false → barP (rvS xt xref).1 ∧ hereP xt ∧ barP (hereS xt).1 ∧ wldj16 xt xref K))
theorem wld_ok {g : Ghost} {axt_0 : Option Addr} {cxt_0 : Nat} (xt : (List (Bs × Bs × Int)) × Int) (xref : Bs) (hRxt_0 : Rep g (.slice (.pair (.str) (.pair (.str) (.int .i64)))) [.slice axt_0 xt.1.length cxt_0] xt.1) (hG0 : SomeInt g 0) (hG1 : GlobL g 1 (.int .u64) DPow) (hG2 : SomeIf g 2) (hG3 : SomeIf g 3) (hG4 : GlobL g 4 (.int .u8) DFirst) (hG5 : GlobL g 5 (.pair (.int .u8) (.int .u8)) DAcc) (K : ((List (Bs × Bs × Int)) × Int) → Int → Prop)
  (hF : wldF xt xref K) : CallsH Tryz.prog 5 #[.agg ⟨vT xt axt_0 cxt_0⟩, sv xref] g [] (fun g' H' v => ∃ (r0 : (List (Bs × Bs × Int)) × Int), ∃ (r1 : Int), ∃ (ar0_0 : Option Addr) (cr0_0 : Nat), v = .tuple #[.agg ⟨vT r0 ar0_0 cr0_0⟩, .int .i64 r1] ∧ Rep g' (.slice (.pair (.str) (.pair (.str) (.int .i64)))) [.slice ar0_0 r0.1.length cr0_0] r0.1 ∧ H' = [] ∧ K r0 r1) := by
 refine CallsH.enter 57 [(0, .agg ⟨vT xt axt_0 cxt_0⟩), (1, sv xref)] Tryz.func5 rfl (by kernel_rfl) (by kernel_rfl) (by kernel_rfl) fun w0 => ?_
 refine Ok.seq (Ok.region (Ok.op rfl (OpOk.box (v := .agg ⟨vT xt axt_0 cxt_0⟩) (cs := ⟨vT xt axt_0 cxt_0⟩) rfl (by kernel_rfl) rfl fun b1 => ?_)))
 refine Ok.op rfl (OpOk.alloc (z := .agg #[.slice none 0 0, .int .i64 0]) (cs := #[.slice none 0 0, .int .i64 0]) (by kernel_rfl) (by kernel_rfl) rfl fun b2 => ?_)
 refine Ok.batch 1 [(1, sv xref), (2, pv b1 0), (4, pv b2 0)] (by kernel_rfl) (Ok.nil (Ok.thenN (Ok.seq (Ok.region (Ok.op rfl (OpOk.step (v := .agg ⟨vT xt axt_0 cxt_0⟩) (Yields.loadAgg 1 2 ⟨vT xt axt_0 cxt_0⟩ rfl rfl Tryz.underlying24 rfl (by kernel_rfl) (by kernel_rfl) (by kernel_rfl)) rfl rfl (Ok.bat 1 [1, 2, 4] [(12, .agg ⟨vT xt axt_0 cxt_0⟩), (13, sv xref)] ?_)))))))
 refine Ok.op rfl (OpOk.callG (v := .tuple #[sv ((rvS xt xref).1), .int .i64 (rvS xt xref).2]) enr (fun W hW => wre_c xt xref (hRxt_0.mono hW.sees) (hG0.mono hW.sees) (hG1.mono hW.sees) (hG2.mono hW.sees) (hG3.mono hW.sees) (hG4.mono hW.sees) (hG5.mono hW.sees)) rfl ?_)
 refine Ok.bat 5 [1, 2, 4] [(6, sv ((rvS xt xref).1)), (7, .int .i64 (rvS xt xref).2)] ?_
 refine Ok.nil (Ok.thenN (Ok.seq (Ok.seq (Ok.region (Ok.bat 2 [1, 2, 4, 6, 7] [(18, .bool ((rvS xt xref).2 != 0))] ?_)))))
 refine Ok.nil (Ok.thenN (Ok.cond (b := ((rvS xt xref).2 != 0)) rfl (fun hc3 => ?_) (fun hc3 => ?_)))
 ·replace hF := hF.1 hc3
  refine Ok.seq (Ok.region (Ok.bat 2 [4] [(19, .agg #[.slice none 0 0, .int .i64 0]), (20, .int .i64 (rvS xt xref).2)] ?_))
  refine Ok.op rfl (OpOk.sto (k := 2) (v := .agg #[.slice none 0 0, .int .i64 0]) 0 #[.slice none 0 0, .int .i64 0] rfl rfl rfl ?_)
  refine Ok.bat 1 [4] [(5, .int .i64 (rvS xt xref).2)] ?_
  refine Ok.nil (Ok.thenN (Ok.ret (Ok.thenR ?_)))
  exact Ok.resP (vs := [.agg #[.slice none 0 0, .int .i64 0], .int .i64 (rvS xt xref).2]) [] [] (by decide) rfl (.inl rfl) rfl (.cons (.cellAgg 0 2 #[.slice none 0 0, .int .i64 0] rfl rfl Tryz.underlying24 rfl (by kernel_rfl) (by kernel_rfl) (by kernel_rfl)) (.cons (.tmp rfl) .nil)) (Gext.refl w0 g) ⟨([], 0), (rvS xt xref).2, none, 0, rfl, Rep.nil, rfl, hF⟩
 ·replace hF := hF.2 hc3
  refine Ok.skip (Ok.thenN (Ok.seq (Ok.region (Ok.op rfl (OpOk.step (v := .agg ⟨vT xt axt_0 cxt_0⟩) (Yields.loadAgg 1 2 ⟨vT xt axt_0 cxt_0⟩ rfl rfl Tryz.underlying24 rfl (by kernel_rfl) (by kernel_rfl) (by kernel_rfl)) rfl rfl ?_)))))
  obtain ⟨hp4, hF⟩ := hF
  refine Ok.op rfl (OpOk.callG (v := .agg ⟨vE (hereS xt)⟩) enr (fun W hW => whr_c xt (hRxt_0.mono hW.sees) hp4) rfl ?_)
  refine Ok.bat 2 [1, 2, 4, 6] [(8, .int .i64 (hereS xt).2.2)] ?_
  refine Ok.nil (Ok.thenN (Ok.cut (fun a W => ∃ gj15 : Ghost, Gext w0 g gj15 ∧ ∃ (x8j15 : Int), StA 57 [(2, pv b1 0), (4, pv b2 0), (6, sv ((rvS xt xref).1)), (8, .int .i64 x8j15)] a ∧ StW w0 [.blk b2 (.cells #[.slice none 0 0, .int .i64 0] 24), .blk b1 (.cells ⟨vT xt axt_0 cxt_0⟩ 24)] gj15 W ∧ wldj15 xt xref K x8j15) ?_ ?_))
  ·
   refine Ok.cut (fun a W => ∃ gj16 : Ghost, Gext w0 g gj16 ∧ StA 57 [(2, pv b1 0), (4, pv b2 0), (6, sv ((rvS xt xref).1)), (8, .int .i64 (hereS xt).2.2), (35, .bool (wldV0 xt xref))] a ∧ StW w0 [.blk b2 (.cells #[.slice none 0 0, .int .i64 0] 24), .blk b1 (.cells ⟨vT xt axt_0 cxt_0⟩ 24)] gj16 W ∧ wldj16 xt xref K) ?_ ?_
   ·
    refine Ok.quiet' (by kernel_rfl) (by kernel_rfl) (OkQ.bat 1 [2, 4, 6, 8] [(24, sv xref)] ?_)
    obtain ⟨hp13, hF⟩ := hF
    refine OkQ.op rfl (OpQ.callG (v := .bool (scontS xref ([35] : Bs))) enr (fun W hW => scont_c xref ([35] : Bs) (hG0.mono hW.sees) hp13) rfl ?_)
    refine OkQ.bat 2 [2, 4, 6, 8] [(27, .bool (!(scontS xref ([35] : Bs))))] ?_
    refine OkQ.boolAt 27 (!(scontS xref ([35] : Bs))) rfl (fun hc14 => ?_) (fun hc14 => ?_)
    ·replace hF := hF.1 hc14
     refine OkQ.bat 8 [2, 4, 6, 8] [(35, .bool true)] ?_
     refine OkQ.nil (Ok.thenN (Ok.reval 35 rfl (show (.bool true : Value) = .bool (wldV0 xt xref) from congrArg (Value.bool) (mor_t hc14)) ?_))
     exact fun a W hA hW => ⟨g, (Gext.refl w0 g), hA.sub (by kernel_rfl), hW, hF⟩
    ·replace hF := hF.2 hc14
     refine OkQ.bat 1 [2, 4, 6, 8] [(27, .bool false), (28, sv ((rvS xt xref).1))] ?_
     obtain ⟨hp15, hF⟩ := hF
     refine OkQ.opYes (j := 3) (d := 27) (want := false) (b := false) rfl (by kernel_rfl) (by kernel_rfl) rfl (OpQ.callG (v := sv (barS (rvS xt xref).1)) enr (fun W hW => wba_c (rvS xt xref).1 (hG0.mono hW.sees) hp15) rfl ?_)
     refine OkQ.opYes (j := 3) (d := 27) (want := false) (b := false) rfl (by kernel_rfl) (by kernel_rfl) rfl (OpQ.step (v := .agg ⟨vT xt axt_0 cxt_0⟩) (Yields.loadAgg 1 2 ⟨vT xt axt_0 cxt_0⟩ rfl rfl Tryz.underlying24 rfl (by kernel_rfl) (by kernel_rfl) (by kernel_rfl)) rfl rfl ?_)
     obtain ⟨hp16, hF⟩ := hF
     refine OkQ.opYes (j := 3) (d := 27) (want := false) (b := false) rfl (by kernel_rfl) (by kernel_rfl) rfl (OpQ.callG (v := .agg ⟨vE (hereS xt)⟩) enr (fun W hW => whr_c xt (hRxt_0.mono hW.sees) hp16) rfl ?_)
     refine OkQ.bat 1 [2, 4, 6, 8, 27] [(29, sv (barS (rvS xt xref).1)), (32, sv ((hereS xt).1))] ?_
     obtain ⟨hp17, hF⟩ := hF
     refine OkQ.opYes (j := 3) (d := 27) (want := false) (b := false) rfl (by kernel_rfl) (by kernel_rfl) rfl (OpQ.callG (v := sv (barS (hereS xt).1)) enr (fun W hW => wba_c (hereS xt).1 (hG0.mono hW.sees) hp17) rfl ?_)
     refine OkQ.opYes (j := 3) (d := 27) (want := false) (b := false) rfl (by kernel_rfl) (by kernel_rfl) rfl (OpQ.step (v := .bool (!((barS (rvS xt xref).1) == (barS (hereS xt).1)))) (Yields.strCmp (f := .neq) (a := (barS (rvS xt xref).1)) (b := (barS (hereS xt).1)) (by kernel_rfl) (by kernel_rfl) rfl) rfl rfl (OkQ.bat 1 [2, 4, 6, 8] [(35, .bool (!((barS (rvS xt xref).1) == (barS (hereS xt).1))))] ?_))
     refine OkQ.nil (Ok.thenN (Ok.reval 35 rfl (show (.bool (!((barS (rvS xt xref).1) == (barS (hereS xt).1))) : Value) = .bool (wldV0 xt xref) from congrArg (Value.bool) (mor_f hc14)) ?_))
     exact fun a W hA hW => ⟨g, (Gext.refl w0 g), hA.sub (by kernel_rfl), hW, hF⟩
   ·
    clear hF
    rintro a W ⟨gj16, hxj16, hA, hW, hF⟩
    refine (?_ : Ok _ _ _ _ _ _) a W hA hW
    clear hA hW
    replace hRxt_0 := hRxt_0.mono hxj16.1
    replace hG0 := hG0.mono hxj16.1
    replace hG1 := hG1.mono hxj16.1
    replace hG2 := hG2.mono hxj16.1
    replace hG3 := hG3.mono hxj16.1
    replace hG4 := hG4.mono hxj16.1
    replace hG5 := hG5.mono hxj16.1
    refine Ok.cond (b := (wldV0 xt xref)) rfl (fun hc8 => ?_) (fun hc8 => ?_)
    ·replace hF := hF.1 hc8
     refine Ok.seq (Ok.region (Ok.bat 1 [2, 4, 6] [(8, .int .i64 0)] ?_))
     refine Ok.nil (Ok.thenN (Ok.seq (Ok.region (Ok.bat 1 [2, 4, 6, 8] [(36, pv b1 0)] ?_))))
     refine Ok.op rfl (OpOk.step (v := .slice axt_0 xt.1.length cxt_0) (Yields.load 1 rfl rfl Tryz.underlying22 rfl (by kernel_rfl)) rfl rfl (Ok.bat 2 [2, 4, 6, 8] [(37, .slice axt_0 xt.1.length cxt_0), (38, .int .i64 (xt.1.length : Int)), (39, .int .i64 0)] ?_))
     refine Ok.nil (Ok.thenN (Ok.block ?_))
     obtain ⟨k, hF⟩ := hF
     refine Ok.loop (fun k a W => ∃ gl24 : Ghost, Gext w0 gj16 gl24 ∧ ∃ (x8l24 : Int) (x39l24 : Int), StA 57 [(2, pv b1 0), (4, pv b2 0), (6, sv ((rvS xt xref).1)), (8, .int .i64 x8l24), (37, .slice axt_0 xt.1.length cxt_0), (38, .int .i64 (xt.1.length : Int)), (39, .int .i64 x39l24)] a ∧ StW w0 [.blk b2 (.cells #[.slice none 0 0, .int .i64 0] 24), .blk b1 (.cells ⟨vT xt axt_0 cxt_0⟩ 24)] gl24 W ∧ wldl24 xt xref K k x8l24 x39l24) k ?_ ?_
     ·
      exact fun a W hA hW => ⟨gj16, (Gext.refl w0 gj16), 0, 0, hA.sub (by kernel_rfl), hW, hF⟩
     ·
      clear hF
      rintro k24 a W ⟨gl24, hxl24, x8l24, x39l24, hA, hW, hF⟩
      cases k24 with
      | zero => exact (hF : False).elim
      | succ k24 =>
       refine (?_ : Ok _ _ _ _ _ _) a W hA hW
       clear hA hW
       replace hRxt_0 := hRxt_0.mono hxl24.1
       replace hG0 := hG0.mono hxl24.1
       replace hG1 := hG1.mono hxl24.1
       replace hG2 := hG2.mono hxl24.1
       replace hG3 := hG3.mono hxl24.1
       replace hG4 := hG4.mono hxl24.1
       replace hG5 := hG5.mono hxl24.1
       refine Ok.seq (Ok.region (Ok.bat 1 [2, 4, 6, 8, 37, 38, 39] [(40, .bool (decide (x39l24 < (xt.1.length : Int))))] ?_))
       refine Ok.nil (Ok.thenN (Ok.seq (Ok.cond (b := decide (x39l24 < (xt.1.length : Int))) rfl (fun hc9 => ?_) (fun hc9 => ?_))))
       ·replace hF := hF.1 hc9
        refine Ok.skip (Ok.thenN (Ok.seq (Ok.block (Ok.seq (Ok.region ?_)))))
        obtain ⟨h011, h111, hF⟩ := hF
        have he11 := get_of (l := xt.1) (default : Bs × Bs × Int) h111
        generalize hg11 : (xt.1.getD (Int.toNat x39l24) default) = e11 at he11 hF ⊢
        refine Ok.op rfl (OpOk.indexRo (e := .pair (.str) (.pair (.str) (.int .i64))) (i := x39l24) (el := e11) rfl rfl Tryz.underlying22 (by kernel_rfl) hRxt_0 h011 he11 rfl fun q10 o10 cs10 _ hat10 hr10 => ?_)
        obtain ⟨_, _, rfl, rfl, ⟨_, _, rfl, rfl, rfl⟩⟩ := hr10
        replace hat10 : At gl24 q10 o10 (vE e11) := hat10
        refine Ok.op rfl (OpOk.step (v := .agg ⟨vE e11⟩) (Yields.loadAggRo 0 3 ⟨vE e11⟩ hat10 (by kernel_rfl) Tryz.underlying36 rfl (by kernel_rfl) (by kernel_rfl) (by kernel_rfl)) rfl rfl (Ok.op rfl (OpOk.alloc (z := .agg #[sv ([] : Bs), sv ([] : Bs), .int .i64 0]) (cs := #[sv ([] : Bs), sv ([] : Bs), .int .i64 0]) (by kernel_rfl) (by kernel_rfl) rfl fun b12 => ?_)))
        refine Ok.op rfl (OpOk.sto (k := 3) (v := .agg ⟨vE e11⟩) 0 ⟨vE e11⟩ rfl rfl rfl ?_)
        refine Ok.nil (Ok.thenN (Ok.region (Ok.bat 2 [2, 4, 6, 37, 38, 39] [(43, .int .i64 x8l24), (44, pv b12 2)] ?_)))
        refine Ok.op rfl (OpOk.step (v := .int .i64 e11.2.2) (Yields.load 0 rfl rfl Tryz.underlying3 rfl (by kernel_rfl)) rfl rfl (Ok.bat 3 [2, 4, 6, 37, 38, 39] [(8, .int .i64 (if x8l24 < (w6 (e11.2.2 + 1)) then (w6 (e11.2.2 + 1)) else x8l24))] ?_))
        refine Ok.nil (Ok.blockN (Ok.thenN (Ok.region (Ok.bat 2 [2, 4, 6, 8, 37, 38] [(39, .int .i64 (w6 (x39l24 + 1)))] ?_))))
        refine Ok.nil (Ok.thenN ?_)
        subst hg11
        exact fun a W hA hW => ⟨k24, Nat.lt_succ_self _, gl24, hxl24, (if x8l24 < (w6 ((xt.1.getD (Int.toNat x39l24) default).2.2 + 1)) then (w6 ((xt.1.getD (Int.toNat x39l24) default).2.2 + 1)) else x8l24), w6 (x39l24 + 1), hA.sub (by kernel_rfl), hW.sub (.cons _ (.cons_cons _ (.cons_cons _ .slnil))), hF⟩
       ·replace hF := hF.2 hc9
        refine Ok.exit (Ok.thenE (Ok.thenE (Ok.blockHit (Ok.thenN ?_))))
        exact fun a W hA hW => ⟨gl24, (hxj16.trans hxl24), x8l24, hA.sub (by kernel_rfl), hW, hF⟩
    ·replace hF := hF.2 hc8
     refine Ok.skip (Ok.thenN ?_)
     exact fun a W hA hW => ⟨gj16, hxj16, (hereS xt).2.2, hA.sub (by kernel_rfl), hW, hF⟩
  ·
   clear hF
   rintro a W ⟨gj15, hxj15, x8j15, hA, hW, hF⟩
   refine (?_ : Ok _ _ _ _ _ _) a W hA hW
   clear hA hW
   replace hRxt_0 := hRxt_0.mono hxj15.1
   replace hG0 := hG0.mono hxj15.1
   replace hG1 := hG1.mono hxj15.1
   replace hG2 := hG2.mono hxj15.1
   replace hG3 := hG3.mono hxj15.1
   replace hG4 := hG4.mono hxj15.1
   replace hG5 := hG5.mono hxj15.1
   refine Ok.seq (Ok.seq (Ok.region (Ok.bat 2 [2, 4, 6, 8] [(50, .bool (decide (x8j15 > 1000000)))] ?_)))
   refine Ok.nil (Ok.thenN (Ok.cond (b := decide (x8j15 > 1000000)) rfl (fun hc5 => ?_) (fun hc5 => ?_)))
   ·replace hF := hF.1 hc5
    refine Ok.seq (Ok.region (Ok.bat 1 [4] [(51, .agg #[.slice none 0 0, .int .i64 0])] ?_))
    refine Ok.op rfl (OpOk.sto (k := 2) (v := .agg #[.slice none 0 0, .int .i64 0]) 0 #[.slice none 0 0, .int .i64 0] rfl rfl rfl ?_)
    refine Ok.bat 1 [4] [(5, .int .i64 2)] ?_
    refine Ok.nil (Ok.thenN (Ok.ret (Ok.thenR ?_)))
    exact Ok.resP (vs := [.agg #[.slice none 0 0, .int .i64 0], .int .i64 2]) [] [] (by decide) rfl (.inl rfl) rfl (.cons (.cellAgg 0 2 #[.slice none 0 0, .int .i64 0] rfl rfl Tryz.underlying24 rfl (by kernel_rfl) (by kernel_rfl) (by kernel_rfl)) (.cons (.tmp rfl) .nil)) hxj15 ⟨([], 0), 2, none, 0, rfl, Rep.nil, rfl, hF⟩
   ·replace hF := hF.2 hc5
    refine Ok.skip (Ok.thenN (Ok.seq (Ok.region (Ok.op rfl (OpOk.step (v := .agg ⟨vT xt axt_0 cxt_0⟩) (Yields.loadAgg 1 2 ⟨vT xt axt_0 cxt_0⟩ rfl rfl Tryz.underlying24 rfl (by kernel_rfl) (by kernel_rfl) (by kernel_rfl)) rfl rfl (Ok.bat 3 [4] [(52, .agg ⟨vT xt axt_0 cxt_0⟩), (55, .agg #[sv ((rvS xt xref).1), sv ([] : Bs), .int .i64 x8j15])] ?_))))))
    obtain ⟨hp6, hF⟩ := hF
    refine Ok.op rfl (OpOk.callH [] _ enr rfl (wbh_c xt ((rvS xt xref).1, ([] : Bs), x8j15) hRxt_0 hp6) rfl fun g7 _ _ hx7 hV7 => ?_)
    obtain ⟨a7_0, c7_0, rfl, hR7_0, rfl⟩ := hV7
    replace hRxt_0 := hRxt_0.mono hx7.1
    replace hG0 := hG0.mono hx7.1
    replace hG1 := hG1.mono hx7.1
    replace hG2 := hG2.mono hx7.1
    replace hG3 := hG3.mono hx7.1
    replace hG4 := hG4.mono hx7.1
    replace hG5 := hG5.mono hx7.1
    refine Ok.op rfl (OpOk.sto (k := 2) (v := .agg #[.slice a7_0 ((behS xt ((rvS xt xref).1, ([] : Bs), x8j15)).1).length c7_0, .int .i64 (behS xt ((rvS xt xref).1, ([] : Bs), x8j15)).2]) 0 #[.slice a7_0 ((behS xt ((rvS xt xref).1, ([] : Bs), x8j15)).1).length c7_0, .int .i64 (behS xt ((rvS xt xref).1, ([] : Bs), x8j15)).2] rfl rfl rfl ?_)
    refine Ok.bat 1 [4] [(5, .int .i64 0)] ?_
    refine Ok.nil (Ok.thenN (Ok.ret ?_))
    exact Ok.resP (vs := [.agg #[.slice a7_0 ((behS xt ((rvS xt xref).1, ([] : Bs), x8j15)).1).length c7_0, .int .i64 (behS xt ((rvS xt xref).1, ([] : Bs), x8j15)).2], .int .i64 0]) [] [] (by decide) rfl (.inl rfl) rfl (.cons (.cellAgg 0 2 #[.slice a7_0 ((behS xt ((rvS xt xref).1, ([] : Bs), x8j15)).1).length c7_0, .int .i64 (behS xt ((rvS xt xref).1, ([] : Bs), x8j15)).2] rfl rfl Tryz.underlying24 rfl (by kernel_rfl) (by kernel_rfl) (by kernel_rfl)) (.cons (.tmp rfl) .nil)) (hxj15.trans hx7) ⟨(behS xt ((rvS xt xref).1, ([] : Bs), x8j15)), 0, a7_0, c7_0, rfl, hR7_0, rfl, hF⟩
def docM : List JEn → Int → Int
 | [], a => a
 | x :: l, a => docM l (if a < w6 (x.2.2 + 1) then w6 (x.2.2 + 1) else a)
def ldD (t : JTr) (r : Bs) : Int := if wldV0 t r = true then docM t.1 0 else (hereS t).2.2
def ldS0 (t : JTr) (r : Bs) : JTr × Int := if ((rvS t r).2 != 0) = true then (([], 0), (rvS t r).2) else if decide (ldD t r > 1000000) = true then (([], 0), 2) else (behS t ((rvS t r).1, [], ldD t r), 0)
noncomputable def ldS : JTr → Bs → JTr × Int := Classical.choose (rigid ldS0)
theorem ldS_eq : ldS = ldS0 := Classical.choose_spec (rigid ldS0)
theorem wld_F (t : JTr) (r : Bs) : wldF t r (fun a b => (a, b) = ldS t r) := by
 rw [ldS_eq]
 unfold ldS0
 refine ⟨fun h => by rw [if_t h], fun h => ?_⟩
 rw [if_f h]
 obtain ⟨h1, h2, h3⟩ := rv_ok (t := t) (r := r) (by simpa using h)
 obtain ⟨hh, hl, hc, hg⟩ := chk_zero h1
 obtain ⟨r1, r2, r3⟩ := res_ok h3
 have r4 := par_len r1
 have j15 : ∀ d, d = ldD t r → wldj15 t r (fun a b => (a, b) = if decide (ldD t r > 1000000) = true then (([], 0), 2) else (behS t ((rvS t r).1, [], ldD t r), 0)) d := fun d hd => by
  subst hd
  exact ⟨fun h => by rw [if_t h], fun h => by rw [if_f h]; exact ⟨⟨hh, hl⟩, rfl⟩⟩
 have loop : ∀ (k i : Nat) (a : Int), i + k = t.1.length → docM (t.1.drop i) a = ldD t r → wldl24 t r (fun a b => (a, b) = if decide (ldD t r > 1000000) = true then (([], 0), 2) else (behS t ((rvS t r).1, [], ldD t r), 0)) (k + 1) a (i : Int) := by
  intro k
  induction k with
  | zero =>
   intro i a h h2
   rw [List.drop_of_length_le (by omega)] at h2
   exact ⟨fun h => (by have := of_decide_eq_true h; omega), fun _ => j15 _ h2⟩
  | succ k ih =>
   intro i a h h2
   rw [drop_get (l := t.1) default (by omega), docM] at h2
   refine ⟨fun _ => ⟨by omega, by rw [Int.toNat_natCast]; omega, ?_⟩, fun h => (by have := of_decide_eq_false h; omega)⟩
   rw [Int.toNat_natCast, w64 (x := (i : Int) + 1) (by omega)]
   exact ih (i + 1) _ (by omega) h2
 have j16 : wldj16 t r (fun a b => (a, b) = if decide (ldD t r > 1000000) = true then (([], 0), 2) else (behS t ((rvS t r).1, [], ldD t r), 0)) := by
  refine ⟨fun hv => ⟨_, loop t.1.length 0 0 (by omega) ?_⟩, fun hv => j15 _ ?_⟩
  ·unfold ldD; rw [if_t hv]; rfl
  ·unfold ldD; rw [if_f hv]
 have hs : (rvS t r).1.length ≤ 500 := by rw [h2]; exact r3
 refine ⟨hh, ?_, fun _ => j16, fun _ => ⟨?_, hh, ?_, j16⟩⟩
 ·show r.length < 4294967281
  omega
 ·show (rvS t r).1.length ≤ 1000000
  omega
 ·show (hereS t).1.length ≤ 1000000
  omega
theorem wld_c {g : Ghost} {axt_0 : Option Addr} {cxt_0 : Nat} (xt : (List (Bs × Bs × Int)) × Int) (xref : Bs) (hRxt_0 : Rep g (.slice (.pair (.str) (.pair (.str) (.int .i64)))) [.slice axt_0 xt.1.length cxt_0] xt.1) (hG0 : SomeInt g 0) (hG1 : GlobL g 1 (.int .u64) DPow) (hG2 : SomeIf g 2) (hG3 : SomeIf g 3) (hG4 : GlobL g 4 (.int .u8) DFirst) (hG5 : GlobL g 5 (.pair (.int .u8) (.int .u8)) DAcc)  : CallsH Tryz.prog 5 #[.agg ⟨vT xt axt_0 cxt_0⟩, sv xref] g [] (fun g' H' v => ∃ (ar0_0 : Option Addr) (cr0_0 : Nat), v = .tuple #[.agg ⟨vT (ldS xt xref).1 ar0_0 cr0_0⟩, .int .i64 (ldS xt xref).2] ∧ Rep g' (.slice (.pair (.str) (.pair (.str) (.int .i64)))) [.slice ar0_0 (ldS xt xref).1.1.length cr0_0] (ldS xt xref).1.1 ∧ H' = []) :=
 (wld_ok xt xref hRxt_0 hG0 hG1 hG2 hG3 hG4 hG5 _ (wld_F xt xref)).mono (by rintro g' H' v _ ⟨r0, r1, ar0_0, cr0_0, rfl, hRr0_0, rfl, hK⟩; obtain ⟨rfl, rfl⟩ : r0 = (ldS xt xref).1 ∧ r1 = (ldS xt xref).2 := ⟨congrArg (fun z => z.1) hK, congrArg (fun z => z.2) hK⟩; exact ⟨ar0_0, cr0_0, rfl, hRr0_0, rfl⟩)
def wowF (xt : (List (Bs × Bs × Int)) × Int) (xref : Bs) (xstate : Bs) (K : (Bs × Bs × Int) → Int → Prop) : Prop :=
 ((((rvS xt xref).2 != 0)) = true → K (([] : Bs), ([] : Bs), 0) (rvS xt xref).2) ∧ ((((rvS xt xref).2 != 0)) = false → ((decide ((xstate.length : Int) > 2000)) = true → K (([] : Bs), ([] : Bs), 0) 2) ∧ ((decide ((xstate.length : Int) > 2000)) = false → hereP xt ∧ ((!((worM (rvS xt xref).1) == (worM (hereS xt).1))) = true → K (([] : Bs), ([] : Bs), 0) 12) ∧ ((!((worM (rvS xt xref).1) == (worM (hereS xt).1))) = false → hereP xt ∧ K ((rvS xt xref).1, xstate, (hereS xt).2.2) 0)))
theorem wow_ok {g : Ghost} {axt_0 : Option Addr} {cxt_0 : Nat} (xt : (List (Bs × Bs × Int)) × Int) (xref : Bs) (xstate : Bs) (hRxt_0 : Rep g (.slice (.pair (.str) (.pair (.str) (.int .i64)))) [.slice axt_0 xt.1.length cxt_0] xt.1) (hG0 : SomeInt g 0) (hG1 : GlobL g 1 (.int .u64) DPow) (hG2 : SomeIf g 2) (hG3 : SomeIf g 3) (hG4 : GlobL g 4 (.int .u8) DFirst) (hG5 : GlobL g 5 (.pair (.int .u8) (.int .u8)) DAcc) (K : (Bs × Bs × Int) → Int → Prop)
  (hF : wowF xt xref xstate K) : CallsH Tryz.prog 21 #[.agg ⟨vT xt axt_0 cxt_0⟩, sv xref, sv xstate] g [] (fun g' H' v => ∃ (r0 : Bs × Bs × Int), ∃ (r1 : Int), v = .tuple #[.agg ⟨vE r0⟩, .int .i64 r1] ∧ H' = [] ∧ K r0 r1) := by
 refine CallsH.enter 41 [(0, .agg ⟨vT xt axt_0 cxt_0⟩), (1, sv xref), (2, sv xstate)] Tryz.func21 rfl (by kernel_rfl) (by kernel_rfl) (by kernel_rfl) fun w0 => ?_
 refine Ok.seq (Ok.region (Ok.op rfl (OpOk.box (v := .agg ⟨vT xt axt_0 cxt_0⟩) (cs := ⟨vT xt axt_0 cxt_0⟩) rfl (by kernel_rfl) rfl fun b1 => ?_)))
 refine Ok.op rfl (OpOk.alloc (z := .agg #[sv ([] : Bs), sv ([] : Bs), .int .i64 0]) (cs := #[sv ([] : Bs), sv ([] : Bs), .int .i64 0]) (by kernel_rfl) (by kernel_rfl) rfl fun b2 => ?_)
 refine Ok.batch 1 [(1, sv xref), (2, sv xstate), (3, pv b1 0), (6, pv b2 0)] (by kernel_rfl) (Ok.nil (Ok.thenN (Ok.seq (Ok.region (Ok.op rfl (OpOk.step (v := .agg ⟨vT xt axt_0 cxt_0⟩) (Yields.loadAgg 1 2 ⟨vT xt axt_0 cxt_0⟩ rfl rfl Tryz.underlying24 rfl (by kernel_rfl) (by kernel_rfl) (by kernel_rfl)) rfl rfl (Ok.bat 1 [2, 3, 6] [(11, .agg ⟨vT xt axt_0 cxt_0⟩), (12, sv xref)] ?_)))))))
 refine Ok.op rfl (OpOk.callG (v := .tuple #[sv ((rvS xt xref).1), .int .i64 (rvS xt xref).2]) enr (fun W hW => wre_c xt xref (hRxt_0.mono hW.sees) (hG0.mono hW.sees) (hG1.mono hW.sees) (hG2.mono hW.sees) (hG3.mono hW.sees) (hG4.mono hW.sees) (hG5.mono hW.sees)) rfl ?_)
 refine Ok.bat 5 [2, 3, 6] [(8, sv ((rvS xt xref).1)), (9, .int .i64 (rvS xt xref).2)] ?_
 refine Ok.nil (Ok.thenN (Ok.seq (Ok.block (Ok.seq (Ok.region (Ok.bat 3 [2, 3, 6, 8, 9] [(16, .bool ((rvS xt xref).2 != 0))] ?_))))))
 refine Ok.nil (Ok.thenN (Ok.cond (b := ((rvS xt xref).2 != 0)) rfl (fun hc3 => ?_) (fun hc3 => ?_)))
 ·replace hF := hF.1 hc3
  refine Ok.seq (Ok.region (Ok.bat 2 [6] [(19, .agg #[sv ([] : Bs), sv ([] : Bs), .int .i64 0]), (20, .int .i64 (rvS xt xref).2)] ?_))
  refine Ok.op rfl (OpOk.sto (k := 3) (v := .agg #[sv ([] : Bs), sv ([] : Bs), .int .i64 0]) 0 #[sv ([] : Bs), sv ([] : Bs), .int .i64 0] rfl rfl rfl ?_)
  refine Ok.bat 1 [6] [(7, .int .i64 (rvS xt xref).2)] ?_
  refine Ok.nil (Ok.thenN (Ok.ret (Ok.blockR (Ok.thenR ?_))))
  exact Ok.resP (vs := [.agg #[sv ([] : Bs), sv ([] : Bs), .int .i64 0], .int .i64 (rvS xt xref).2]) [] [] (by decide) rfl (.inl rfl) rfl (.cons (.cellAgg 0 3 #[sv ([] : Bs), sv ([] : Bs), .int .i64 0] rfl rfl Tryz.underlying36 rfl (by kernel_rfl) (by kernel_rfl) (by kernel_rfl)) (.cons (.tmp rfl) .nil)) (Gext.refl w0 g) ⟨(([] : Bs), ([] : Bs), 0), (rvS xt xref).2, rfl, rfl, hF⟩
 ·replace hF := hF.2 hc3
  refine Ok.seq (Ok.region (Ok.bat 4 [2, 3, 6, 8] [(21, .bool (decide ((xstate.length : Int) > 2000)))] ?_))
  refine Ok.nil (Ok.thenN (Ok.cond (b := decide ((xstate.length : Int) > 2000)) rfl (fun hc4 => ?_) (fun hc4 => ?_)))
  ·replace hF := hF.1 hc4
   refine Ok.seq (Ok.region (Ok.bat 1 [6] [(25, .agg #[sv ([] : Bs), sv ([] : Bs), .int .i64 0])] ?_))
   refine Ok.op rfl (OpOk.sto (k := 3) (v := .agg #[sv ([] : Bs), sv ([] : Bs), .int .i64 0]) 0 #[sv ([] : Bs), sv ([] : Bs), .int .i64 0] rfl rfl rfl ?_)
   refine Ok.bat 1 [6] [(7, .int .i64 2)] ?_
   refine Ok.nil (Ok.thenN (Ok.ret (Ok.blockR (Ok.thenR ?_))))
   exact Ok.resP (vs := [.agg #[sv ([] : Bs), sv ([] : Bs), .int .i64 0], .int .i64 2]) [] [] (by decide) rfl (.inl rfl) rfl (.cons (.cellAgg 0 3 #[sv ([] : Bs), sv ([] : Bs), .int .i64 0] rfl rfl Tryz.underlying36 rfl (by kernel_rfl) (by kernel_rfl) (by kernel_rfl)) (.cons (.tmp rfl) .nil)) (Gext.refl w0 g) ⟨(([] : Bs), ([] : Bs), 0), 2, rfl, rfl, hF⟩
  ·replace hF := hF.2 hc4
   refine Ok.seq (Ok.quiet' (by kernel_rfl) (by kernel_rfl) (OkQ.bat 1 [2, 3, 6, 8] [(27, sv ((rvS xt xref).1))] ?_))
   refine OkQ.op rfl (OpQ.callG (v := sv (worM (rvS xt xref).1)) enr (fun W hW => wor_c (rvS xt xref).1 (hG0.mono hW.sees) (hG1.mono hW.sees) (hG2.mono hW.sees) (hG3.mono hW.sees) (hG4.mono hW.sees) (hG5.mono hW.sees)) rfl ?_)
   refine OkQ.op rfl (OpQ.step (v := .agg ⟨vT xt axt_0 cxt_0⟩) (Yields.loadAgg 1 2 ⟨vT xt axt_0 cxt_0⟩ rfl rfl Tryz.underlying24 rfl (by kernel_rfl) (by kernel_rfl) (by kernel_rfl)) rfl rfl ?_)
   obtain ⟨hp5, hF⟩ := hF
   refine OkQ.op rfl (OpQ.callG (v := .agg ⟨vE (hereS xt)⟩) enr (fun W hW => whr_c xt (hRxt_0.mono hW.sees) hp5) rfl ?_)
   refine OkQ.bat 1 [2, 3, 6, 8] [(28, sv (worM (rvS xt xref).1)), (31, sv ((hereS xt).1))] ?_
   refine OkQ.op rfl (OpQ.callG (v := sv (worM (hereS xt).1)) enr (fun W hW => wor_c (hereS xt).1 (hG0.mono hW.sees) (hG1.mono hW.sees) (hG2.mono hW.sees) (hG3.mono hW.sees) (hG4.mono hW.sees) (hG5.mono hW.sees)) rfl ?_)
   refine OkQ.op rfl (OpQ.step (v := .bool (!((worM (rvS xt xref).1) == (worM (hereS xt).1)))) (Yields.strCmp (f := .neq) (a := (worM (rvS xt xref).1)) (b := (worM (hereS xt).1)) (by kernel_rfl) (by kernel_rfl) rfl) rfl rfl (OkQ.bat 1 [2, 3, 6, 8] [(26, .bool (!((worM (rvS xt xref).1) == (worM (hereS xt).1))))] ?_))
   refine OkQ.nil (Ok.thenN (Ok.cond (b := !((worM (rvS xt xref).1) == (worM (hereS xt).1))) rfl (fun hc6 => ?_) (fun hc6 => ?_)))
   ·replace hF := hF.1 hc6
    refine Ok.seq (Ok.region (Ok.bat 1 [6] [(34, .agg #[sv ([] : Bs), sv ([] : Bs), .int .i64 0])] ?_))
    refine Ok.op rfl (OpOk.sto (k := 3) (v := .agg #[sv ([] : Bs), sv ([] : Bs), .int .i64 0]) 0 #[sv ([] : Bs), sv ([] : Bs), .int .i64 0] rfl rfl rfl ?_)
    refine Ok.bat 1 [6] [(7, .int .i64 12)] ?_
    refine Ok.nil (Ok.thenN (Ok.ret (Ok.blockR (Ok.thenR ?_))))
    exact Ok.resP (vs := [.agg #[sv ([] : Bs), sv ([] : Bs), .int .i64 0], .int .i64 12]) [] [] (by decide) rfl (.inl rfl) rfl (.cons (.cellAgg 0 3 #[sv ([] : Bs), sv ([] : Bs), .int .i64 0] rfl rfl Tryz.underlying36 rfl (by kernel_rfl) (by kernel_rfl) (by kernel_rfl)) (.cons (.tmp rfl) .nil)) (Gext.refl w0 g) ⟨(([] : Bs), ([] : Bs), 0), 12, rfl, rfl, hF⟩
   ·replace hF := hF.2 hc6
    refine Ok.skip (Ok.blockN (Ok.thenN (Ok.seq (Ok.region (Ok.bat 2 [3, 6] [(35, sv ((rvS xt xref).1)), (36, sv xstate)] ?_)))))
    refine Ok.op rfl (OpOk.step (v := .agg ⟨vT xt axt_0 cxt_0⟩) (Yields.loadAgg 1 2 ⟨vT xt axt_0 cxt_0⟩ rfl rfl Tryz.underlying24 rfl (by kernel_rfl) (by kernel_rfl) (by kernel_rfl)) rfl rfl ?_)
    obtain ⟨hp7, hF⟩ := hF
    refine Ok.op rfl (OpOk.callG (v := .agg ⟨vE (hereS xt)⟩) enr (fun W hW => whr_c xt (hRxt_0.mono hW.sees) hp7) rfl ?_)
    refine Ok.bat 2 [6] [(40, .agg #[sv ((rvS xt xref).1), sv xstate, .int .i64 (hereS xt).2.2])] ?_
    refine Ok.op rfl (OpOk.sto (k := 3) (v := .agg #[sv ((rvS xt xref).1), sv xstate, .int .i64 (hereS xt).2.2]) 0 #[sv ((rvS xt xref).1), sv xstate, .int .i64 (hereS xt).2.2] rfl rfl rfl ?_)
    refine Ok.bat 1 [6] [(7, .int .i64 0)] ?_
    refine Ok.nil (Ok.thenN (Ok.ret ?_))
    exact Ok.resP (vs := [.agg #[sv ((rvS xt xref).1), sv xstate, .int .i64 (hereS xt).2.2], .int .i64 0]) [] [] (by decide) rfl (.inl rfl) rfl (.cons (.cellAgg 0 3 #[sv ((rvS xt xref).1), sv xstate, .int .i64 (hereS xt).2.2] rfl rfl Tryz.underlying36 rfl (by kernel_rfl) (by kernel_rfl) (by kernel_rfl)) (.cons (.tmp rfl) .nil)) (Gext.refl w0 g) ⟨((rvS xt xref).1, xstate, (hereS xt).2.2), 0, rfl, rfl, hF⟩
def ze : JEn := ([], [], 0)
def owS0 (t : JTr) (r s : Bs) : JEn × Int := if ((rvS t r).2 != 0) = true then (ze, (rvS t r).2) else if decide ((s.length : Int) > 2000) = true then (ze, 2) else if (!(worM (rvS t r).1 == worM (hereS t).1)) = true then (ze, 12) else (((rvS t r).1, s, (hereS t).2.2), 0)
noncomputable def owS : JTr → Bs → Bs → JEn × Int := Classical.choose (rigid owS0)
theorem owS_eq : owS = owS0 := Classical.choose_spec (rigid owS0)
theorem wow_F (t : JTr) (r s : Bs) : wowF t r s (fun a b => (a, b) = owS t r s) := by
 rw [owS_eq]
 unfold owS0
 refine ⟨fun h => by rw [if_t h]; rfl, fun h => ?_⟩
 rw [if_f h]
 obtain ⟨h1, h2, h3⟩ := rv_ok (t := t) (r := r) (by simpa using h)
 have hh := (chk_zero h1).1
 exact ⟨fun h => by rw [if_t h]; rfl, fun h => by rw [if_f h]; exact ⟨hh, fun h => by rw [if_t h]; rfl, fun h => by rw [if_f h]; exact ⟨hh, rfl⟩⟩⟩
theorem wow_c {g : Ghost} {axt_0 : Option Addr} {cxt_0 : Nat} (xt : (List (Bs × Bs × Int)) × Int) (xref : Bs) (xstate : Bs) (hRxt_0 : Rep g (.slice (.pair (.str) (.pair (.str) (.int .i64)))) [.slice axt_0 xt.1.length cxt_0] xt.1) (hG0 : SomeInt g 0) (hG1 : GlobL g 1 (.int .u64) DPow) (hG2 : SomeIf g 2) (hG3 : SomeIf g 3) (hG4 : GlobL g 4 (.int .u8) DFirst) (hG5 : GlobL g 5 (.pair (.int .u8) (.int .u8)) DAcc)  : CallsG Tryz.prog 21 #[.agg ⟨vT xt axt_0 cxt_0⟩, sv xref, sv xstate] g (.tuple #[.agg ⟨vE (owS xt xref xstate).1⟩, .int .i64 (owS xt xref xstate).2]) :=
 (wow_ok xt xref xstate hRxt_0 hG0 hG1 hG2 hG3 hG4 hG5 _ (wow_F xt xref xstate)).gives (by rintro g' H' v _ ⟨r0, r1, rfl, rfl, hK⟩; obtain ⟨rfl, rfl⟩ : r0 = (owS xt xref xstate).1 ∧ r1 = (owS xt xref xstate).2 := ⟨congrArg (fun z => z.1) hK, congrArg (fun z => z.2) hK⟩; rfl)
theorem ow_ok {t : JTr} {r s : Bs} (h : (owS t r s).2 = 0) : chkT t = 0 := by
 rw [owS_eq] at h
 unfold owS0 at h
 split at h
 ·rename_i h1
  have h : (rvS t r).2 = 0 := h
  rw [h] at h1; cases h1
 ·rename_i h1
  exact (rv_ok (t := t) (r := r) (by simpa using h1)).1
def wpuV0 (xt : (List (Bs × Bs × Int)) × Int) (xref : Bs) (xstate : Bs) : ((List (Bs × Bs × Int)) × Int) :=
 (behS xt (owS xt xref xstate).1)
def wpuF (xt : (List (Bs × Bs × Int)) × Int) (xref : Bs) (xstate : Bs) (K : ((List (Bs × Bs × Int)) × Int) → Int → Prop) : Prop :=
 ((((owS xt xref xstate).2 != 0)) = true → K ([], 0) (owS xt xref xstate).2) ∧ ((((owS xt xref xstate).2 != 0)) = false → behP xt (owS xt xref xstate).1 ∧ K (wpuV0 xt xref xstate) 0)
theorem wpu_ok {g : Ghost} {axt_0 : Option Addr} {cxt_0 : Nat} (xt : (List (Bs × Bs × Int)) × Int) (xref : Bs) (xstate : Bs) (hRxt_0 : Rep g (.slice (.pair (.str) (.pair (.str) (.int .i64)))) [.slice axt_0 xt.1.length cxt_0] xt.1) (hG0 : SomeInt g 0) (hG1 : GlobL g 1 (.int .u64) DPow) (hG2 : SomeIf g 2) (hG3 : SomeIf g 3) (hG4 : GlobL g 4 (.int .u8) DFirst) (hG5 : GlobL g 5 (.pair (.int .u8) (.int .u8)) DAcc) (K : ((List (Bs × Bs × Int)) × Int) → Int → Prop)
  (hF : wpuF xt xref xstate K) : CallsH Tryz.prog 6 #[.agg ⟨vT xt axt_0 cxt_0⟩, sv xref, sv xstate] g [] (fun g' H' v => ∃ (r0 : (List (Bs × Bs × Int)) × Int), ∃ (r1 : Int), ∃ (ar0_0 : Option Addr) (cr0_0 : Nat), v = .tuple #[.agg ⟨vT r0 ar0_0 cr0_0⟩, .int .i64 r1] ∧ Rep g' (.slice (.pair (.str) (.pair (.str) (.int .i64)))) [.slice ar0_0 r0.1.length cr0_0] r0.1 ∧ H' = [] ∧ K r0 r1) := by
 refine CallsH.enter 24 [(0, .agg ⟨vT xt axt_0 cxt_0⟩), (1, sv xref), (2, sv xstate)] Tryz.func6 rfl (by kernel_rfl) (by kernel_rfl) (by kernel_rfl) fun w0 => ?_
 refine Ok.seq (Ok.region (Ok.op rfl (OpOk.box (v := .agg ⟨vT xt axt_0 cxt_0⟩) (cs := ⟨vT xt axt_0 cxt_0⟩) rfl (by kernel_rfl) rfl fun b1 => ?_)))
 refine Ok.op rfl (OpOk.alloc (z := .agg #[.slice none 0 0, .int .i64 0]) (cs := #[.slice none 0 0, .int .i64 0]) (by kernel_rfl) (by kernel_rfl) rfl fun b2 => ?_)
 refine Ok.batch 1 [(1, sv xref), (2, sv xstate), (3, pv b1 0), (6, pv b2 0)] (by kernel_rfl) (Ok.nil (Ok.thenN (Ok.seq (Ok.region (Ok.op rfl (OpOk.step (v := .agg ⟨vT xt axt_0 cxt_0⟩) (Yields.loadAgg 1 2 ⟨vT xt axt_0 cxt_0⟩ rfl rfl Tryz.underlying24 rfl (by kernel_rfl) (by kernel_rfl) (by kernel_rfl)) rfl rfl (Ok.bat 2 [3, 6] [(11, .agg ⟨vT xt axt_0 cxt_0⟩), (12, sv xref), (13, sv xstate)] ?_)))))))
 refine Ok.op rfl (OpOk.callG (v := .tuple #[.agg ⟨vE (owS xt xref xstate).1⟩, .int .i64 (owS xt xref xstate).2]) enr (fun W hW => wow_c xt xref xstate (hRxt_0.mono hW.sees) (hG0.mono hW.sees) (hG1.mono hW.sees) (hG2.mono hW.sees) (hG3.mono hW.sees) (hG4.mono hW.sees) (hG5.mono hW.sees)) rfl ?_)
 refine Ok.bat 3 [3, 6] [(15, .agg ⟨vE (owS xt xref xstate).1⟩), (16, .int .i64 (owS xt xref xstate).2)] ?_
 refine Ok.op rfl (OpOk.alloc (z := .agg #[sv ([] : Bs), sv ([] : Bs), .int .i64 0]) (cs := #[sv ([] : Bs), sv ([] : Bs), .int .i64 0]) (by kernel_rfl) (by kernel_rfl) rfl fun b3 => ?_)
 refine Ok.op rfl (OpOk.sto (k := 3) (v := .agg ⟨vE (owS xt xref xstate).1⟩) 0 ⟨vE (owS xt xref xstate).1⟩ rfl rfl rfl ?_)
 refine Ok.bat 1 [3, 6] [(8, pv b3 0), (9, .int .i64 (owS xt xref xstate).2)] ?_
 refine Ok.nil (Ok.thenN (Ok.seq (Ok.seq (Ok.region (Ok.bat 2 [3, 6, 8, 9] [(18, .bool ((owS xt xref xstate).2 != 0))] ?_)))))
 refine Ok.nil (Ok.thenN (Ok.cond (b := ((owS xt xref xstate).2 != 0)) rfl (fun hc4 => ?_) (fun hc4 => ?_)))
 ·replace hF := hF.1 hc4
  refine Ok.seq (Ok.region (Ok.bat 2 [6] [(19, .agg #[.slice none 0 0, .int .i64 0]), (20, .int .i64 (owS xt xref xstate).2)] ?_))
  refine Ok.op rfl (OpOk.sto (k := 2) (v := .agg #[.slice none 0 0, .int .i64 0]) 1 #[.slice none 0 0, .int .i64 0] rfl rfl rfl ?_)
  refine Ok.bat 1 [6] [(7, .int .i64 (owS xt xref xstate).2)] ?_
  refine Ok.nil (Ok.thenN (Ok.ret (Ok.thenR ?_)))
  exact Ok.resP (vs := [.agg #[.slice none 0 0, .int .i64 0], .int .i64 (owS xt xref xstate).2]) [] [] (by decide) rfl (.inl rfl) rfl (.cons (.cellAgg 1 2 #[.slice none 0 0, .int .i64 0] rfl rfl Tryz.underlying24 rfl (by kernel_rfl) (by kernel_rfl) (by kernel_rfl)) (.cons (.tmp rfl) .nil)) (Gext.refl w0 g) ⟨([], 0), (owS xt xref xstate).2, none, 0, rfl, Rep.nil, rfl, hF⟩
 ·replace hF := hF.2 hc4
  refine Ok.skip (Ok.thenN (Ok.seq (Ok.region (Ok.op rfl (OpOk.step (v := .agg ⟨vT xt axt_0 cxt_0⟩) (Yields.loadAgg 2 2 ⟨vT xt axt_0 cxt_0⟩ rfl rfl Tryz.underlying24 rfl (by kernel_rfl) (by kernel_rfl) (by kernel_rfl)) rfl rfl (Ok.op rfl (OpOk.step (v := .agg ⟨vE (owS xt xref xstate).1⟩) (Yields.loadAgg 0 3 ⟨vE (owS xt xref xstate).1⟩ rfl rfl Tryz.underlying36 rfl (by kernel_rfl) (by kernel_rfl) (by kernel_rfl)) rfl rfl ?_)))))))
  obtain ⟨hp5, hF⟩ := hF
  refine Ok.op rfl (OpOk.callH [] _ enr rfl (wbh_c xt (owS xt xref xstate).1 hRxt_0 hp5) rfl fun g6 _ _ hx6 hV6 => ?_)
  obtain ⟨a6_0, c6_0, rfl, hR6_0, rfl⟩ := hV6
  replace hRxt_0 := hRxt_0.mono hx6.1
  replace hG0 := hG0.mono hx6.1
  replace hG1 := hG1.mono hx6.1
  replace hG2 := hG2.mono hx6.1
  replace hG3 := hG3.mono hx6.1
  replace hG4 := hG4.mono hx6.1
  replace hG5 := hG5.mono hx6.1
  refine Ok.op rfl (OpOk.sto (k := 2) (v := .agg ⟨vT (wpuV0 xt xref xstate) a6_0 c6_0⟩) 1 ⟨vT (wpuV0 xt xref xstate) a6_0 c6_0⟩ rfl rfl rfl ?_)
  refine Ok.bat 1 [6] [(7, .int .i64 0)] ?_
  refine Ok.nil (Ok.thenN (Ok.ret ?_))
  exact Ok.resP (vs := [.agg ⟨vT (wpuV0 xt xref xstate) a6_0 c6_0⟩, .int .i64 0]) [] [] (by decide) rfl (.inl rfl) rfl (.cons (.cellAgg 1 2 ⟨vT (wpuV0 xt xref xstate) a6_0 c6_0⟩ rfl rfl Tryz.underlying24 rfl (by kernel_rfl) (by kernel_rfl) (by kernel_rfl)) (.cons (.tmp rfl) .nil)) hx6 ⟨(wpuV0 xt xref xstate), 0, a6_0, c6_0, rfl, hR6_0, rfl, hF⟩
def puS0 (t : JTr) (r s : Bs) : JTr × Int := if ((owS t r s).2 != 0) = true then (([], 0), (owS t r s).2) else (behS t (owS t r s).1, 0)
noncomputable def puS : JTr → Bs → Bs → JTr × Int := Classical.choose (rigid puS0)
theorem puS_eq : puS = puS0 := Classical.choose_spec (rigid puS0)
theorem wpu_F (t : JTr) (r s : Bs) : wpuF t r s (fun a b => (a, b) = puS t r s) := by
 rw [puS_eq]
 unfold puS0
 refine ⟨fun h => by rw [if_t h], fun h => ?_⟩
 rw [if_f h]
 obtain ⟨hh, hl, -⟩ := chk_zero (ow_ok (t := t) (r := r) (s := s) (by simpa using h))
 exact ⟨⟨hh, hl⟩, rfl⟩
theorem wpu_c {g : Ghost} {axt_0 : Option Addr} {cxt_0 : Nat} (xt : (List (Bs × Bs × Int)) × Int) (xref : Bs) (xstate : Bs) (hRxt_0 : Rep g (.slice (.pair (.str) (.pair (.str) (.int .i64)))) [.slice axt_0 xt.1.length cxt_0] xt.1) (hG0 : SomeInt g 0) (hG1 : GlobL g 1 (.int .u64) DPow) (hG2 : SomeIf g 2) (hG3 : SomeIf g 3) (hG4 : GlobL g 4 (.int .u8) DFirst) (hG5 : GlobL g 5 (.pair (.int .u8) (.int .u8)) DAcc)  : CallsH Tryz.prog 6 #[.agg ⟨vT xt axt_0 cxt_0⟩, sv xref, sv xstate] g [] (fun g' H' v => ∃ (ar0_0 : Option Addr) (cr0_0 : Nat), v = .tuple #[.agg ⟨vT (puS xt xref xstate).1 ar0_0 cr0_0⟩, .int .i64 (puS xt xref xstate).2] ∧ Rep g' (.slice (.pair (.str) (.pair (.str) (.int .i64)))) [.slice ar0_0 (puS xt xref xstate).1.1.length cr0_0] (puS xt xref xstate).1.1 ∧ H' = []) :=
 (wpu_ok xt xref xstate hRxt_0 hG0 hG1 hG2 hG3 hG4 hG5 _ (wpu_F xt xref xstate)).mono (by rintro g' H' v _ ⟨r0, r1, ar0_0, cr0_0, rfl, hRr0_0, rfl, hK⟩; obtain ⟨rfl, rfl⟩ : r0 = (puS xt xref xstate).1 ∧ r1 = (puS xt xref xstate).2 := ⟨congrArg (fun z => z.1) hK, congrArg (fun z => z.2) hK⟩; exact ⟨ar0_0, cr0_0, rfl, hRr0_0, rfl⟩)
def wrpF (xt : (List (Bs × Bs × Int)) × Int) (xref : Bs) (xstate : Bs) (K : ((List (Bs × Bs × Int)) × Int) → Int → Prop) : Prop :=
 ((((owS xt xref xstate).2 != 0)) = true → K ([], 0) (owS xt xref xstate).2) ∧ ((((owS xt xref xstate).2 != 0)) = false → wclP xt.1 ∧ (0 : Int) ≤ xt.2 ∧ Int.toNat xt.2 < (wclS xt.1).length ∧ K (((wclS xt.1).set (Int.toNat xt.2) (owS xt xref xstate).1), xt.2) 0)
theorem wrp_ok {g : Ghost} {axt_0 : Option Addr} {cxt_0 : Nat} (xt : (List (Bs × Bs × Int)) × Int) (xref : Bs) (xstate : Bs) (hRxt_0 : Rep g (.slice (.pair (.str) (.pair (.str) (.int .i64)))) [.slice axt_0 xt.1.length cxt_0] xt.1) (hG0 : SomeInt g 0) (hG1 : GlobL g 1 (.int .u64) DPow) (hG2 : SomeIf g 2) (hG3 : SomeIf g 3) (hG4 : GlobL g 4 (.int .u8) DFirst) (hG5 : GlobL g 5 (.pair (.int .u8) (.int .u8)) DAcc) (K : ((List (Bs × Bs × Int)) × Int) → Int → Prop)
  (hF : wrpF xt xref xstate K) : CallsH Tryz.prog 7 #[.agg ⟨vT xt axt_0 cxt_0⟩, sv xref, sv xstate] g [] (fun g' H' v => ∃ (r0 : (List (Bs × Bs × Int)) × Int), ∃ (r1 : Int), ∃ (ar0_0 : Option Addr) (cr0_0 : Nat), v = .tuple #[.agg ⟨vT r0 ar0_0 cr0_0⟩, .int .i64 r1] ∧ Rep g' (.slice (.pair (.str) (.pair (.str) (.int .i64)))) [.slice ar0_0 r0.1.length cr0_0] r0.1 ∧ H' = [] ∧ K r0 r1) := by
 refine CallsH.enter 34 [(0, .agg ⟨vT xt axt_0 cxt_0⟩), (1, sv xref), (2, sv xstate)] Tryz.func7 rfl (by kernel_rfl) (by kernel_rfl) (by kernel_rfl) fun w0 => ?_
 refine Ok.seq (Ok.region (Ok.op rfl (OpOk.box (v := .agg ⟨vT xt axt_0 cxt_0⟩) (cs := ⟨vT xt axt_0 cxt_0⟩) rfl (by kernel_rfl) rfl fun b1 => ?_)))
 refine Ok.op rfl (OpOk.alloc (z := .agg #[.slice none 0 0, .int .i64 0]) (cs := #[.slice none 0 0, .int .i64 0]) (by kernel_rfl) (by kernel_rfl) rfl fun b2 => ?_)
 refine Ok.batch 1 [(1, sv xref), (2, sv xstate), (3, pv b1 0), (6, pv b2 0)] (by kernel_rfl) (Ok.nil (Ok.thenN (Ok.seq (Ok.region (Ok.op rfl (OpOk.step (v := .agg ⟨vT xt axt_0 cxt_0⟩) (Yields.loadAgg 1 2 ⟨vT xt axt_0 cxt_0⟩ rfl rfl Tryz.underlying24 rfl (by kernel_rfl) (by kernel_rfl) (by kernel_rfl)) rfl rfl (Ok.bat 2 [3, 6] [(12, .agg ⟨vT xt axt_0 cxt_0⟩), (13, sv xref), (14, sv xstate)] ?_)))))))
 refine Ok.op rfl (OpOk.callG (v := .tuple #[.agg ⟨vE (owS xt xref xstate).1⟩, .int .i64 (owS xt xref xstate).2]) enr (fun W hW => wow_c xt xref xstate (hRxt_0.mono hW.sees) (hG0.mono hW.sees) (hG1.mono hW.sees) (hG2.mono hW.sees) (hG3.mono hW.sees) (hG4.mono hW.sees) (hG5.mono hW.sees)) rfl ?_)
 refine Ok.bat 3 [3, 6] [(16, .agg ⟨vE (owS xt xref xstate).1⟩), (17, .int .i64 (owS xt xref xstate).2)] ?_
 refine Ok.op rfl (OpOk.alloc (z := .agg #[sv ([] : Bs), sv ([] : Bs), .int .i64 0]) (cs := #[sv ([] : Bs), sv ([] : Bs), .int .i64 0]) (by kernel_rfl) (by kernel_rfl) rfl fun b3 => ?_)
 refine Ok.op rfl (OpOk.sto (k := 3) (v := .agg ⟨vE (owS xt xref xstate).1⟩) 0 ⟨vE (owS xt xref xstate).1⟩ rfl rfl rfl ?_)
 refine Ok.bat 1 [3, 6] [(8, pv b3 0), (9, .int .i64 (owS xt xref xstate).2)] ?_
 refine Ok.nil (Ok.thenN (Ok.seq (Ok.seq (Ok.region (Ok.bat 2 [3, 6, 8, 9] [(19, .bool ((owS xt xref xstate).2 != 0))] ?_)))))
 refine Ok.nil (Ok.thenN (Ok.cond (b := ((owS xt xref xstate).2 != 0)) rfl (fun hc4 => ?_) (fun hc4 => ?_)))
 ·replace hF := hF.1 hc4
  refine Ok.seq (Ok.region (Ok.bat 2 [6] [(20, .agg #[.slice none 0 0, .int .i64 0]), (21, .int .i64 (owS xt xref xstate).2)] ?_))
  refine Ok.op rfl (OpOk.sto (k := 2) (v := .agg #[.slice none 0 0, .int .i64 0]) 1 #[.slice none 0 0, .int .i64 0] rfl rfl rfl ?_)
  refine Ok.bat 1 [6] [(7, .int .i64 (owS xt xref xstate).2)] ?_
  refine Ok.nil (Ok.thenN (Ok.ret (Ok.thenR ?_)))
  exact Ok.resP (vs := [.agg #[.slice none 0 0, .int .i64 0], .int .i64 (owS xt xref xstate).2]) [] [] (by decide) rfl (.inl rfl) rfl (.cons (.cellAgg 1 2 #[.slice none 0 0, .int .i64 0] rfl rfl Tryz.underlying24 rfl (by kernel_rfl) (by kernel_rfl) (by kernel_rfl)) (.cons (.tmp rfl) .nil)) (Gext.refl w0 g) ⟨([], 0), (owS xt xref xstate).2, none, 0, rfl, Rep.nil, rfl, hF⟩
 ·replace hF := hF.2 hc4
  refine Ok.skip (Ok.thenN (Ok.seq (Ok.region (Ok.bat 1 [3, 6, 8] [(22, pv b1 0)] ?_))))
  refine Ok.op rfl (OpOk.step (v := .slice axt_0 xt.1.length cxt_0) (Yields.load 2 rfl rfl Tryz.underlying22 rfl (by kernel_rfl)) rfl rfl ?_)
  obtain ⟨hp5, hF⟩ := hF
  refine Ok.op rfl (OpOk.callH [] _ enr rfl (wcl_c xt.1 hRxt_0 hp5) rfl fun g6 _ _ hx6 hV6 => ?_)
  obtain ⟨a6_0, c6_0, xs6_0, rfl, hL6_0, rfl⟩ := hV6
  replace hRxt_0 := hRxt_0.mono hx6.1
  replace hG0 := hG0.mono hx6.1
  replace hG1 := hG1.mono hx6.1
  replace hG2 := hG2.mono hx6.1
  replace hG3 := hG3.mono hx6.1
  replace hG4 := hG4.mono hx6.1
  replace hG5 := hG5.mono hx6.1
  refine Ok.bat 1 [3, 6, 8] [(10, .slice a6_0 (wclS xt.1).length c6_0)] ?_
  refine Ok.nil (Ok.thenN (Ok.seq (Ok.region (Ok.bat 2 [3, 6, 8, 10] [(25, .slice a6_0 (wclS xt.1).length c6_0), (26, pv b1 1)] ?_))))
  refine Ok.op rfl (OpOk.step (v := .int .i64 xt.2) (Yields.load 3 rfl rfl Tryz.underlying3 rfl (by kernel_rfl)) rfl rfl (Ok.op rfl (OpOk.step (v := .agg ⟨vE (owS xt xref xstate).1⟩) (Yields.loadAgg 1 3 ⟨vE (owS xt xref xstate).1⟩ rfl rfl Tryz.underlying36 rfl (by kernel_rfl) (by kernel_rfl) (by kernel_rfl)) rfl rfl ?_)))
  obtain ⟨h08, h18, hF⟩ := hF
  have he8 := get_of (l := (wclS xt.1)) (default : Bs × Bs × Int) h18
  generalize hg8 : ((wclS xt.1).getD (Int.toNat xt.2) default) = e8 at he8 hF ⊢
  refine Ok.op rfl (OpOk.indexOwn (e := .pair (.str) (.pair (.str) (.int .i64))) (q := xt.2) (el := e8) 0 rfl hL6_0 rfl rfl Tryz.underlying22 (by kernel_rfl) (by kernel_rfl) h08 he8 rfl fun cs7 _ hr7 hc7 => ?_)
  obtain ⟨_, _, rfl, rfl, ⟨_, _, rfl, rfl, rfl⟩⟩ := hr7
  replace hc7 : ∀ j v, ((vE e8) : List Value)[j]? = some v → xs6_0[Int.toNat xt.2 * 3 + j]? = some v := hc7
  refine Ok.op rfl (OpOk.storeOwn (e := .pair (.str) (.pair (.str) (.int .i64))) (q := Int.toNat xt.2) (cells := (vE e8)) (vs := (vE (owS xt xref xstate).1)) (el' := (owS xt xref xstate).1) 0 0 3 rfl hL6_0 hc7 (by kernel_rfl) rfl rfl rfl (by kernel_rfl) (by kernel_rfl) (by kernel_rfl) (by kernel_rfl) (by kernel_rfl) (show Rep _ _ (vE (owS xt xref xstate).1) _ from ⟨[sv ((owS xt xref xstate).1.1)], [sv ((owS xt xref xstate).1.2.1), .int .i64 (owS xt xref xstate).1.2.2], rfl, rfl, ⟨[sv ((owS xt xref xstate).1.2.1)], [.int .i64 (owS xt xref xstate).1.2.2], rfl, rfl, rfl⟩⟩) fun xs9 hL9 => ?_)
  rw [show (wclS xt.1).length = ((wclS xt.1).set (Int.toNat xt.2) (owS xt xref xstate).1).length from (List.length_set ..).symm]
  refine Ok.nil (Ok.thenN (Ok.seq (Ok.region (Ok.bat 2 [6] [(30, .slice a6_0 ((wclS xt.1).set (Int.toNat xt.2) (owS xt xref xstate).1).length c6_0), (31, pv b1 1)] ?_))))
  refine Ok.op rfl (OpOk.step (v := .int .i64 xt.2) (Yields.load 3 rfl rfl Tryz.underlying3 rfl (by kernel_rfl)) rfl rfl (Ok.bat 1 [6] [(33, .agg #[.slice a6_0 ((wclS xt.1).set (Int.toNat xt.2) (owS xt xref xstate).1).length c6_0, .int .i64 xt.2])] ?_))
  refine Ok.op rfl (OpOk.sto (k := 2) (v := .agg #[.slice a6_0 ((wclS xt.1).set (Int.toNat xt.2) (owS xt xref xstate).1).length c6_0, .int .i64 xt.2]) 2 #[.slice a6_0 ((wclS xt.1).set (Int.toNat xt.2) (owS xt xref xstate).1).length c6_0, .int .i64 xt.2] rfl rfl rfl ?_)
  refine Ok.bat 1 [6] [(7, .int .i64 0)] ?_
  refine Ok.nil (Ok.thenN (Ok.ret (Ok.frz 0 rfl hL9 fun g10 hx10 hRf10 => ?_)))
  replace hRxt_0 := hRxt_0.mono hx10.1
  replace hG0 := hG0.mono hx10.1
  replace hG1 := hG1.mono hx10.1
  replace hG2 := hG2.mono hx10.1
  replace hG3 := hG3.mono hx10.1
  replace hG4 := hG4.mono hx10.1
  replace hG5 := hG5.mono hx10.1
  exact Ok.resP (vs := [.agg #[.slice a6_0 ((wclS xt.1).set (Int.toNat xt.2) (owS xt xref xstate).1).length c6_0, .int .i64 xt.2], .int .i64 0]) [] [] (by decide) rfl (.inl rfl) rfl (.cons (.cellAgg 1 2 #[.slice a6_0 ((wclS xt.1).set (Int.toNat xt.2) (owS xt xref xstate).1).length c6_0, .int .i64 xt.2] rfl rfl Tryz.underlying24 rfl (by kernel_rfl) (by kernel_rfl) (by kernel_rfl)) (.cons (.tmp rfl) .nil)) (hx6.trans hx10) ⟨(((wclS xt.1).set (Int.toNat xt.2) (owS xt xref xstate).1), xt.2), 0, a6_0, c6_0, rfl, hRf10, rfl, hF⟩
def rpS0 (t : JTr) (r s : Bs) : JTr × Int := if ((owS t r s).2 != 0) = true then (([], 0), (owS t r s).2) else ((t.1.set (Int.toNat t.2) (owS t r s).1, t.2), 0)
noncomputable def rpS : JTr → Bs → Bs → JTr × Int := Classical.choose (rigid rpS0)
theorem rpS_eq : rpS = rpS0 := Classical.choose_spec (rigid rpS0)
theorem here_cl {t : JTr} (hh : hereP t) (hl : t.1.length ≤ 50) : wclP t.1 := by
 refine ⟨fun h0 => ?_, by omega⟩
 have h := hh.2
 rw [h0] at h; exact Nat.not_lt_zero _ h
theorem wrp_F (t : JTr) (r s : Bs) : wrpF t r s (fun a b => (a, b) = rpS t r s) := by
 rw [rpS_eq]
 unfold rpS0
 refine ⟨fun h => by rw [if_t h], fun h => ?_⟩
 rw [if_f h]
 obtain ⟨hh, hl, -⟩ := chk_zero (ow_ok (t := t) (r := r) (s := s) (by simpa using h))
 exact ⟨here_cl hh hl, hh.1, hh.2, rfl⟩
theorem wrp_c {g : Ghost} {axt_0 : Option Addr} {cxt_0 : Nat} (xt : (List (Bs × Bs × Int)) × Int) (xref : Bs) (xstate : Bs) (hRxt_0 : Rep g (.slice (.pair (.str) (.pair (.str) (.int .i64)))) [.slice axt_0 xt.1.length cxt_0] xt.1) (hG0 : SomeInt g 0) (hG1 : GlobL g 1 (.int .u64) DPow) (hG2 : SomeIf g 2) (hG3 : SomeIf g 3) (hG4 : GlobL g 4 (.int .u8) DFirst) (hG5 : GlobL g 5 (.pair (.int .u8) (.int .u8)) DAcc)  : CallsH Tryz.prog 7 #[.agg ⟨vT xt axt_0 cxt_0⟩, sv xref, sv xstate] g [] (fun g' H' v => ∃ (ar0_0 : Option Addr) (cr0_0 : Nat), v = .tuple #[.agg ⟨vT (rpS xt xref xstate).1 ar0_0 cr0_0⟩, .int .i64 (rpS xt xref xstate).2] ∧ Rep g' (.slice (.pair (.str) (.pair (.str) (.int .i64)))) [.slice ar0_0 (rpS xt xref xstate).1.1.length cr0_0] (rpS xt xref xstate).1.1 ∧ H' = []) :=
 (wrp_ok xt xref xstate hRxt_0 hG0 hG1 hG2 hG3 hG4 hG5 _ (wrp_F xt xref xstate)).mono (by rintro g' H' v _ ⟨r0, r1, ar0_0, cr0_0, rfl, hRr0_0, rfl, hK⟩; obtain ⟨rfl, rfl⟩ : r0 = (rpS xt xref xstate).1 ∧ r1 = (rpS xt xref xstate).2 := ⟨congrArg (fun z => z.1) hK, congrArg (fun z => z.2) hK⟩; exact ⟨ar0_0, cr0_0, rfl, hRr0_0, rfl⟩)
def wgoV0 (xt : (List (Bs × Bs × Int)) × Int) (xn : Int) : Bool :=
 ((decide (xn < (w6 (0 - xt.2)))) || (decide (xn ≥ (w6 ((xt.1.length : Int) - xt.2)))))
def wgoj14 (xt : (List (Bs × Bs × Int)) × Int) (xn : Int) (K : ((List (Bs × Bs × Int)) × Int) → Bool → Int → Prop) : Prop :=
 (((wgoV0 xt xn)) = true → K ([], 0) false 5) ∧ (((wgoV0 xt xn)) = false → (wclP xt.1 ∧ hereP ((wclS xt.1), w6 (xt.2 + xn)) ∧ hereP xt ∧ K ((wclS xt.1), w6 (xt.2 + xn)) ((hereS ((wclS xt.1), w6 (xt.2 + xn))).2.2 != (hereS xt).2.2) 0) ∧ (wclP xt.1 ∧ hereP ((wclS xt.1), w6 (xt.2 + xn)) ∧ hereP xt ∧ K ((wclS xt.1), w6 (xt.2 + xn)) ((hereS ((wclS xt.1), w6 (xt.2 + xn))).2.2 != (hereS xt).2.2) 0))
def wgoF (xt : (List (Bs × Bs × Int)) × Int) (xn : Int) (K : ((List (Bs × Bs × Int)) × Int) → Bool → Int → Prop) : Prop :=
 ((((chkT xt) != 0)) = true → K ([], 0) false (chkT xt)) ∧ ((((chkT xt) != 0)) = false → ((decide (xn < (w6 (0 - xt.2)))) = true → wgoj14 xt xn K) ∧ ((decide (xn < (w6 (0 - xt.2)))) = false → wgoj14 xt xn K))
theorem wgo_ok {g : Ghost} {axt_0 : Option Addr} {cxt_0 : Nat} (xt : (List (Bs × Bs × Int)) × Int) (xn : Int) (hRxt_0 : Rep g (.slice (.pair (.str) (.pair (.str) (.int .i64)))) [.slice axt_0 xt.1.length cxt_0] xt.1) (hG0 : SomeInt g 0) (hG1 : GlobL g 1 (.int .u64) DPow) (hG2 : SomeIf g 2) (hG3 : SomeIf g 3) (hG4 : GlobL g 4 (.int .u8) DFirst) (hG5 : GlobL g 5 (.pair (.int .u8) (.int .u8)) DAcc) (K : ((List (Bs × Bs × Int)) × Int) → Bool → Int → Prop)
  (hF : wgoF xt xn K) : CallsH Tryz.prog 8 #[.agg ⟨vT xt axt_0 cxt_0⟩, .int .i64 xn] g [] (fun g' H' v => ∃ (r0 : (List (Bs × Bs × Int)) × Int), ∃ (r1 : Bool), ∃ (r2 : Int), ∃ (ar0_0 : Option Addr) (cr0_0 : Nat), v = .tuple #[.agg ⟨vT r0 ar0_0 cr0_0⟩, .bool r1, .int .i64 r2] ∧ Rep g' (.slice (.pair (.str) (.pair (.str) (.int .i64)))) [.slice ar0_0 r0.1.length cr0_0] r0.1 ∧ H' = [] ∧ K r0 r1 r2) := by
 refine CallsH.enter 47 [(0, .agg ⟨vT xt axt_0 cxt_0⟩), (1, .int .i64 xn)] Tryz.func8 rfl (by kernel_rfl) (by kernel_rfl) (by kernel_rfl) fun w0 => ?_
 refine Ok.seq (Ok.region (Ok.op rfl (OpOk.box (v := .agg ⟨vT xt axt_0 cxt_0⟩) (cs := ⟨vT xt axt_0 cxt_0⟩) rfl (by kernel_rfl) rfl fun b1 => ?_)))
 refine Ok.op rfl (OpOk.alloc (z := .agg #[.slice none 0 0, .int .i64 0]) (cs := #[.slice none 0 0, .int .i64 0]) (by kernel_rfl) (by kernel_rfl) rfl fun b2 => ?_)
 refine Ok.batch 2 [(1, .int .i64 xn), (2, pv b1 0), (4, pv b2 0)] (by kernel_rfl) (Ok.nil (Ok.thenN (Ok.seq (Ok.seq (Ok.region (Ok.op rfl (OpOk.step (v := .agg ⟨vT xt axt_0 cxt_0⟩) (Yields.loadAgg 1 2 ⟨vT xt axt_0 cxt_0⟩ rfl rfl Tryz.underlying24 rfl (by kernel_rfl) (by kernel_rfl) (by kernel_rfl)) rfl rfl (Ok.op rfl (OpOk.callG (v := .int .i64 (chkT xt)) enr (fun W hW => wck_c xt (hRxt_0.mono hW.sees) (hG0.mono hW.sees) (hG1.mono hW.sees) (hG2.mono hW.sees) (hG3.mono hW.sees) (hG4.mono hW.sees) (hG5.mono hW.sees)) rfl ?_)))))))))
 refine Ok.bat 1 [1, 2, 4] [(7, .int .i64 (chkT xt))] ?_
 refine Ok.nil (Ok.thenN (Ok.seq (Ok.region (Ok.bat 2 [1, 2, 4, 7] [(12, .bool ((chkT xt) != 0))] ?_))))
 refine Ok.nil (Ok.thenN (Ok.cond (b := ((chkT xt) != 0)) rfl (fun hc3 => ?_) (fun hc3 => ?_)))
 ·replace hF := hF.1 hc3
  refine Ok.seq (Ok.region (Ok.bat 2 [4] [(13, .agg #[.slice none 0 0, .int .i64 0]), (14, .int .i64 (chkT xt))] ?_))
  refine Ok.op rfl (OpOk.sto (k := 2) (v := .agg #[.slice none 0 0, .int .i64 0]) 0 #[.slice none 0 0, .int .i64 0] rfl rfl rfl ?_)
  refine Ok.bat 2 [4] [(5, .bool false), (6, .int .i64 (chkT xt))] ?_
  refine Ok.nil (Ok.thenN (Ok.ret (Ok.thenR ?_)))
  exact Ok.resP (vs := [.agg #[.slice none 0 0, .int .i64 0], .bool false, .int .i64 (chkT xt)]) [] [] (by decide) rfl (.inl rfl) rfl (.cons (.cellAgg 0 2 #[.slice none 0 0, .int .i64 0] rfl rfl Tryz.underlying24 rfl (by kernel_rfl) (by kernel_rfl) (by kernel_rfl)) (.cons (.tmp rfl) (.cons (.tmp rfl) .nil))) (Gext.refl w0 g) ⟨([], 0), false, (chkT xt), none, 0, rfl, Rep.nil, rfl, hF⟩
 ·replace hF := hF.2 hc3
  refine Ok.skip (Ok.thenN (Ok.seq (Ok.cut (fun a W => ∃ gj14 : Ghost, Gext w0 g gj14 ∧ StA 47 [(1, .int .i64 xn), (2, pv b1 0), (4, pv b2 0), (29, .bool (wgoV0 xt xn))] a ∧ StW w0 [.blk b2 (.cells #[.slice none 0 0, .int .i64 0] 24), .blk b1 (.cells ⟨vT xt axt_0 cxt_0⟩ 24)] gj14 W ∧ wgoj14 xt xn K) ?_ ?_)))
  ·
   refine Ok.region (Ok.bat 2 [1, 2, 4] [(15, .int .i64 xn), (16, pv b1 1)] ?_)
   refine Ok.op rfl (OpOk.step (v := .int .i64 xt.2) (Yields.load 1 rfl rfl Tryz.underlying3 rfl (by kernel_rfl)) rfl rfl (Ok.bat 3 [1, 2, 4] [(20, .bool (decide (xn < (w6 (0 - xt.2)))))] ?_))
   refine Ok.boolAt 20 (decide (xn < (w6 (0 - xt.2)))) rfl (fun hc17 => ?_) (fun hc17 => ?_)
   ·replace hF := hF.1 hc17
    refine Ok.bat 9 [1, 2, 4] [(29, .bool true)] ?_
    refine Ok.nil (Ok.thenN (Ok.reval 29 rfl (show (.bool true : Value) = .bool (wgoV0 xt xn) from congrArg (Value.bool) (mor_t hc17)) ?_))
    exact fun a W hA hW => ⟨g, (Gext.refl w0 g), hA.sub (by kernel_rfl), hW, hF⟩
   ·replace hF := hF.2 hc17
    refine Ok.bat 2 [1, 2, 4] [(20, .bool false), (21, .int .i64 xn), (22, pv b1 0)] ?_
    refine Ok.opYes (j := 5) (d := 20) (want := false) (b := false) rfl (by kernel_rfl) (by kernel_rfl) rfl (OpOk.step (v := .slice axt_0 xt.1.length cxt_0) (Yields.load 1 rfl rfl Tryz.underlying22 rfl (by kernel_rfl)) rfl rfl (Ok.bat 2 [1, 2, 4, 20, 21] [(24, .int .i64 (xt.1.length : Int)), (25, pv b1 1)] ?_))
    refine Ok.opYes (j := 5) (d := 20) (want := false) (b := false) rfl (by kernel_rfl) (by kernel_rfl) rfl (OpOk.step (v := .int .i64 xt.2) (Yields.load 1 rfl rfl Tryz.underlying3 rfl (by kernel_rfl)) rfl rfl (Ok.bat 3 [1, 2, 4] [(29, .bool (decide (xn ≥ (w6 ((xt.1.length : Int) - xt.2)))))] ?_))
    refine Ok.nil (Ok.thenN (Ok.reval 29 rfl (show (.bool (decide (xn ≥ (w6 ((xt.1.length : Int) - xt.2)))) : Value) = .bool (wgoV0 xt xn) from congrArg (Value.bool) (mor_f hc17)) ?_))
    exact fun a W hA hW => ⟨g, (Gext.refl w0 g), hA.sub (by kernel_rfl), hW, hF⟩
  ·
   clear hF
   rintro a W ⟨gj14, hxj14, hA, hW, hF⟩
   refine (?_ : Ok _ _ _ _ _ _) a W hA hW
   clear hA hW
   replace hRxt_0 := hRxt_0.mono hxj14.1
   replace hG0 := hG0.mono hxj14.1
   replace hG1 := hG1.mono hxj14.1
   replace hG2 := hG2.mono hxj14.1
   replace hG3 := hG3.mono hxj14.1
   replace hG4 := hG4.mono hxj14.1
   replace hG5 := hG5.mono hxj14.1
   refine Ok.cond (b := (wgoV0 xt xn)) rfl (fun hc4 => ?_) (fun hc4 => ?_)
   ·replace hF := hF.1 hc4
    refine Ok.seq (Ok.region (Ok.bat 1 [4] [(30, .agg #[.slice none 0 0, .int .i64 0])] ?_))
    refine Ok.op rfl (OpOk.sto (k := 2) (v := .agg #[.slice none 0 0, .int .i64 0]) 0 #[.slice none 0 0, .int .i64 0] rfl rfl rfl ?_)
    refine Ok.bat 2 [4] [(5, .bool false), (6, .int .i64 5)] ?_
    refine Ok.nil (Ok.thenN (Ok.ret (Ok.thenR ?_)))
    exact Ok.resP (vs := [.agg #[.slice none 0 0, .int .i64 0], .bool false, .int .i64 5]) [] [] (by decide) rfl (.inl rfl) rfl (.cons (.cellAgg 0 2 #[.slice none 0 0, .int .i64 0] rfl rfl Tryz.underlying24 rfl (by kernel_rfl) (by kernel_rfl) (by kernel_rfl)) (.cons (.tmp rfl) (.cons (.tmp rfl) .nil))) hxj14 ⟨([], 0), false, 5, none, 0, rfl, Rep.nil, rfl, hF⟩
   ·replace hF := hF.2 hc4
    refine Ok.skip (Ok.thenN (Ok.seq (Ok.fork [] [] [.blk b2 (.cells #[.slice none 0 0, .int .i64 0] 24), .blk b1 (.cells ⟨vT xt axt_0 cxt_0⟩ 24)] [(0, true), (1, true), (3, true), (4, true), (5, true), (6, true)] 2 [(7, true), (8, false), (9, false)] 8 [(2, false), (7, true), (9, false)] (by kernel_rfl) (by kernel_rfl) (.cons_cons _ (.cons_cons _ .slnil)) (OkM.bat 1 [1, 2, 4] [(31, pv b1 0)] ?_))))
    refine OkM.head rfl rfl (show _ = [.blk b2 (.cells #[.slice none 0 0, .int .i64 0] 24), .blk b1 (.cells ⟨vT xt axt_0 cxt_0⟩ 24)] from rfl) (OpQ.step (v := .slice axt_0 xt.1.length cxt_0) (Yields.load 1 rfl rfl Tryz.underlying22 rfl (by kernel_rfl)) rfl rfl (OkM.bat 1 [1, 2, 4] [(32, .slice axt_0 xt.1.length cxt_0), (34, pv b1 1)] ?_))
    refine OkM.head rfl rfl (show _ = [.blk b2 (.cells #[.slice none 0 0, .int .i64 0] 24), .blk b1 (.cells ⟨vT xt axt_0 cxt_0⟩ 24)] from rfl) (OpQ.step (v := .int .i64 xt.2) (Yields.load 1 rfl rfl Tryz.underlying3 rfl (by kernel_rfl)) rfl rfl (OkM.bat 2 [2, 4, 32] [(37, .int .i64 (w6 (xt.2 + xn)))] ?_))
    refine OkM.nil (Ok.both ?_ ?_)
    ·replace hF := hF.1
     obtain ⟨hp5, hF⟩ := hF
     refine OkM.tail rfl rfl (OpOk.callH [] _ enr rfl (wcl_c xt.1 hRxt_0 hp5) rfl fun g6 _ _ hx6 hV6 => ?_)
     obtain ⟨a6_0, c6_0, xs6_0, rfl, hL6_0, rfl⟩ := hV6
     replace hRxt_0 := hRxt_0.mono hx6.1
     replace hG0 := hG0.mono hx6.1
     replace hG1 := hG1.mono hx6.1
     replace hG2 := hG2.mono hx6.1
     replace hG3 := hG3.mono hx6.1
     replace hG4 := hG4.mono hx6.1
     replace hG5 := hG5.mono hx6.1
     refine OkM.leaf (i := 2) (show _ = [.blk b2 (.cells #[.slice none 0 0, .int .i64 0] 24), .blk b1 (.cells ⟨vT xt axt_0 cxt_0⟩ 24)] from rfl) hx6.1 (.cons _ (.cons_cons _ (.cons_cons _ .slnil))) (OkM.bat 1 [2, 4] [(38, .agg #[.slice a6_0 (wclS xt.1).length c6_0, .int .i64 (w6 (xt.2 + xn))])] ?_)
     refine OkM.tail rfl rfl (OpOk.alloc (z := .agg #[.slice none 0 0, .int .i64 0]) (cs := #[.slice none 0 0, .int .i64 0]) (by kernel_rfl) (by kernel_rfl) rfl fun b7 => ?_)
     refine OkM.leaf (i := 8) (show _ = [.blk b2 (.cells #[.slice none 0 0, .int .i64 0] 24), .blk b1 (.cells ⟨vT xt axt_0 cxt_0⟩ 24)] from rfl) hx6.1 (.cons _ (.cons _ (.cons_cons _ (.cons_cons _ .slnil)))) (OkM.tail rfl rfl (OpOk.sto (k := 2) (v := .agg #[.slice a6_0 (wclS xt.1).length c6_0, .int .i64 (w6 (xt.2 + xn))]) 0 #[.slice a6_0 (wclS xt.1).length c6_0, .int .i64 (w6 (xt.2 + xn))] rfl rfl rfl ?_))
     refine OkM.leaf (i := 9) (show _ = [.blk b2 (.cells #[.slice none 0 0, .int .i64 0] 24), .blk b1 (.cells ⟨vT xt axt_0 cxt_0⟩ 24)] from rfl) hx6.1 (.cons _ (.cons _ (.cons_cons _ (.cons_cons _ .slnil)))) (OkM.nil (Ok.thenN (Ok.seq (Ok.mix [] [] [.blk b7 (.cells #[.slice a6_0 (wclS xt.1).length c6_0, .int .i64 (w6 (xt.2 + xn))] 24), .own (.slice a6_0 (wclS xt.1).length c6_0) 36 3 (wclS xt.1).length xs6_0, .blk b1 (.cells ⟨vT xt axt_0 cxt_0⟩ 24)] [(0, true), (1, true), (2, true), (3, true), (4, true), (5, true), (6, true), (7, true), (8, false), (9, true), (10, true)] (by kernel_rfl) (by kernel_rfl) (.cons_cons _ (.cons_cons _ (.cons _ (.cons_cons _ .slnil)))) (OkM.head rfl rfl (show _ = [.blk b7 (.cells #[.slice a6_0 (wclS xt.1).length c6_0, .int .i64 (w6 (xt.2 + xn))] 24), .own (.slice a6_0 (wclS xt.1).length c6_0) 36 3 (wclS xt.1).length xs6_0, .blk b1 (.cells ⟨vT xt axt_0 cxt_0⟩ 24)] from rfl) (OpQ.step (v := .agg #[.slice a6_0 (wclS xt.1).length c6_0, .int .i64 (w6 (xt.2 + xn))]) (Yields.loadAgg 0 2 #[.slice a6_0 (wclS xt.1).length c6_0, .int .i64 (w6 (xt.2 + xn))] rfl rfl Tryz.underlying24 rfl (by kernel_rfl) (by kernel_rfl) (by kernel_rfl)) rfl rfl (OkM.head rfl rfl (show _ = [.blk b7 (.cells #[.slice a6_0 (wclS xt.1).length c6_0, .int .i64 (w6 (xt.2 + xn))] 24), .own (.slice a6_0 (wclS xt.1).length c6_0) 36 3 (wclS xt.1).length xs6_0, .blk b1 (.cells ⟨vT xt axt_0 cxt_0⟩ 24)] from rfl) (OpQ.step (v := .agg #[.slice a6_0 (wclS xt.1).length c6_0, .int .i64 (w6 (xt.2 + xn))]) (Yields.loadAgg 0 2 #[.slice a6_0 (wclS xt.1).length c6_0, .int .i64 (w6 (xt.2 + xn))] rfl rfl Tryz.underlying24 rfl (by kernel_rfl) (by kernel_rfl) (by kernel_rfl)) rfl rfl ?_))))))))
     obtain ⟨hp8, hF⟩ := hF
     refine OkM.head rfl rfl (show _ = [.blk b7 (.cells #[.slice a6_0 (wclS xt.1).length c6_0, .int .i64 (w6 (xt.2 + xn))] 24), .own (.slice a6_0 (wclS xt.1).length c6_0) 36 3 (wclS xt.1).length xs6_0, .blk b1 (.cells ⟨vT xt axt_0 cxt_0⟩ 24)] from rfl) (OpQ.callG (v := .agg ⟨vE (hereS ((wclS xt.1), w6 (xt.2 + xn)))⟩) enr (fun W hW => whr_c ((wclS xt.1), w6 (xt.2 + xn)) (hW.seeOwn 1 rfl hL6_0) hp8) rfl ?_)
     refine OkM.bat 1 [2, 4] [(39, .agg #[.slice a6_0 (wclS xt.1).length c6_0, .int .i64 (w6 (xt.2 + xn))]), (42, .int .i64 (hereS ((wclS xt.1), w6 (xt.2 + xn))).2.2)] ?_
     refine OkM.head rfl rfl (show _ = [.blk b7 (.cells #[.slice a6_0 (wclS xt.1).length c6_0, .int .i64 (w6 (xt.2 + xn))] 24), .own (.slice a6_0 (wclS xt.1).length c6_0) 36 3 (wclS xt.1).length xs6_0, .blk b1 (.cells ⟨vT xt axt_0 cxt_0⟩ 24)] from rfl) (OpQ.step (v := .agg ⟨vT xt axt_0 cxt_0⟩) (Yields.loadAgg 2 2 ⟨vT xt axt_0 cxt_0⟩ rfl rfl Tryz.underlying24 rfl (by kernel_rfl) (by kernel_rfl) (by kernel_rfl)) rfl rfl ?_)
     obtain ⟨hp9, hF⟩ := hF
     refine OkM.head rfl rfl (show _ = [.blk b7 (.cells #[.slice a6_0 (wclS xt.1).length c6_0, .int .i64 (w6 (xt.2 + xn))] 24), .own (.slice a6_0 (wclS xt.1).length c6_0) 36 3 (wclS xt.1).length xs6_0, .blk b1 (.cells ⟨vT xt axt_0 cxt_0⟩ 24)] from rfl) (OpQ.callG (v := .agg ⟨vE (hereS xt)⟩) enr (fun W hW => whr_c xt (hRxt_0.mono hW.sees) hp9) rfl ?_)
     refine OkM.bat 2 [4, 39] [(46, .bool ((hereS ((wclS xt.1), w6 (xt.2 + xn))).2.2 != (hereS xt).2.2))] ?_
     refine OkM.tail rfl rfl (OpOk.sto (k := 2) (v := .agg #[.slice a6_0 (wclS xt.1).length c6_0, .int .i64 (w6 (xt.2 + xn))]) 2 #[.slice a6_0 (wclS xt.1).length c6_0, .int .i64 (w6 (xt.2 + xn))] rfl rfl rfl ?_)
     refine OkM.leaf (i := 8) (show _ = [.blk b7 (.cells #[.slice a6_0 (wclS xt.1).length c6_0, .int .i64 (w6 (xt.2 + xn))] 24), .own (.slice a6_0 (wclS xt.1).length c6_0) 36 3 (wclS xt.1).length xs6_0, .blk b1 (.cells ⟨vT xt axt_0 cxt_0⟩ 24)] from rfl) (Gle.refl _) (.cons_cons _ (.cons_cons _ (.cons _ (.cons_cons _ .slnil)))) (OkM.bat 2 [4] [(5, .bool ((hereS ((wclS xt.1), w6 (xt.2 + xn))).2.2 != (hereS xt).2.2)), (6, .int .i64 0)] ?_)
     refine OkM.nil (Ok.thenN (Ok.ret (Ok.frz 1 rfl hL6_0 fun g10 hx10 hRf10 => ?_)))
     replace hRxt_0 := hRxt_0.mono hx10.1
     replace hG0 := hG0.mono hx10.1
     replace hG1 := hG1.mono hx10.1
     replace hG2 := hG2.mono hx10.1
     replace hG3 := hG3.mono hx10.1
     replace hG4 := hG4.mono hx10.1
     replace hG5 := hG5.mono hx10.1
     exact Ok.resP (vs := [.agg #[.slice a6_0 (wclS xt.1).length c6_0, .int .i64 (w6 (xt.2 + xn))], .bool ((hereS ((wclS xt.1), w6 (xt.2 + xn))).2.2 != (hereS xt).2.2), .int .i64 0]) [] [] (by decide) rfl (.inl rfl) rfl (.cons (.cellAgg 1 2 #[.slice a6_0 (wclS xt.1).length c6_0, .int .i64 (w6 (xt.2 + xn))] rfl rfl Tryz.underlying24 rfl (by kernel_rfl) (by kernel_rfl) (by kernel_rfl)) (.cons (.tmp rfl) (.cons (.tmp rfl) .nil))) ((hxj14.trans hx6).trans hx10) ⟨((wclS xt.1), w6 (xt.2 + xn)), ((hereS ((wclS xt.1), w6 (xt.2 + xn))).2.2 != (hereS xt).2.2), 0, a6_0, c6_0, rfl, hRf10, rfl, hF⟩
    ·replace hF := hF.2
     refine OkM.tail rfl rfl (OpOk.alloc (z := .agg #[.slice none 0 0, .int .i64 0]) (cs := #[.slice none 0 0, .int .i64 0]) (by kernel_rfl) (by kernel_rfl) rfl fun b11 => ?_)
     refine OkM.leaf (i := 8) (show _ = [.blk b2 (.cells #[.slice none 0 0, .int .i64 0] 24), .blk b1 (.cells ⟨vT xt axt_0 cxt_0⟩ 24)] from rfl) (Gle.refl _) (.cons _ (.cons_cons _ (.cons_cons _ .slnil))) ?_
     obtain ⟨hp12, hF⟩ := hF
     refine OkM.tail rfl rfl (OpOk.callH [] _ enr rfl (wcl_c xt.1 hRxt_0 hp12) rfl fun g13 _ _ hx13 hV13 => ?_)
     obtain ⟨a13_0, c13_0, xs13_0, rfl, hL13_0, rfl⟩ := hV13
     replace hRxt_0 := hRxt_0.mono hx13.1
     replace hG0 := hG0.mono hx13.1
     replace hG1 := hG1.mono hx13.1
     replace hG2 := hG2.mono hx13.1
     replace hG3 := hG3.mono hx13.1
     replace hG4 := hG4.mono hx13.1
     replace hG5 := hG5.mono hx13.1
     refine OkM.leaf (i := 2) (show _ = [.blk b2 (.cells #[.slice none 0 0, .int .i64 0] 24), .blk b1 (.cells ⟨vT xt axt_0 cxt_0⟩ 24)] from rfl) hx13.1 (.cons _ (.cons _ (.cons_cons _ (.cons_cons _ .slnil)))) (OkM.bat 1 [2, 4] [(8, pv b11 0), (38, .agg #[.slice a13_0 (wclS xt.1).length c13_0, .int .i64 (w6 (xt.2 + xn))])] ?_)
     refine OkM.tail rfl rfl (OpOk.sto (k := 2) (v := .agg #[.slice a13_0 (wclS xt.1).length c13_0, .int .i64 (w6 (xt.2 + xn))]) 1 #[.slice a13_0 (wclS xt.1).length c13_0, .int .i64 (w6 (xt.2 + xn))] rfl rfl rfl ?_)
     refine OkM.leaf (i := 9) (show _ = [.blk b2 (.cells #[.slice none 0 0, .int .i64 0] 24), .blk b1 (.cells ⟨vT xt axt_0 cxt_0⟩ 24)] from rfl) hx13.1 (.cons _ (.cons _ (.cons_cons _ (.cons_cons _ .slnil)))) (OkM.nil (Ok.thenN (Ok.seq (Ok.mix [] [] [.own (.slice a13_0 (wclS xt.1).length c13_0) 36 3 (wclS xt.1).length xs13_0, .blk b11 (.cells #[.slice a13_0 (wclS xt.1).length c13_0, .int .i64 (w6 (xt.2 + xn))] 24), .blk b1 (.cells ⟨vT xt axt_0 cxt_0⟩ 24)] [(0, true), (1, true), (2, true), (3, true), (4, true), (5, true), (6, true), (7, true), (8, false), (9, true), (10, true)] (by kernel_rfl) (by kernel_rfl) (.cons_cons _ (.cons_cons _ (.cons _ (.cons_cons _ .slnil)))) (OkM.head rfl rfl (show _ = [.own (.slice a13_0 (wclS xt.1).length c13_0) 36 3 (wclS xt.1).length xs13_0, .blk b11 (.cells #[.slice a13_0 (wclS xt.1).length c13_0, .int .i64 (w6 (xt.2 + xn))] 24), .blk b1 (.cells ⟨vT xt axt_0 cxt_0⟩ 24)] from rfl) (OpQ.step (v := .agg #[.slice a13_0 (wclS xt.1).length c13_0, .int .i64 (w6 (xt.2 + xn))]) (Yields.loadAgg 1 2 #[.slice a13_0 (wclS xt.1).length c13_0, .int .i64 (w6 (xt.2 + xn))] rfl rfl Tryz.underlying24 rfl (by kernel_rfl) (by kernel_rfl) (by kernel_rfl)) rfl rfl (OkM.head rfl rfl (show _ = [.own (.slice a13_0 (wclS xt.1).length c13_0) 36 3 (wclS xt.1).length xs13_0, .blk b11 (.cells #[.slice a13_0 (wclS xt.1).length c13_0, .int .i64 (w6 (xt.2 + xn))] 24), .blk b1 (.cells ⟨vT xt axt_0 cxt_0⟩ 24)] from rfl) (OpQ.step (v := .agg #[.slice a13_0 (wclS xt.1).length c13_0, .int .i64 (w6 (xt.2 + xn))]) (Yields.loadAgg 1 2 #[.slice a13_0 (wclS xt.1).length c13_0, .int .i64 (w6 (xt.2 + xn))] rfl rfl Tryz.underlying24 rfl (by kernel_rfl) (by kernel_rfl) (by kernel_rfl)) rfl rfl ?_))))))))
     obtain ⟨hp14, hF⟩ := hF
     refine OkM.head rfl rfl (show _ = [.own (.slice a13_0 (wclS xt.1).length c13_0) 36 3 (wclS xt.1).length xs13_0, .blk b11 (.cells #[.slice a13_0 (wclS xt.1).length c13_0, .int .i64 (w6 (xt.2 + xn))] 24), .blk b1 (.cells ⟨vT xt axt_0 cxt_0⟩ 24)] from rfl) (OpQ.callG (v := .agg ⟨vE (hereS ((wclS xt.1), w6 (xt.2 + xn)))⟩) enr (fun W hW => whr_c ((wclS xt.1), w6 (xt.2 + xn)) (hW.seeOwn 0 rfl hL13_0) hp14) rfl ?_)
     refine OkM.bat 1 [2, 4] [(39, .agg #[.slice a13_0 (wclS xt.1).length c13_0, .int .i64 (w6 (xt.2 + xn))]), (42, .int .i64 (hereS ((wclS xt.1), w6 (xt.2 + xn))).2.2)] ?_
     refine OkM.head rfl rfl (show _ = [.own (.slice a13_0 (wclS xt.1).length c13_0) 36 3 (wclS xt.1).length xs13_0, .blk b11 (.cells #[.slice a13_0 (wclS xt.1).length c13_0, .int .i64 (w6 (xt.2 + xn))] 24), .blk b1 (.cells ⟨vT xt axt_0 cxt_0⟩ 24)] from rfl) (OpQ.step (v := .agg ⟨vT xt axt_0 cxt_0⟩) (Yields.loadAgg 2 2 ⟨vT xt axt_0 cxt_0⟩ rfl rfl Tryz.underlying24 rfl (by kernel_rfl) (by kernel_rfl) (by kernel_rfl)) rfl rfl ?_)
     obtain ⟨hp15, hF⟩ := hF
     refine OkM.head rfl rfl (show _ = [.own (.slice a13_0 (wclS xt.1).length c13_0) 36 3 (wclS xt.1).length xs13_0, .blk b11 (.cells #[.slice a13_0 (wclS xt.1).length c13_0, .int .i64 (w6 (xt.2 + xn))] 24), .blk b1 (.cells ⟨vT xt axt_0 cxt_0⟩ 24)] from rfl) (OpQ.callG (v := .agg ⟨vE (hereS xt)⟩) enr (fun W hW => whr_c xt (hRxt_0.mono hW.sees) hp15) rfl ?_)
     refine OkM.bat 2 [4, 39] [(46, .bool ((hereS ((wclS xt.1), w6 (xt.2 + xn))).2.2 != (hereS xt).2.2))] ?_
     refine OkM.tail rfl rfl (OpOk.sto (k := 2) (v := .agg #[.slice a13_0 (wclS xt.1).length c13_0, .int .i64 (w6 (xt.2 + xn))]) 2 #[.slice a13_0 (wclS xt.1).length c13_0, .int .i64 (w6 (xt.2 + xn))] rfl rfl rfl ?_)
     refine OkM.leaf (i := 8) (show _ = [.own (.slice a13_0 (wclS xt.1).length c13_0) 36 3 (wclS xt.1).length xs13_0, .blk b11 (.cells #[.slice a13_0 (wclS xt.1).length c13_0, .int .i64 (w6 (xt.2 + xn))] 24), .blk b1 (.cells ⟨vT xt axt_0 cxt_0⟩ 24)] from rfl) (Gle.refl _) (.cons_cons _ (.cons_cons _ (.cons _ (.cons_cons _ .slnil)))) (OkM.bat 2 [4] [(5, .bool ((hereS ((wclS xt.1), w6 (xt.2 + xn))).2.2 != (hereS xt).2.2)), (6, .int .i64 0)] ?_)
     refine OkM.nil (Ok.thenN (Ok.ret (Ok.frz 0 rfl hL13_0 fun g16 hx16 hRf16 => ?_)))
     replace hRxt_0 := hRxt_0.mono hx16.1
     replace hG0 := hG0.mono hx16.1
     replace hG1 := hG1.mono hx16.1
     replace hG2 := hG2.mono hx16.1
     replace hG3 := hG3.mono hx16.1
     replace hG4 := hG4.mono hx16.1
     replace hG5 := hG5.mono hx16.1
     exact Ok.resP (vs := [.agg #[.slice a13_0 (wclS xt.1).length c13_0, .int .i64 (w6 (xt.2 + xn))], .bool ((hereS ((wclS xt.1), w6 (xt.2 + xn))).2.2 != (hereS xt).2.2), .int .i64 0]) [] [] (by decide) rfl (.inl rfl) rfl (.cons (.cellAgg 1 2 #[.slice a13_0 (wclS xt.1).length c13_0, .int .i64 (w6 (xt.2 + xn))] rfl rfl Tryz.underlying24 rfl (by kernel_rfl) (by kernel_rfl) (by kernel_rfl)) (.cons (.tmp rfl) (.cons (.tmp rfl) .nil))) ((hxj14.trans hx13).trans hx16) ⟨((wclS xt.1), w6 (xt.2 + xn)), ((hereS ((wclS xt.1), w6 (xt.2 + xn))).2.2 != (hereS xt).2.2), 0, a13_0, c13_0, rfl, hRf16, rfl, hF⟩
def goS0 (t : JTr) (n : Int) : JTr × Bool × Int := if (chkT t != 0) = true then (([], 0), false, chkT t) else if wgoV0 t n = true then (([], 0), false, 5) else
 ((t.1, w6 (t.2 + n)), ((hereS (t.1, w6 (t.2 + n))).2.2 != (hereS t).2.2), 0)
noncomputable def goS : JTr → Int → JTr × Bool × Int := Classical.choose (rigid goS0)
theorem goS_eq : goS = goS0 := Classical.choose_spec (rigid goS0)
def i64P (n : Int) : Prop := -9223372036854775808 ≤ n ∧ n ≤ 9223372036854775807
def goP (t : JTr) (n : Int) : Prop := i64P n
theorem go_here {t : JTr} {n : Int} (hh : hereP t) (hl : t.1.length ≤ 50) (h : wgoV0 t n = false) : hereP (t.1, w6 (t.2 + n)) := by
 obtain ⟨h1, h2⟩ := hh
 unfold wgoV0 at h
 rw [Bool.or_eq_false_iff] at h
 have a := of_decide_eq_false h.1
 have b := of_decide_eq_false h.2
 rw [w64 (by omega)] at a b
 refine ⟨?_, ?_⟩
 ·show 0 ≤ w6 (t.2 + n)
  rw [w64 (by omega)]; omega
 ·show Int.toNat (w6 (t.2 + n)) < t.1.length
  rw [w64 (by omega)]; omega
theorem wgo_F (t : JTr) (n : Int) (hp : goP t n) : wgoF t n (fun a b c => (a, b, c) = goS t n) := by
 rw [goS_eq]
 unfold goS0
 refine ⟨fun h => by rw [if_t h], fun h => ?_⟩
 rw [if_f h]
 obtain ⟨hh, hl, -⟩ := chk_zero (t := t) (by simpa using h)
 have j14 : wgoj14 t n (fun a b c => (a, b, c) = if wgoV0 t n = true then (([], 0), false, 5) else
   ((t.1, w6 (t.2 + n)), ((hereS (t.1, w6 (t.2 + n))).2.2 != (hereS t).2.2), 0)) := by
  refine ⟨fun h => by rw [if_t h], fun h => ?_⟩
  rw [if_f h]
  have h8 := go_here hh hl h
  exact ⟨⟨here_cl hh hl, h8, hh, rfl⟩, here_cl hh hl, h8, hh, rfl⟩
 exact ⟨fun _ => j14, fun _ => j14⟩
theorem wgo_c {g : Ghost} {axt_0 : Option Addr} {cxt_0 : Nat} (xt : (List (Bs × Bs × Int)) × Int) (xn : Int) (hRxt_0 : Rep g (.slice (.pair (.str) (.pair (.str) (.int .i64)))) [.slice axt_0 xt.1.length cxt_0] xt.1) (hG0 : SomeInt g 0) (hG1 : GlobL g 1 (.int .u64) DPow) (hG2 : SomeIf g 2) (hG3 : SomeIf g 3) (hG4 : GlobL g 4 (.int .u8) DFirst) (hG5 : GlobL g 5 (.pair (.int .u8) (.int .u8)) DAcc)  (hp : goP xt xn) : CallsH Tryz.prog 8 #[.agg ⟨vT xt axt_0 cxt_0⟩, .int .i64 xn] g [] (fun g' H' v => ∃ (ar0_0 : Option Addr) (cr0_0 : Nat), v = .tuple #[.agg ⟨vT (goS xt xn).1 ar0_0 cr0_0⟩, .bool (goS xt xn).2.1, .int .i64 (goS xt xn).2.2] ∧ Rep g' (.slice (.pair (.str) (.pair (.str) (.int .i64)))) [.slice ar0_0 (goS xt xn).1.1.length cr0_0] (goS xt xn).1.1 ∧ H' = []) :=
 (wgo_ok xt xn hRxt_0 hG0 hG1 hG2 hG3 hG4 hG5 _ (wgo_F xt xn hp)).mono (by rintro g' H' v _ ⟨r0, r1, r2, ar0_0, cr0_0, rfl, hRr0_0, rfl, hK⟩; obtain ⟨rfl, rfl, rfl⟩ : r0 = (goS xt xn).1 ∧ r1 = (goS xt xn).2.1 ∧ r2 = (goS xt xn).2.2 := ⟨congrArg (fun z => z.1) hK, congrArg (fun z => z.2.1) hK, congrArg (fun z => z.2.2) hK⟩; exact ⟨ar0_0, cr0_0, rfl, hRr0_0, rfl⟩)
end
end Go.Proofs.YtdaagfgedkdmjaaGreatDoor.Ub
