/- Trails: slices of entries. -/
import Derived.Test.YtdaagfgedkdmjaaGreatDoorTwp
import Derived.Test.YtdaagfgedkdmjaaGreatDoorTnl
import Derived.Test.YtdaagfgedkdmjaaGreatDoorCuo
namespace Go.Proofs.YtdaagfgedkdmjaaGreatDoor.Ub
open Go Go.Eng Go.RowKit Go.Shelf Go.Proofs Bld Sp Ti Uc Ua Ui
set_option maxHeartbeats 4000000
set_option maxRecDepth 100000
set_option linter.unusedSimpArgs false
set_option linter.unusedVariables false
noncomputable section
def wixl7b (xs : List (Bs × Bs × Int)) (xf : (Bs × Bs × Int) → Bool) (pxf : (Bs × Bs × Int) → Prop) (K : Int → Prop) (x8l7 : Int) (C7 : Int → Prop) : Prop :=
 ((decide (x8l7 < (xs.length : Int))) = true → (0 : Int) ≤ x8l7 ∧ Int.toNat x8l7 < xs.length ∧ pxf (xs.getD (Int.toNat x8l7) default) ∧ (((xf (xs.getD (Int.toNat x8l7) default))) = true → K x8l7) ∧ (((xf (xs.getD (Int.toNat x8l7) default))) = false → C7 (w6 (x8l7 + 1)))) ∧ ((decide (x8l7 < (xs.length : Int))) = false → K (-1))
def wixl7 (xs : List (Bs × Bs × Int)) (xf : (Bs × Bs × Int) → Bool) (pxf : (Bs × Bs × Int) → Prop) (K : Int → Prop) : Nat → Int → Prop
 | 0, _ => False
 | k + 1, x8l7 => wixl7b xs xf pxf K x8l7 (wixl7 xs xf pxf K k)
def wixF (xs : List (Bs × Bs × Int)) (xf : (Bs × Bs × Int) → Bool) (pxf : (Bs × Bs × Int) → Prop) (K : Int → Prop) : Prop :=
 ∃ k, wixl7 xs xf pxf K k 0
theorem wix_ok {g : Ghost} {axs_0 : Option Addr} {cxs_0 : Nat} (xs : List (Bs × Bs × Int)) {vxf : Value} (xf : (Bs × Bs × Int) → Bool) (pxf : (Bs × Bs × Int) → Prop) (hRxs_0 : Rep g (.slice (.pair (.str) (.pair (.str) (.int .i64)))) [.slice axs_0 xs.length cxs_0] xs) (hfxf : ∀ (y0 : Bs × Bs × Int), pxf y0 → FnG Tryz.prog vxf #[.agg ⟨vE y0⟩] g (.bool (xf y0))) (K : Int → Prop)
  (hF : wixF xs xf pxf K) : CallsH Tryz.prog 55 #[.slice axs_0 xs.length cxs_0, vxf] g [] (fun g' H' v => ∃ (r0 : Int), v = .int .i64 r0 ∧ H' = [] ∧ K r0) := by
 refine CallsH.enter 19 [(0, .slice axs_0 xs.length cxs_0), (1, vxf)] Tryz.func55 rfl (by kernel_rfl) (by kernel_rfl) (by kernel_rfl) fun w0 => ?_
 refine Ok.seq (Ok.region (Ok.batch 1 [(0, .slice axs_0 xs.length cxs_0), (1, vxf)] (by kernel_rfl) (Ok.nil (Ok.thenN (Ok.seq (Ok.seq (Ok.region (Ok.bat 3 [0, 1] [(7, .int .i64 (xs.length : Int)), (8, .int .i64 0)] ?_))))))))
 refine Ok.nil (Ok.thenN (Ok.block ?_))
 obtain ⟨k, hF⟩ := hF
 refine Ok.loop (fun k a W => ∃ (x8l7 : Int), StA 19 [(0, .slice axs_0 xs.length cxs_0), (1, vxf), (7, .int .i64 (xs.length : Int)), (8, .int .i64 x8l7)] a ∧ StW w0 [] g W ∧ wixl7 xs xf pxf K k x8l7) k ?_ ?_
 ·
  exact fun a W hA hW => ⟨0, hA.sub (by kernel_rfl), hW, hF⟩
 ·
  clear hF
  rintro k7 a W ⟨x8l7, hA, hW, hF⟩
  cases k7 with
  | zero => exact (hF : False).elim
  | succ k7 =>
   refine (?_ : Ok _ _ _ _ _ _) a W hA hW
   clear hA hW
   refine Ok.seq (Ok.region (Ok.bat 1 [0, 1, 7, 8] [(9, .bool (decide (x8l7 < (xs.length : Int))))] ?_))
   refine Ok.nil (Ok.thenN (Ok.seq (Ok.cond (b := decide (x8l7 < (xs.length : Int))) rfl (fun hc1 => ?_) (fun hc1 => ?_))))
   ·replace hF := hF.1 hc1
    refine Ok.skip (Ok.thenN (Ok.seq (Ok.block (Ok.seq (Ok.region (Ok.bat 2 [0, 1, 7, 8] [(5, .int .i64 x8l7)] ?_))))))
    refine Ok.nil (Ok.thenN (Ok.seq (Ok.region (Ok.bat 3 [0, 1, 5, 7, 8] [(11, vxf), (12, .slice axs_0 xs.length cxs_0), (13, .int .i64 x8l7)] ?_))))
    obtain ⟨h03, h13, hF⟩ := hF
    have he3 := get_of (l := xs) (default : Bs × Bs × Int) h13
    generalize hg3 : (xs.getD (Int.toNat x8l7) default) = e3 at he3 hF ⊢
    refine Ok.op rfl (OpOk.indexRo (e := .pair (.str) (.pair (.str) (.int .i64))) (i := x8l7) (el := e3) rfl rfl Tryz.underlying22 (by kernel_rfl) hRxs_0 h03 he3 rfl fun q2 o2 cs2 _ hat2 hr2 => ?_)
    obtain ⟨_, _, rfl, rfl, ⟨_, _, rfl, rfl, rfl⟩⟩ := hr2
    replace hat2 : At g q2 o2 (vE e3) := hat2
    refine Ok.op rfl (OpOk.step (v := .agg ⟨vE e3⟩) (Yields.loadAggRo 0 3 ⟨vE e3⟩ hat2 (by kernel_rfl) Tryz.underlying36 rfl (by kernel_rfl) (by kernel_rfl) (by kernel_rfl)) rfl rfl ?_)
    obtain ⟨hq4, hF⟩ := hF
    refine Ok.op rfl (OpOk.apply (args := #[.agg ⟨vE e3⟩]) (v := .bool (xf e3)) rfl (by kernel_rfl) (by kernel_rfl) (hfxf e3 hq4) rfl (Ok.nil (Ok.thenN (Ok.cond (b := (xf e3)) rfl (fun hc5 => ?_) (fun hc5 => ?_)))))
    ·replace hF := hF.1 hc5
     refine Ok.seq (Ok.region (Ok.batch 2 [(4, .int .i64 x8l7)] (by kernel_rfl) (Ok.nil (Ok.thenN (Ok.ret (Ok.blockR (Ok.thenR (Ok.thenR (Ok.blockR (Ok.thenR ?_))))))))))
     exact Ok.resH (vs := [.int .i64 x8l7]) (.inl rfl) rfl (.cons (.tmp rfl) .nil) (Gext.refl w0 g) ⟨x8l7, rfl, rfl, hF⟩
    ·replace hF := hF.2 hc5
     refine Ok.skip (Ok.blockN (Ok.thenN (Ok.region (Ok.bat 2 [0, 1, 7] [(8, .int .i64 (w6 (x8l7 + 1)))] ?_))))
     refine Ok.nil (Ok.thenN ?_)
     subst hg3
     exact fun a W hA hW => ⟨k7, Nat.lt_succ_self _, w6 (x8l7 + 1), hA.sub (by kernel_rfl), hW, hF⟩
   ·replace hF := hF.2 hc1
    refine Ok.exit (Ok.thenE (Ok.thenE (Ok.blockHit (Ok.thenN (Ok.seq (Ok.region (Ok.batch 1 [(4, .int .i64 (-1))] (by kernel_rfl) (Ok.nil (Ok.thenN (Ok.ret ?_))))))))))
    exact Ok.resH (vs := [.int .i64 (-1)]) (.inl rfl) rfl (.cons (.tmp rfl) .nil) (Gext.refl w0 g) ⟨(-1), rfl, rfl, hF⟩
def idxN {α : Type} (f : α → Bool) : List α → Nat → Int
 | [], _ => -1
 | x :: l, i => if f x = true then (i : Int) else idxN f l (i + 1)
def wixS (l : List (JEn)) (f : (JEn) → Bool) : Int := idxN f l 0
def wixP (l : List (JEn)) (_ : (JEn) → Bool) (p : (JEn) → Prop) : Prop := l.length ≤ 1000000 ∧ ∀ y, p y
theorem idxN_any {α : Type} (f : α → Bool) : ∀ (l : List α) (i : Nat), decide (idxN f l i ≥ 0) = l.any f
 | [], _ => rfl
 | x :: l, i => by
  rw [idxN, List.any_cons, ← idxN_any f l (i + 1)]
  cases f x
  ·rfl
  ·rw [if_t rfl, decide_eq_true (by omega)]; rfl
theorem wix_F (l : List (JEn)) (f : (JEn) → Bool) (p : (JEn) → Prop) (hp : wixP l f p) : wixF l f p (fun r => r = wixS l f) := by
 obtain ⟨hl, hp⟩ := hp
 have loop : ∀ (k i : Nat), i + k = l.length → wixS l f = idxN f (l.drop i) i → wixl7 l f p (fun r => r = wixS l f) (k + 1) (i : Int) := by
  intro k
  induction k with
  | zero =>
   intro i h h2
   have hn : decide ((i : Int) < (l.length : Int)) = false := decide_eq_false (by omega)
   rw [List.drop_of_length_le (by omega)] at h2
   exact ⟨fun h => (Bool.false_ne_true (hn.symm.trans h)).elim, fun _ => h2.symm⟩
  | succ k ih =>
   intro i h h2
   have hn : decide ((i : Int) < (l.length : Int)) = true := decide_eq_true (by omega)
   rw [drop_get (l := l) default (by omega), idxN] at h2
   refine ⟨fun _ => ⟨by omega, by rw [Int.toNat_natCast]; omega, hp _, fun hc => ?_, fun hc => ?_⟩, fun h => (Bool.false_ne_true (h.symm.trans hn)).elim⟩
   ·rw [Int.toNat_natCast] at hc
    rw [h2, if_t hc]
   ·rw [Int.toNat_natCast] at hc
    rw [if_f hc] at h2
    rw [w64 (by omega)]
    exact ih (i + 1) (by omega) h2
 exact ⟨_, loop l.length 0 (by omega) rfl⟩
theorem wix_c {g : Ghost} {axs_0 : Option Addr} {cxs_0 : Nat} (xs : List (Bs × Bs × Int)) {vxf : Value} (xf : (Bs × Bs × Int) → Bool) (pxf : (Bs × Bs × Int) → Prop) (hRxs_0 : Rep g (.slice (.pair (.str) (.pair (.str) (.int .i64)))) [.slice axs_0 xs.length cxs_0] xs) (hfxf : ∀ (y0 : Bs × Bs × Int), pxf y0 → FnG Tryz.prog vxf #[.agg ⟨vE y0⟩] g (.bool (xf y0)))  (hp : wixP xs xf pxf) : CallsG Tryz.prog 55 #[.slice axs_0 xs.length cxs_0, vxf] g (.int .i64 (wixS xs xf)) :=
 (wix_ok xs xf pxf hRxs_0 hfxf _ (wix_F xs xf pxf hp)).gives (by rintro g' H' v _ ⟨r0, rfl, rfl, hK⟩; subst hK; rfl)
def wcfF (xs : List (Bs × Bs × Int)) (xf : (Bs × Bs × Int) → Bool) (pxf : (Bs × Bs × Int) → Prop) (K : Bool → Prop) : Prop :=
 wixP xs xf pxf ∧ K (decide ((wixS xs xf) ≥ 0))
theorem wcf_ok {g : Ghost} {axs_0 : Option Addr} {cxs_0 : Nat} (xs : List (Bs × Bs × Int)) {vxf : Value} (xf : (Bs × Bs × Int) → Bool) (pxf : (Bs × Bs × Int) → Prop) (hRxs_0 : Rep g (.slice (.pair (.str) (.pair (.str) (.int .i64)))) [.slice axs_0 xs.length cxs_0] xs) (hfxf : ∀ (y0 : Bs × Bs × Int), pxf y0 → FnG Tryz.prog vxf #[.agg ⟨vE y0⟩] g (.bool (xf y0))) (K : Bool → Prop)
  (hF : wcfF xs xf pxf K) : CallsH Tryz.prog 31 #[.slice axs_0 xs.length cxs_0, vxf] g [] (fun g' H' v => ∃ (r0 : Bool), v = .bool r0 ∧ H' = [] ∧ K r0) := by
 refine CallsH.enter 9 [(0, .slice axs_0 xs.length cxs_0), (1, vxf)] Tryz.func31 rfl (by kernel_rfl) (by kernel_rfl) (by kernel_rfl) fun w0 => ?_
 refine Ok.seq (Ok.region (Ok.batch 1 [(0, .slice axs_0 xs.length cxs_0), (1, vxf)] (by kernel_rfl) (Ok.nil (Ok.thenN (Ok.seq (Ok.region (Ok.batch 2 [(5, .slice axs_0 xs.length cxs_0), (6, vxf)] (by kernel_rfl) ?_)))))))
 obtain ⟨hp1, hF⟩ := hF
 refine Ok.op rfl (OpOk.callG (v := .int .i64 (wixS xs xf)) enr (fun W hW => wix_c xs xf pxf (hRxs_0.mono hW.sees) (fun y0 hq => (hfxf y0 hq).mono hW.sees) hp1) rfl ?_)
 refine Ok.batch 2 [(4, .bool (decide ((wixS xs xf) ≥ 0)))] (by kernel_rfl) (Ok.nil (Ok.thenN (Ok.ret ?_)))
 exact Ok.resH (vs := [.bool (decide ((wixS xs xf) ≥ 0))]) (.inl rfl) rfl (.cons (.tmp rfl) .nil) (Gext.refl w0 g) ⟨(decide ((wixS xs xf) ≥ 0)), rfl, rfl, hF⟩
def wcfS (l : List (JEn)) (f : (JEn) → Bool) : Bool := l.any f
theorem wcf_F (l : List (JEn)) (f : (JEn) → Bool) (p : (JEn) → Prop) (hp : wixP l f p) : wcfF l f p (fun r => r = wcfS l f) := by
 refine ⟨hp, ?_⟩
 exact idxN_any f l 0
theorem wcf_c {g : Ghost} {axs_0 : Option Addr} {cxs_0 : Nat} (xs : List (Bs × Bs × Int)) {vxf : Value} (xf : (Bs × Bs × Int) → Bool) (pxf : (Bs × Bs × Int) → Prop) (hRxs_0 : Rep g (.slice (.pair (.str) (.pair (.str) (.int .i64)))) [.slice axs_0 xs.length cxs_0] xs) (hfxf : ∀ (y0 : Bs × Bs × Int), pxf y0 → FnG Tryz.prog vxf #[.agg ⟨vE y0⟩] g (.bool (xf y0)))  (hp : wixP xs xf pxf) : CallsG Tryz.prog 31 #[.slice axs_0 xs.length cxs_0, vxf] g (.bool (wcfS xs xf)) :=
 (wcf_ok xs xf pxf hRxs_0 hfxf _ (wcf_F xs xf pxf hp)).gives (by rintro g' H' v _ ⟨r0, rfl, rfl, hK⟩; subst hK; rfl)
def wclF (xs : List (Bs × Bs × Int)) (K : (List (Bs × Bs × Int)) → Prop) : Prop :=
 xs ≠ [] ∧ (([] : List (Bs × Bs × Int)) ++ xs).length ≤ 3518437208883 ∧ K (([] : List (Bs × Bs × Int)) ++ xs)
theorem wcl_ok {g : Ghost} {axs_0 : Option Addr} {cxs_0 : Nat} (xs : List (Bs × Bs × Int)) (hRxs_0 : Rep g (.slice (.pair (.str) (.pair (.str) (.int .i64)))) [.slice axs_0 xs.length cxs_0] xs) (K : (List (Bs × Bs × Int)) → Prop)
  (hF : wclF xs K) : CallsH Tryz.prog 22 #[.slice axs_0 xs.length cxs_0] g [] (fun g' H' v => ∃ (r0 : List (Bs × Bs × Int)), ∃ (ar0 : Option Addr) (cr0 : Nat) (xsr0 : List Value), v = .slice ar0 r0.length cr0 ∧ RepL g' (.pair (.str) (.pair (.str) (.int .i64))) xsr0 r0 ∧ H' = [.own (.slice ar0 r0.length cr0) 36 3 r0.length xsr0] ∧ K r0) := by
 refine CallsH.enter 8 [(0, .slice axs_0 xs.length cxs_0)] Tryz.func22 rfl (by kernel_rfl) (by kernel_rfl) (by kernel_rfl) fun w0 => ?_
 refine Ok.seq (Ok.region (Ok.batch 1 [(0, .slice axs_0 xs.length cxs_0)] (by kernel_rfl) (Ok.nil (Ok.thenN (Ok.seq (Ok.seq (Ok.region (Ok.bat 1 [0] [(3, .slice axs_0 xs.length cxs_0)] ?_))))))))
 obtain ⟨hne1, hF⟩ := hF
 refine Ok.op rfl (OpOk.step (v := .bool false) (Yields.eqNilRo (e := .pair (.str) (.pair (.str) (.int .i64))) rfl rfl Tryz.underlying22 (by kernel_rfl) hRxs_0 hne1) rfl rfl (Ok.nil (Ok.thenN (Ok.cond (b := false) rfl (fun h => by cases h) (fun _ => ?_)))))
 refine Ok.skip (Ok.thenN (Ok.seq (Ok.region ?_)))
 have hL2 : RepL g (.pair (.str) (.pair (.str) (.int .i64))) ([] : List Value) ([] : List (Bs × Bs × Int)) := rfl
 refine Ok.op rfl (OpOk.lit (E := 36) (.pair (.str) (.pair (.str) (.int .i64))) ([] : List (Bs × Bs × Int)) ([] : List Value) (by kernel_rfl) (by kernel_rfl) rfl (by kernel_rfl) hL2 rfl fun b2 => ?_)
 refine Ok.batch 1 [(5, .slice (some ⟨b2, 0, none⟩) ([] : List (Bs × Bs × Int)).length 0), (6, .slice axs_0 xs.length cxs_0)] (by kernel_rfl) ?_
 obtain ⟨hb3, hF⟩ := hF
 refine Ok.op rfl (OpOk.appendRo (e := .pair (.str) (.pair (.str) (.int .i64))) 40 3518437208883 0 rfl rfl rfl hL2 hRxs_0 Tryz.underlying22 (by kernel_rfl) (by kernel_rfl) (by kernel_rfl) hb3 rfl fun a3 c3 xs3 hL3 => ?_)
 refine Ok.batch 1 [(2, .slice a3 (([] : List (Bs × Bs × Int)) ++ xs).length c3)] (by kernel_rfl) (Ok.nil (Ok.thenN (Ok.ret ?_)))
 exact Ok.resH (vs := [.slice a3 (([] : List (Bs × Bs × Int)) ++ xs).length c3]) (.inl rfl) rfl (.cons (.tmp rfl) .nil) (Gext.refl w0 g) ⟨(([] : List (Bs × Bs × Int)) ++ xs), a3, c3, xs3, rfl, hL3, rfl, hF⟩
def wclS (l : List (JEn)) : List (JEn) := l
def wclP (l : List (JEn)) : Prop := l ≠ [] ∧ l.length ≤ 1000000
theorem wcl_F (l : List (JEn)) (hp : wclP l) : wclF l (fun r => r = wclS l) := by
 obtain ⟨h1, h2⟩ := hp
 refine ⟨h1, ?_, ?_⟩
 ·rw [List.nil_append]; omega
 ·show [] ++ l = l
  rfl
theorem wcl_c {g : Ghost} {axs_0 : Option Addr} {cxs_0 : Nat} (xs : List (Bs × Bs × Int)) (hRxs_0 : Rep g (.slice (.pair (.str) (.pair (.str) (.int .i64)))) [.slice axs_0 xs.length cxs_0] xs)  (hp : wclP xs) : CallsH Tryz.prog 22 #[.slice axs_0 xs.length cxs_0] g [] (fun g' H' v => ∃ (ar0 : Option Addr) (cr0 : Nat) (xsr0 : List Value), v = .slice ar0 (wclS xs).length cr0 ∧ RepL g' (.pair (.str) (.pair (.str) (.int .i64))) xsr0 (wclS xs) ∧ H' = [.own (.slice ar0 (wclS xs).length cr0) 36 3 (wclS xs).length xsr0]) :=
 (wcl_ok xs hRxs_0 _ (wcl_F xs hp)).mono (by rintro g' H' v _ ⟨r0, ar0, cr0, xsr0, rfl, hLr0, rfl, hK⟩; subst hK; exact ⟨ar0, cr0, xsr0, rfl, hLr0, rfl⟩)
def weql15b (xs1 : List (Bs × Bs × Int)) (xs2 : List (Bs × Bs × Int)) (K : Bool → Prop) (x13l15 : Int) (C15 : Int → Prop) : Prop :=
 ((decide (x13l15 < (xs1.length : Int))) = true → (0 : Int) ≤ x13l15 ∧ Int.toNat x13l15 < xs1.length ∧ (0 : Int) ≤ x13l15 ∧ Int.toNat x13l15 < xs2.length ∧ ((!([((xs1.getD (Int.toNat x13l15) default).1 == (xs2.getD (Int.toNat x13l15) default).1), ((xs1.getD (Int.toNat x13l15) default).2.1 == (xs2.getD (Int.toNat x13l15) default).2.1), ((xs1.getD (Int.toNat x13l15) default).2.2 == (xs2.getD (Int.toNat x13l15) default).2.2)].all id)) = true → K false) ∧ ((!([((xs1.getD (Int.toNat x13l15) default).1 == (xs2.getD (Int.toNat x13l15) default).1), ((xs1.getD (Int.toNat x13l15) default).2.1 == (xs2.getD (Int.toNat x13l15) default).2.1), ((xs1.getD (Int.toNat x13l15) default).2.2 == (xs2.getD (Int.toNat x13l15) default).2.2)].all id)) = false → C15 (w6 (x13l15 + 1)))) ∧ ((decide (x13l15 < (xs1.length : Int))) = false → K true)
def weql15 (xs1 : List (Bs × Bs × Int)) (xs2 : List (Bs × Bs × Int)) (K : Bool → Prop) : Nat → Int → Prop
 | 0, _ => False
 | k + 1, x13l15 => weql15b xs1 xs2 K x13l15 (weql15 xs1 xs2 K k)
def weqF (xs1 : List (Bs × Bs × Int)) (xs2 : List (Bs × Bs × Int)) (K : Bool → Prop) : Prop :=
 ((((xs1.length : Int) != (xs2.length : Int))) = true → K false) ∧ ((((xs1.length : Int) != (xs2.length : Int))) = false → ∃ k, weql15 xs1 xs2 K k 0)
theorem weq_ok {g : Ghost} {axs1_0 : Option Addr} {cxs1_0 : Nat} (xs1 : List (Bs × Bs × Int)) {axs2_0 : Option Addr} {cxs2_0 : Nat} (xs2 : List (Bs × Bs × Int)) (hRxs1_0 : Rep g (.slice (.pair (.str) (.pair (.str) (.int .i64)))) [.slice axs1_0 xs1.length cxs1_0] xs1) (hRxs2_0 : Rep g (.slice (.pair (.str) (.pair (.str) (.int .i64)))) [.slice axs2_0 xs2.length cxs2_0] xs2) (K : Bool → Prop)
  (hF : weqF xs1 xs2 K) : CallsH Tryz.prog 37 #[.slice axs1_0 xs1.length cxs1_0, .slice axs2_0 xs2.length cxs2_0] g [] (fun g' H' v => ∃ (r0 : Bool), v = .bool r0 ∧ H' = [] ∧ K r0) := by
 refine CallsH.enter 26 [(0, .slice axs1_0 xs1.length cxs1_0), (1, .slice axs2_0 xs2.length cxs2_0)] Tryz.func37 rfl (by kernel_rfl) (by kernel_rfl) (by kernel_rfl) fun w0 => ?_
 refine Ok.seq (Ok.region (Ok.batch 1 [(0, .slice axs1_0 xs1.length cxs1_0), (1, .slice axs2_0 xs2.length cxs2_0)] (by kernel_rfl) (Ok.nil (Ok.thenN (Ok.seq (Ok.seq (Ok.region (Ok.bat 5 [0, 1] [(10, .bool ((xs1.length : Int) != (xs2.length : Int)))] ?_))))))))
 refine Ok.nil (Ok.thenN (Ok.cond (b := ((xs1.length : Int) != (xs2.length : Int))) rfl (fun hc1 => ?_) (fun hc1 => ?_)))
 ·replace hF := hF.1 hc1
  refine Ok.seq (Ok.region (Ok.batch 1 [(4, .bool false)] (by kernel_rfl) (Ok.nil (Ok.thenN (Ok.ret (Ok.thenR ?_))))))
  exact Ok.resH (vs := [.bool false]) (.inl rfl) rfl (.cons (.tmp rfl) .nil) (Gext.refl w0 g) ⟨false, rfl, rfl, hF⟩
 ·replace hF := hF.2 hc1
  refine Ok.skip (Ok.thenN (Ok.seq (Ok.seq (Ok.region (Ok.bat 3 [0, 1] [(12, .int .i64 (xs1.length : Int)), (13, .int .i64 0)] ?_)))))
  refine Ok.nil (Ok.thenN (Ok.block ?_))
  obtain ⟨k, hF⟩ := hF
  refine Ok.loop (fun k a W => ∃ (x13l15 : Int), StA 26 [(0, .slice axs1_0 xs1.length cxs1_0), (1, .slice axs2_0 xs2.length cxs2_0), (12, .int .i64 (xs1.length : Int)), (13, .int .i64 x13l15)] a ∧ StW w0 [] g W ∧ weql15 xs1 xs2 K k x13l15) k ?_ ?_
  ·
   exact fun a W hA hW => ⟨0, hA.sub (by kernel_rfl), hW, hF⟩
  ·
   clear hF
   rintro k15 a W ⟨x13l15, hA, hW, hF⟩
   cases k15 with
   | zero => exact (hF : False).elim
   | succ k15 =>
    refine (?_ : Ok _ _ _ _ _ _) a W hA hW
    clear hA hW
    refine Ok.seq (Ok.region (Ok.bat 1 [0, 1, 12, 13] [(14, .bool (decide (x13l15 < (xs1.length : Int))))] ?_))
    refine Ok.nil (Ok.thenN (Ok.seq (Ok.cond (b := decide (x13l15 < (xs1.length : Int))) rfl (fun hc2 => ?_) (fun hc2 => ?_))))
    ·replace hF := hF.1 hc2
     refine Ok.skip (Ok.thenN (Ok.seq (Ok.block (Ok.seq (Ok.region (Ok.bat 2 [0, 1, 12, 13] [(5, .int .i64 x13l15)] ?_))))))
     refine Ok.nil (Ok.thenN (Ok.seq (Ok.quiet' (by kernel_rfl) (by kernel_rfl) (OkQ.bat 2 [0, 1, 5, 12, 13] [(16, .slice axs1_0 xs1.length cxs1_0), (17, .int .i64 x13l15)] ?_))))
     obtain ⟨h04, h14, hF⟩ := hF
     have he4 := get_of (l := xs1) (default : Bs × Bs × Int) h14
     generalize hg4 : (xs1.getD (Int.toNat x13l15) default) = e4 at he4 hF ⊢
     refine OkQ.op rfl (OpQ.indexRo (e := .pair (.str) (.pair (.str) (.int .i64))) (i := x13l15) (el := e4) rfl rfl Tryz.underlying22 (by kernel_rfl) hRxs1_0 h04 he4 rfl fun q3 o3 cs3 _ hat3 hr3 => ?_)
     obtain ⟨_, _, rfl, rfl, ⟨_, _, rfl, rfl, rfl⟩⟩ := hr3
     replace hat3 : At g q3 o3 (vE e4) := hat3
     refine OkQ.op rfl (OpQ.step (v := .agg ⟨vE e4⟩) (Yields.loadAggRo 0 3 ⟨vE e4⟩ hat3 (by kernel_rfl) Tryz.underlying36 rfl (by kernel_rfl) (by kernel_rfl) (by kernel_rfl)) rfl rfl (OkQ.bat 2 [0, 1, 12, 13] [(19, .agg ⟨vE e4⟩), (20, .slice axs2_0 xs2.length cxs2_0), (21, .int .i64 x13l15)] ?_))
     obtain ⟨h06, h16, hF⟩ := hF
     have he6 := get_of (l := xs2) (default : Bs × Bs × Int) h16
     generalize hg6 : (xs2.getD (Int.toNat x13l15) default) = e6 at he6 hF ⊢
     refine OkQ.op rfl (OpQ.indexRo (e := .pair (.str) (.pair (.str) (.int .i64))) (i := x13l15) (el := e6) rfl rfl Tryz.underlying22 (by kernel_rfl) hRxs2_0 h06 he6 rfl fun q5 o5 cs5 _ hat5 hr5 => ?_)
     obtain ⟨_, _, rfl, rfl, ⟨_, _, rfl, rfl, rfl⟩⟩ := hr5
     replace hat5 : At g q5 o5 (vE e6) := hat5
     refine OkQ.op rfl (OpQ.step (v := .agg ⟨vE e6⟩) (Yields.loadAggRo 0 3 ⟨vE e6⟩ hat5 (by kernel_rfl) Tryz.underlying36 rfl (by kernel_rfl) (by kernel_rfl) (by kernel_rfl)) rfl rfl (OkQ.op rfl (OpQ.step (v := .bool (!([(e4.1 == e6.1), (e4.2.1 == e6.2.1), (e4.2.2 == e6.2.2)].all id))) (Yields.neAgg (k := 2) rfl rfl (.struct (k := 1) Tryz.underlying36 (by kernel_rfl) ⟨by decide, ⟨sv e4.1, sv e6.1, fun _ => by kernel_rfl, fun _ => by kernel_rfl, EqR.mono (k := 1) (.str Tryz.underlying9) (by decide)⟩, ⟨by decide, ⟨sv e4.2.1, sv e6.2.1, fun _ => by kernel_rfl, fun _ => by kernel_rfl, EqR.mono (k := 1) (.str Tryz.underlying9) (by decide)⟩, ⟨by decide, ⟨.int .i64 e4.2.2, .int .i64 e6.2.2, fun _ => by kernel_rfl, fun _ => by kernel_rfl, EqR.mono (k := 1) (.int Tryz.underlying3) (by decide)⟩, trivial⟩⟩⟩) rfl (by kernel_rfl)) rfl rfl ?_)))
     refine OkQ.nil (Ok.thenN (Ok.cond (b := !([(e4.1 == e6.1), (e4.2.1 == e6.2.1), (e4.2.2 == e6.2.2)].all id)) rfl (fun hc7 => ?_) (fun hc7 => ?_)))
     ·replace hF := hF.1 hc7
      refine Ok.seq (Ok.region (Ok.batch 1 [(4, .bool false)] (by kernel_rfl) (Ok.nil (Ok.thenN (Ok.ret (Ok.blockR (Ok.thenR (Ok.thenR (Ok.blockR (Ok.thenR ?_))))))))))
      exact Ok.resH (vs := [.bool false]) (.inl rfl) rfl (.cons (.tmp rfl) .nil) (Gext.refl w0 g) ⟨false, rfl, rfl, hF⟩
     ·replace hF := hF.2 hc7
      refine Ok.skip (Ok.blockN (Ok.thenN (Ok.region (Ok.bat 2 [0, 1, 12] [(13, .int .i64 (w6 (x13l15 + 1)))] ?_))))
      refine Ok.nil (Ok.thenN ?_)
      subst hg6
      subst hg4
      exact fun a W hA hW => ⟨k15, Nat.lt_succ_self _, w6 (x13l15 + 1), hA.sub (by kernel_rfl), hW, hF⟩
    ·replace hF := hF.2 hc2
     refine Ok.exit (Ok.thenE (Ok.thenE (Ok.blockHit (Ok.thenN (Ok.seq (Ok.region (Ok.batch 1 [(4, .bool true)] (by kernel_rfl) (Ok.nil (Ok.thenN (Ok.ret ?_))))))))))
     exact Ok.resH (vs := [.bool true]) (.inl rfl) rfl (.cons (.tmp rfl) .nil) (Gext.refl w0 g) ⟨true, rfl, rfl, hF⟩
def weqS (a b : List (JEn)) : Bool := a == b
def weqP (a b : List (JEn)) : Prop := a.length ≤ 140737488355328 ∧ b.length ≤ 140737488355328
theorem weq_F (p q : List (JEn)) (hp : weqP p q) : weqF p q (fun r => r = weqS p q) := by
 obtain ⟨hp1, hp2⟩ := hp
 unfold weqS
 refine ⟨fun h => ?_, fun h => ?_⟩
 ·have h : p.length ≠ q.length := by
   rw [bne_iff_ne] at h; omega
  have : (p == q) = false := by
   rw [beq_eq_false_iff_ne]
   intro h2; exact h (congrArg List.length h2)
  rw [this]
 ·have hlen : p.length = q.length := by
   have := h
   rw [bne_eq_false_iff_eq] at this; omega
  have loop : ∀ (k i : Nat), i + k = p.length → (p == q) = (p.drop i == q.drop i) → weql15 p q (fun r => r = (p == q)) (k + 1) (i : Int) := by
   intro k
   induction k with
   | zero =>
    intro i h1 he
    rw [List.drop_of_length_le (by omega), List.drop_of_length_le (by omega)] at he
    exact ⟨fun h => by have := of_decide_eq_true h; omega, fun _ => by rw [he]; rfl⟩
   | succ k ih =>
    intro i h1 he
    have hi : i < p.length := by omega
    rw [drop_get (l := p) default hi, drop_get (l := q) default (by omega)] at he
    refine ⟨fun _ => ?_, fun h => by have := of_decide_eq_false h; omega⟩
    rw [Int.toNat_natCast]
    have hd : ∀ x y : JEn, [x.1 == y.1, x.2.1 == y.2.1, x.2.2 == y.2.2].all id = (x == y) := fun x y => by
     show ((x.1 == y.1) && ((x.2.1 == y.2.1) && ((x.2.2 == y.2.2) && true))) = ((x.1 == y.1) && ((x.2.1 == y.2.1) && (x.2.2 == y.2.2)))
     rw [Bool.and_true]
    rw [hd]
    refine ⟨by omega, by omega, by omega, by omega, fun h => ?_, fun h => ?_⟩
    ·have h : (p.getD i default == q.getD i default) = false := by rw [Bool.not_eq_true'] at h; exact h
     rw [he, List.cons_beq_cons, h]; rfl
    ·have h : (p.getD i default == q.getD i default) = true := by rw [Bool.not_eq_false'] at h; exact h
     rw [w64 (by omega)]
     refine ih (i + 1) (by omega) ?_
     rw [he, List.cons_beq_cons, h]; rfl
  exact ⟨_, loop p.length 0 (by omega) rfl⟩
theorem weq_c {g : Ghost} {axs1_0 : Option Addr} {cxs1_0 : Nat} (xs1 : List (Bs × Bs × Int)) {axs2_0 : Option Addr} {cxs2_0 : Nat} (xs2 : List (Bs × Bs × Int)) (hRxs1_0 : Rep g (.slice (.pair (.str) (.pair (.str) (.int .i64)))) [.slice axs1_0 xs1.length cxs1_0] xs1) (hRxs2_0 : Rep g (.slice (.pair (.str) (.pair (.str) (.int .i64)))) [.slice axs2_0 xs2.length cxs2_0] xs2)  (hp : weqP xs1 xs2) : CallsG Tryz.prog 37 #[.slice axs1_0 xs1.length cxs1_0, .slice axs2_0 xs2.length cxs2_0] g (.bool (weqS xs1 xs2)) :=
 (weq_ok xs1 xs2 hRxs1_0 hRxs2_0 _ (weq_F xs1 xs2 hp)).gives (by rintro g' H' v _ ⟨r0, rfl, rfl, hK⟩; subst hK; rfl)
end
end Go.Proofs.YtdaagfgedkdmjaaGreatDoor.Ub
