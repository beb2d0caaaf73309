/- dim.Read, at texts whose tokens are reckoned. -/
import Derived.Test.YtogcmkphibegbaaGreatDoorCut
import Derived.Test.YtogcmkphibegbaaGreatDoorMor
import Derived.Test.YtogcmkphibegbaaGreatDoorUp
namespace Go.Proofs.YtogcmkphibegbaaGreatDoor.Tk
open Go Go.Eng Go.RowKit Go.Shelf Go.Proofs Bld Trm Css
set_option maxHeartbeats 4000000
set_option maxRecDepth 100000
set_option linter.unusedSimpArgs false
set_option linter.unusedVariables false
abbrev Tok := Int × Bs × Bs × Int
/-! tokens -/
def cutN : Nat → Bs → List Tok
 | 0, _ => []
 | k + 1, s => if s = [] then [] else firstM s :: cutN k (s.drop (firstM s).2.1.length)
def cutS (s : Bs) : List Tok := cutN s.length s
def cutOk : Nat → Bs → Bool
 | 0, s => s == []
 | k + 1, s => s == [] || decide (1 ≤ (firstM s).2.1.length) && decide ((firstM s).2.1.length ≤ s.length) && cutOk k (s.drop (firstM s).2.1.length)
def cutP (s : Bs) : Prop := s.length ≤ 400 ∧ cutOk s.length s = true
theorem cut_first {s : Bs} (h : s.length ≤ 400) (hne : s ≠ []) : firstP s := ⟨by unfold nameP; omega, hne, by omega⟩
theorem cut_loop (K : List Tok → Prop) : ∀ (k : Nat) (s : Bs) (out : List Tok), s.length ≤ k → s.length ≤ 400 → out.length + s.length ≤ 400 → cutOk k s = true → K (out ++ cutN k s) → cutl7 K (k + 1) s out := by
 intro k
 induction k with
 | zero =>
  intro s out h1 h2 h3 h4 hK
  obtain rfl : s = [] := List.eq_nil_of_length_eq_zero (by omega)
  refine ⟨(fun h => by cases h), fun _ => ?_⟩
  simpa [cutN] using hK
 | succ k ih =>
  intro s out h1 h2 h3 h4 hK
  by_cases hs : s = []
  ·subst hs
   refine ⟨(fun h => by cases h), fun _ => ?_⟩
   simpa [cutN] using hK
  ·have hf := cut_first h2 hs
   rw [cutOk, show (s == []) = false from by simpa using hs] at h4
   simp only [Bool.false_or, Bool.and_eq_true, decide_eq_true_eq] at h4
   obtain ⟨⟨r1, r2⟩, r3⟩ := h4
   refine ⟨fun _ => ⟨hf, by simp; omega, by omega, by omega, by omega, ?_⟩, fun h => absurd (by simpa using h) hs⟩
   rw [Int.toNat_natCast]
   refine ih _ _ (by rw [List.length_drop]; omega) (by rw [List.length_drop]; omega) (by rw [List.length_drop]; simp; omega) r3 ?_
   have e : cutN (k + 1) s = firstM s :: cutN k (s.drop (firstM s).2.1.length) := if_neg hs
   rw [e] at hK
   rw [List.append_assoc]
   exact hK
theorem cut_F (s : Bs) (hp : cutP s) : cutF s (fun r => r = cutS s) :=
 ⟨_, cut_loop _ s.length s [] (Nat.le_refl _) hp.1 (by have := hp.1; simpa using this) hp.2 (by simp [cutS])⟩
theorem cut_c {g : Ghost} (xs : Bs) (hG1 : SomeInt g 1)  (hp : cutP xs) : CallsH Tryz.prog 16 #[sv xs] g [] (fun g' H' v => ∃ (ar0_0 : Option Addr) (cr0_0 : Nat), v = .slice ar0_0 (cutS xs).length cr0_0 ∧ Rep g' (.slice (.pair (.int .i64) (.pair (.str) (.pair (.str) (.int .i64))))) [.slice ar0_0 (cutS xs).length cr0_0] (cutS xs) ∧ H' = []) :=
 (cut_ok xs hG1 _ (cut_F xs hp)).mono (by rintro g' H' v _ ⟨r0, ar0_0, cr0_0, rfl, hRr0_0, rfl, hK⟩; subst hK; exact ⟨ar0_0, cr0_0, rfl, hRr0_0, rfl⟩)
def inP (l : List Bs) (_ : Bs) : Prop := l.length ≤ 1000000
def sidxl7b (xs : List Bs) (xv : Bs) (K : Int → Prop) (x8l7 : Int) (C7 : Int → Prop) : Prop :=
 ((decide (x8l7 < (xs.length : Int))) = true → (0 : Int) ≤ x8l7 ∧ Int.toNat x8l7 < xs.length ∧ (((xv == (xs.getD (Int.toNat x8l7) default))) = true → K x8l7) ∧ (((xv == (xs.getD (Int.toNat x8l7) default))) = false → C7 (w6 (x8l7 + 1)))) ∧ ((decide (x8l7 < (xs.length : Int))) = false → K (-1))
def sidxl7 (xs : List Bs) (xv : Bs) (K : Int → Prop) : Nat → Int → Prop
 | 0, _ => False
 | k + 1, x8l7 => sidxl7b xs xv K x8l7 (sidxl7 xs xv K k)
def sidxF (xs : List Bs) (xv : Bs) (K : Int → Prop) : Prop :=
 ∃ k, sidxl7 xs xv K k 0
theorem sidx_ok {g : Ghost} {axs_0 : Option Addr} {cxs_0 : Nat} (xs : List Bs) (xv : Bs) (hRxs_0 : Rep g (.slice (.str)) [.slice axs_0 xs.length cxs_0] xs) (K : Int → Prop)
  (hF : sidxF xs xv K) : CallsH Tryz.prog 39 #[.slice axs_0 xs.length cxs_0, sv xv] g [] (fun g' H' v => ∃ (r0 : Int), v = .int .i64 r0 ∧ H' = [] ∧ K r0) := by
 refine CallsH.enter 19 [(0, .slice axs_0 xs.length cxs_0), (1, sv xv)] Tryz.func39 rfl (by kernel_rfl) (by kernel_rfl) (by kernel_rfl) fun w0 => ?_
 refine Ok.seq (Ok.region (Ok.batch 1 [(0, .slice axs_0 xs.length cxs_0), (1, sv xv)] (by kernel_rfl) (Ok.nil (Ok.thenN (Ok.seq (Ok.seq (Ok.region (Ok.bat 3 [0, 1] [(7, .int .i64 (xs.length : Int)), (8, .int .i64 0)] ?_))))))))
 refine Ok.nil (Ok.thenN (Ok.block ?_))
 obtain ⟨k, hF⟩ := hF
 refine Ok.loop (fun k a W => ∃ (x8l7 : Int), StA 19 [(0, .slice axs_0 xs.length cxs_0), (1, sv xv), (7, .int .i64 (xs.length : Int)), (8, .int .i64 x8l7)] a ∧ StW w0 [] g W ∧ sidxl7 xs xv K k x8l7) k ?_ ?_
 ·
  exact fun a W hA hW => ⟨0, hA.sub (by kernel_rfl), hW, hF⟩
 ·
  clear hF
  rintro k7 a W ⟨x8l7, hA, hW, hF⟩
  cases k7 with
  | zero => exact (hF : False).elim
  | succ k7 =>
   refine (?_ : Ok _ _ _ _ _ _) a W hA hW
   clear hA hW
   refine Ok.seq (Ok.region (Ok.bat 1 [0, 1, 7, 8] [(9, .bool (decide (x8l7 < (xs.length : Int))))] ?_))
   refine Ok.nil (Ok.thenN (Ok.seq (Ok.cond (b := decide (x8l7 < (xs.length : Int))) rfl (fun hc1 => ?_) (fun hc1 => ?_))))
   ·replace hF := hF.1 hc1
    refine Ok.skip (Ok.thenN (Ok.seq (Ok.block (Ok.seq (Ok.region (Ok.bat 2 [0, 1, 7, 8] [(5, .int .i64 x8l7)] ?_))))))
    refine Ok.nil (Ok.thenN (Ok.seq (Ok.region (Ok.bat 3 [0, 1, 5, 7, 8] [(11, sv xv), (12, .slice axs_0 xs.length cxs_0), (13, .int .i64 x8l7)] ?_))))
    obtain ⟨h03, h13, hF⟩ := hF
    have he3 := get_of (l := xs) (default : Bs) h13
    generalize hg3 : (xs.getD (Int.toNat x8l7) default) = e3 at he3 hF ⊢
    refine Ok.op rfl (OpOk.indexRo (e := .str) (i := x8l7) (el := e3) rfl rfl Tryz.underlying57 (by kernel_rfl) hRxs_0 h03 he3 rfl fun q2 o2 cs2 _ hat2 hr2 => ?_)
    obtain rfl := hr2
    replace hat2 : At g q2 o2 [sv e3] := hat2
    refine Ok.op rfl (OpOk.step (v := sv e3) (Yields.loadRo 0 hat2 (by kernel_rfl) Tryz.underlying9 rfl (by kernel_rfl)) rfl rfl (Ok.op rfl (OpOk.step (v := .bool (xv == e3)) (Yields.strCmp (f := .eql) (a := xv) (b := e3) (by kernel_rfl) (by kernel_rfl) rfl) rfl rfl (Ok.nil (Ok.thenN (Ok.cond (b := (xv == e3)) rfl (fun hc4 => ?_) (fun hc4 => ?_)))))))
    ·replace hF := hF.1 hc4
     refine Ok.seq (Ok.region (Ok.batch 2 [(4, .int .i64 x8l7)] (by kernel_rfl) (Ok.nil (Ok.thenN (Ok.ret (Ok.blockR (Ok.thenR (Ok.thenR (Ok.blockR (Ok.thenR ?_))))))))))
     exact Ok.resH (vs := [.int .i64 x8l7]) (.inl rfl) rfl (.cons (.tmp rfl) .nil) (Gext.refl w0 g) ⟨x8l7, rfl, rfl, hF⟩
    ·replace hF := hF.2 hc4
     refine Ok.skip (Ok.blockN (Ok.thenN (Ok.region (Ok.bat 2 [0, 1, 7] [(8, .int .i64 (w6 (x8l7 + 1)))] ?_))))
     refine Ok.nil (Ok.thenN ?_)
     subst hg3
     exact fun a W hA hW => ⟨k7, Nat.lt_succ_self _, w6 (x8l7 + 1), hA.sub (by kernel_rfl), hW, hF⟩
   ·replace hF := hF.2 hc1
    refine Ok.exit (Ok.thenE (Ok.thenE (Ok.blockHit (Ok.thenN (Ok.seq (Ok.region (Ok.batch 1 [(4, .int .i64 (-1))] (by kernel_rfl) (Ok.nil (Ok.thenN (Ok.ret ?_))))))))))
    exact Ok.resH (vs := [.int .i64 (-1)]) (.inl rfl) rfl (.cons (.tmp rfl) .nil) (Gext.refl w0 g) ⟨(-1), rfl, rfl, hF⟩
def sidxN (v : Bs) : List Bs → Nat → Int
 | [], _ => -1
 | x :: l, i => if (v == x) = true then (i : Int) else sidxN v l (i + 1)
def sidxS (l : List Bs) (s : Bs) : Int := sidxN s l 0
theorem sidx_F (l : List Bs) (s : Bs) (hp : inP l s) : sidxF l s (fun r => r = sidxS l s) := by
 unfold inP at hp
 have loop : ∀ (k i : Nat), i + k = l.length → sidxS l s = sidxN s (l.drop i) i → sidxl7 l s (fun r => r = sidxS l s) (k + 1) (i : Int) := by
  intro k
  induction k with
  | zero =>
   intro i h h2
   rw [List.drop_of_length_le (by omega)] at h2
   exact ⟨fun hc => by have := of_decide_eq_true hc; omega, fun _ => h2.symm⟩
  | succ k ih =>
   intro i h h2
   rw [drop_get (l := l) default (by omega), sidxN] at h2
   refine ⟨fun _ => ⟨by omega, by omega, fun hc => ?_, fun hc => ?_⟩, fun hc => by have := of_decide_eq_false hc; omega⟩
   ·rw [Int.toNat_natCast] at hc
    rw [h2, if_t hc]
   ·rw [Int.toNat_natCast] at hc
    rw [if_f hc] at h2
    rw [w64 (by omega)]
    exact ih (i + 1) (by omega) h2
 exact ⟨_, loop l.length 0 (by omega) rfl⟩
theorem sidx_c {g : Ghost} {axs_0 : Option Addr} {cxs_0 : Nat} (xs : List Bs) (xv : Bs) (hRxs_0 : Rep g (.slice (.str)) [.slice axs_0 xs.length cxs_0] xs)  (hp : inP xs xv) : CallsG Tryz.prog 39 #[.slice axs_0 xs.length cxs_0, sv xv] g (.int .i64 (sidxS xs xv)) :=
 (sidx_ok xs xv hRxs_0 _ (sidx_F xs xv hp)).gives (by rintro g' H' v _ ⟨r0, rfl, rfl, hK⟩; subst hK; rfl)
def sconF (xs : List Bs) (xv : Bs) (K : Bool → Prop) : Prop :=
 inP xs xv ∧ K (decide ((sidxS xs xv) ≥ 0))
theorem scon_ok {g : Ghost} {axs_0 : Option Addr} {cxs_0 : Nat} (xs : List Bs) (xv : Bs) (hRxs_0 : Rep g (.slice (.str)) [.slice axs_0 xs.length cxs_0] xs) (K : Bool → Prop)
  (hF : sconF xs xv K) : CallsH Tryz.prog 61 #[.slice axs_0 xs.length cxs_0, sv xv] g [] (fun g' H' v => ∃ (r0 : Bool), v = .bool r0 ∧ H' = [] ∧ K r0) := by
 refine CallsH.enter 9 [(0, .slice axs_0 xs.length cxs_0), (1, sv xv)] Tryz.func61 rfl (by kernel_rfl) (by kernel_rfl) (by kernel_rfl) fun w0 => ?_
 refine Ok.seq (Ok.region (Ok.batch 1 [(0, .slice axs_0 xs.length cxs_0), (1, sv xv)] (by kernel_rfl) (Ok.nil (Ok.thenN (Ok.seq (Ok.region (Ok.batch 2 [(5, .slice axs_0 xs.length cxs_0), (6, sv xv)] (by kernel_rfl) ?_)))))))
 obtain ⟨hp1, hF⟩ := hF
 refine Ok.op rfl (OpOk.callG (v := .int .i64 (sidxS xs xv)) enr (fun W hW => sidx_c xs xv (hRxs_0.mono hW.sees) hp1) rfl ?_)
 refine Ok.batch 2 [(4, .bool (decide ((sidxS xs xv) ≥ 0)))] (by kernel_rfl) (Ok.nil (Ok.thenN (Ok.ret ?_)))
 exact Ok.resH (vs := [.bool (decide ((sidxS xs xv) ≥ 0))]) (.inl rfl) rfl (.cons (.tmp rfl) .nil) (Gext.refl w0 g) ⟨(decide ((sidxS xs xv) ≥ 0)), rfl, rfl, hF⟩
def sconM (xs : List Bs) (xv : Bs) : Bool := (decide ((sidxS xs xv) ≥ 0))
theorem sconF_A (xs : List Bs) (xv : Bs) (hp : inP xs xv) (P : Bool → Prop) (h : P (sconM xs xv)) : sconF xs xv (fun k0 => P k0) := by
 unfold sconM at h
 unfold sconF
 refine ⟨?_, ?_⟩
 ·first | exact hp | omega | assumption | exact trivial | (have h0 := List.length_pos_iff.mpr (by assumption); omega) | (simp; omega) | (simp at *; omega)
 exact h
theorem scon_F (xs : List Bs) (xv : Bs) (hp : inP xs xv) : sconF xs xv (fun k0 => k0 = sconM xs xv) :=
 sconF_A xs xv hp (fun z => z = sconM xs xv) rfl
theorem scon_c {g : Ghost} {axs_0 : Option Addr} {cxs_0 : Nat} (xs : List Bs) (xv : Bs) (hRxs_0 : Rep g (.slice (.str)) [.slice axs_0 xs.length cxs_0] xs)  (hp : inP xs xv) : CallsG Tryz.prog 61 #[.slice axs_0 xs.length cxs_0, sv xv] g (.bool (sconM xs xv)) :=
 (scon_ok xs xv hRxs_0 _ (scon_F xs xv hp)).gives (by rintro g' H' v _ ⟨r0, rfl, rfl, hK⟩; subst hK; rfl)
def DUnits : List Bs := [[], [112, 120], [101, 109], [114, 101, 109], [118, 119], [118, 104], [37]]
theorem one_len {s : Bs} (h : ((((cutS s).length : Int) != 1)) = false) : Int.toNat 0 < (cutS s).length := by
 have : (cutS s).length = 1 := by
  simp at h
  omega
 rw [this]; decide
def dreadV0 (xs : Bs) : Bool :=
 ((((cutS xs).length : Int) != 1) || ((((cutS xs).getD (Int.toNat 0) default).1 != 7) || (!(sconM DUnits ((cutS xs).getD (Int.toNat 0) default).2.2.1))))
def dreadj6 (xs : Bs) (K : (Int × Bs) → Int → Prop) : Prop :=
 (((dreadV0 xs)) = true → K (0, ([] : Bs)) 4) ∧ (((dreadV0 xs)) = false → (0 : Int) ≤ 0 ∧ Int.toNat 0 < (cutS xs).length ∧ K (((cutS xs).getD (Int.toNat 0) default).2.2.2, ((cutS xs).getD (Int.toNat 0) default).2.2.1) 0)
def dreadF (xs : Bs) (K : (Int × Bs) → Int → Prop) : Prop :=
 cutP xs ∧ (((((cutS xs).length : Int) != 1)) = true → dreadj6 xs K) ∧ (((((cutS xs).length : Int) != 1)) = false → (0 : Int) ≤ 0 ∧ Int.toNat 0 < (cutS xs).length ∧ (((((cutS xs).getD (Int.toNat 0) default).1 != 7)) = true → dreadj6 xs K) ∧ (((((cutS xs).getD (Int.toNat 0) default).1 != 7)) = false → inP DUnits ((cutS xs).getD (Int.toNat 0) default).2.2.1 ∧ dreadj6 xs K))
theorem dread_ok {g : Ghost} (xs : Bs) (hG0 : Glob g 0 (.slice (.str)) DUnits) (hG1 : SomeInt g 1) (K : (Int × Bs) → Int → Prop)
  (hF : dreadF xs K) : CallsH Tryz.prog 34 #[sv xs] g [] (fun g' H' v => ∃ (r0 : Int × Bs), ∃ (r1 : Int), v = .tuple #[.agg #[.int .i64 r0.1, sv r0.2], .int .i64 r1] ∧ H' = [] ∧ K r0 r1) := by
 refine CallsH.enter 36 [(0, sv xs)] Tryz.func34 rfl (by kernel_rfl) (by kernel_rfl) (by kernel_rfl) fun w0 => ?_
 refine Ok.seq (Ok.region (Ok.op rfl (OpOk.alloc (z := .agg #[.int .i64 0, sv ([] : Bs)]) (cs := #[.int .i64 0, sv ([] : Bs)]) (by kernel_rfl) (by kernel_rfl) rfl fun bs2 => ?_)))
 refine Ok.batch 1 [(0, sv xs), (2, pv bs2 0)] (by kernel_rfl) (Ok.nil (Ok.thenN (Ok.seq (Ok.region (Ok.bat 1 [2] [(5, sv xs)] ?_)))))
 obtain ⟨hp2, hF⟩ := hF
 refine Ok.op rfl (OpOk.callH [] _ enr rfl (cut_c xs hG1 hp2) rfl fun g3 _ _ hx3 hV3 => ?_)
 obtain ⟨a3_0, c3_0, rfl, hR3_0, rfl⟩ := hV3
 replace hG0 := hG0.mono hx3.1
 replace hG1 := hG1.mono hx3.1
 refine Ok.bat 1 [2] [(4, .slice a3_0 (cutS xs).length c3_0)] ?_
 refine Ok.nil (Ok.thenN (Ok.seq (Ok.cut (fun a W => ∃ gj6 : Ghost, Gext w0 g3 gj6 ∧ StA 36 [(2, pv bs2 0), (4, .slice a3_0 (cutS xs).length c3_0), (25, .bool (dreadV0 xs))] a ∧ StW w0 [.blk bs2 (.cells #[.int .i64 0, sv ([] : Bs)] 23)] gj6 W ∧ dreadj6 xs K) ?_ ?_)))
 ·
  refine Ok.quiet' (by kernel_rfl) (by kernel_rfl) (OkQ.bat 4 [2, 4] [(10, .bool (((cutS xs).length : Int) != 1))] ?_)
  refine OkQ.boolAt 10 ((((cutS xs).length : Int) != 1)) rfl (fun hc8 => ?_) (fun hc8 => ?_)
  ·replace hF := hF.1 hc8
   refine OkQ.bat 15 [2, 4] [(25, .bool true)] ?_
   refine OkQ.nil (Ok.thenN (Ok.reval 25 rfl (show (.bool true : Value) = .bool (dreadV0 xs) from congrArg (Value.bool) (mor_t hc8)) ?_))
   exact fun a W hA hW => ⟨g3, (Gext.refl w0 g3), hA.sub (by kernel_rfl), hW, hF⟩
  ·replace hF := hF.2 hc8
   refine OkQ.bat 1 [2, 4] [(10, .bool false), (11, .slice a3_0 (cutS xs).length c3_0)] ?_
   obtain ⟨h010, h110, hF⟩ := hF
   have he10 := get_of (l := (cutS xs)) (default : Int × Bs × Bs × Int) h110
   generalize hg10 : ((cutS xs).getD (Int.toNat 0) default) = e10 at he10 hF ⊢
   refine OkQ.opYes (j := 3) (d := 10) (want := false) (b := false) rfl (by kernel_rfl) (by kernel_rfl) rfl (OpQ.indexRo (e := .pair (.int .i64) (.pair (.str) (.pair (.str) (.int .i64)))) (i := 0) (el := e10) rfl rfl Tryz.underlying50 (by kernel_rfl) hR3_0 h010 he10 rfl fun q9 o9 cs9 _ hat9 hr9 => ?_)
   obtain ⟨_, _, rfl, rfl, ⟨_, _, rfl, rfl, ⟨_, _, rfl, rfl, rfl⟩⟩⟩ := hr9
   replace hat9 : At g3 q9 o9 [.int .i64 e10.1, sv e10.2.1, sv e10.2.2.1, .int .i64 e10.2.2.2] := hat9
   refine OkQ.bat 1 [2, 4, 10] [(13, pv q9 o9)] ?_
   refine OkQ.opYes (j := 3) (d := 10) (want := false) (b := false) rfl (by kernel_rfl) (by kernel_rfl) rfl (OpQ.step (v := .int .i64 e10.1) (Yields.loadRo 0 hat9 (by kernel_rfl) Tryz.underlying3 rfl (by kernel_rfl)) rfl rfl (OkQ.bat 3 [2, 4] [(17, .bool (e10.1 != 7))] ?_))
   refine OkQ.boolAt 17 ((e10.1 != 7)) rfl (fun hc11 => ?_) (fun hc11 => ?_)
   ·replace hF := hF.1 hc11
    refine OkQ.bat 8 [2, 4] [(25, .bool true)] ?_
    refine OkQ.nil (Ok.thenN ?_)
    subst hg10
    refine Ok.reval 25 rfl (show (.bool true : Value) = .bool (dreadV0 xs) from congrArg (Value.bool) ((Eq.trans (mor_t hc11) (mor_f hc8)))) ?_
    exact fun a W hA hW => ⟨g3, (Gext.refl w0 g3), hA.sub (by kernel_rfl), hW, hF⟩
   ·replace hF := hF.2 hc11
    obtain ⟨_, hat12, a12, c12, rfl, hm12, hr12⟩ := id hG0
    have hR12 : Rep g3 (.slice (.str)) [.slice a12 DUnits.length c12] DUnits := ⟨a12, c12, rfl, hm12, hr12⟩
    refine OkQ.opYes (j := 10) (d := 17) (want := false) (b := false) rfl (by kernel_rfl) (by kernel_rfl) rfl (OpQ.step (v := .slice a12 DUnits.length c12) (Yields.loadRo 0 hat12 (by kernel_rfl) Tryz.underlying57 rfl (by kernel_rfl)) rfl rfl (OkQ.bat 1 [2, 4] [(17, .bool false), (18, .slice a12 DUnits.length c12), (19, .slice a3_0 (cutS xs).length c3_0)] ?_))
    refine OkQ.opYes (j := 10) (d := 17) (want := false) (b := false) rfl (by kernel_rfl) (by kernel_rfl) rfl (OpQ.indexRo (e := .pair (.int .i64) (.pair (.str) (.pair (.str) (.int .i64)))) (i := 0) (el := e10) rfl rfl Tryz.underlying50 (by kernel_rfl) hR3_0 h010 he10 rfl fun q13 o13 cs13 _ hat13 hr13 => ?_)
    obtain ⟨_, _, rfl, rfl, ⟨_, _, rfl, rfl, ⟨_, _, rfl, rfl, rfl⟩⟩⟩ := hr13
    replace hat13 : At g3 q13 o13 [.int .i64 e10.1, sv e10.2.1, sv e10.2.2.1, .int .i64 e10.2.2.2] := hat13
    refine OkQ.bat 1 [2, 4, 17, 18] [(21, .pointer (some ⟨q13, o13 + 2, none⟩))] ?_
    refine OkQ.opYes (j := 10) (d := 17) (want := false) (b := false) rfl (by kernel_rfl) (by kernel_rfl) rfl (OpQ.step (v := sv e10.2.2.1) (Yields.loadRo 2 hat13 (by kernel_rfl) Tryz.underlying9 rfl (by kernel_rfl)) rfl rfl ?_)
    obtain ⟨hp14, hF⟩ := hF
    refine OkQ.opYes (j := 10) (d := 17) (want := false) (b := false) rfl (by kernel_rfl) (by kernel_rfl) rfl (OpQ.callG (v := .bool (sconM DUnits e10.2.2.1)) enr (fun W hW => scon_c DUnits e10.2.2.1 (hR12.mono hW.sees) hp14) rfl ?_)
    refine OkQ.bat 2 [2, 4] [(25, .bool (!(sconM DUnits e10.2.2.1)))] ?_
    refine OkQ.nil (Ok.thenN ?_)
    subst hg10
    refine Ok.reval 25 rfl (show (.bool (!(sconM DUnits ((cutS xs).getD (Int.toNat 0) default).2.2.1)) : Value) = .bool (dreadV0 xs) from congrArg (Value.bool) ((Eq.trans (mor_f hc11) (mor_f hc8)))) ?_
    exact fun a W hA hW => ⟨g3, (Gext.refl w0 g3), hA.sub (by kernel_rfl), hW, hF⟩
 ·
  clear hF
  rintro a W ⟨gj6, hxj6, hA, hW, hF⟩
  refine (?_ : Ok _ _ _ _ _ _) a W hA hW
  clear hA hW
  replace hR3_0 := hR3_0.mono hxj6.1
  replace hG0 := hG0.mono hxj6.1
  replace hG1 := hG1.mono hxj6.1
  refine Ok.cond (b := (dreadV0 xs)) rfl (fun hc4 => ?_) (fun hc4 => ?_)
  ·replace hF := hF.1 hc4
   refine Ok.seq (Ok.region (Ok.bat 1 [2] [(26, .agg #[.int .i64 0, sv ([] : Bs)])] ?_))
   refine Ok.op rfl (OpOk.sto (k := 2) (v := .agg #[.int .i64 0, sv ([] : Bs)]) 0 #[.int .i64 0, sv ([] : Bs)] rfl rfl rfl ?_)
   refine Ok.bat 1 [2] [(3, .int .i64 4)] ?_
   refine Ok.nil (Ok.thenN (Ok.ret (Ok.thenR ?_)))
   exact Ok.resP (vs := [.agg #[.int .i64 0, sv ([] : Bs)], .int .i64 4]) [] [] (by decide) rfl (.inl rfl) rfl (.cons (.cellAgg 0 2 #[.int .i64 0, sv ([] : Bs)] rfl rfl Tryz.underlying23 rfl (by kernel_rfl) (by kernel_rfl) (by kernel_rfl)) (.cons (.tmp rfl) .nil)) (hx3.trans hxj6) ⟨(0, ([] : Bs)), 4, rfl, rfl, hF⟩
  ·replace hF := hF.2 hc4
   refine Ok.skip (Ok.thenN (Ok.seq (Ok.mix [] [] [] [(0, true), (1, true), (2, true), (3, true), (4, true), (5, true), (6, true), (7, true), (8, true), (9, false), (10, true)] (by kernel_rfl) (by kernel_rfl) (.cons _ .slnil) (OkM.bat 1 [2, 4] [(27, .slice a3_0 (cutS xs).length c3_0)] ?_))))
   obtain ⟨h06, h16, hF⟩ := hF
   have he6 := get_of (l := (cutS xs)) (default : Int × Bs × Bs × Int) h16
   generalize hg6 : ((cutS xs).getD (Int.toNat 0) default) = e6 at he6 hF ⊢
   refine OkM.head rfl rfl (show _ = [] from rfl) (OpQ.indexRo (e := .pair (.int .i64) (.pair (.str) (.pair (.str) (.int .i64)))) (i := 0) (el := e6) rfl rfl Tryz.underlying50 (by kernel_rfl) hR3_0 h06 he6 rfl fun q5 o5 cs5 _ hat5 hr5 => ?_)
   obtain ⟨_, _, rfl, rfl, ⟨_, _, rfl, rfl, ⟨_, _, rfl, rfl, rfl⟩⟩⟩ := hr5
   replace hat5 : At gj6 q5 o5 [.int .i64 e6.1, sv e6.2.1, sv e6.2.2.1, .int .i64 e6.2.2.2] := hat5
   refine OkM.bat 1 [2, 4] [(29, .pointer (some ⟨q5, o5 + 3, none⟩))] ?_
   refine OkM.head rfl rfl (show _ = [] from rfl) (OpQ.step (v := .int .i64 e6.2.2.2) (Yields.loadRo 3 hat5 (by kernel_rfl) Tryz.underlying3 rfl (by kernel_rfl)) rfl rfl (OkM.bat 1 [2] [(30, .int .i64 e6.2.2.2), (31, .slice a3_0 (cutS xs).length c3_0)] ?_))
   refine OkM.head rfl rfl (show _ = [] from rfl) (OpQ.indexRo (e := .pair (.int .i64) (.pair (.str) (.pair (.str) (.int .i64)))) (i := 0) (el := e6) rfl rfl Tryz.underlying50 (by kernel_rfl) hR3_0 h06 he6 rfl fun q7 o7 cs7 _ hat7 hr7 => ?_)
   obtain ⟨_, _, rfl, rfl, ⟨_, _, rfl, rfl, ⟨_, _, rfl, rfl, rfl⟩⟩⟩ := hr7
   replace hat7 : At gj6 q7 o7 [.int .i64 e6.1, sv e6.2.1, sv e6.2.2.1, .int .i64 e6.2.2.2] := hat7
   refine OkM.bat 1 [2, 30] [(33, .pointer (some ⟨q7, o7 + 2, none⟩))] ?_
   refine OkM.head rfl rfl (show _ = [] from rfl) (OpQ.step (v := sv e6.2.2.1) (Yields.loadRo 2 hat7 (by kernel_rfl) Tryz.underlying9 rfl (by kernel_rfl)) rfl rfl (OkM.bat 1 [2] [(35, .agg #[.int .i64 e6.2.2.2, sv e6.2.2.1])] ?_))
   refine OkM.tail rfl rfl (OpOk.sto (k := 2) (v := .agg #[.int .i64 e6.2.2.2, sv e6.2.2.1]) 0 #[.int .i64 e6.2.2.2, sv e6.2.2.1] rfl rfl rfl ?_)
   refine OkM.leaf (i := 9) (show _ = [] from rfl) (Gle.refl _) (.cons _ .slnil) (OkM.bat 1 [2] [(3, .int .i64 0)] ?_)
   refine OkM.nil (Ok.thenN (Ok.ret ?_))
   exact Ok.resP (vs := [.agg #[.int .i64 e6.2.2.2, sv e6.2.2.1], .int .i64 0]) [] [] (by decide) rfl (.inl rfl) rfl (.cons (.cellAgg 0 2 #[.int .i64 e6.2.2.2, sv e6.2.2.1] rfl rfl Tryz.underlying23 rfl (by kernel_rfl) (by kernel_rfl) (by kernel_rfl)) (.cons (.tmp rfl) .nil)) (hx3.trans hxj6) ⟨(e6.2.2.2, e6.2.2.1), 0, rfl, rfl, hF⟩
def dreadS (s : Bs) : (Int × Bs) × Int := if dreadV0 s = true then ((0, []), 4) else ((((cutS s).getD (Int.toNat 0) default).2.2.2, ((cutS s).getD (Int.toNat 0) default).2.2.1), 0)
theorem dread_F (s : Bs) (hp : cutP s) : dreadF s (fun a b => (a, b) = dreadS s) := by
 have key : dreadj6 s (fun a b => (a, b) = dreadS s) := by
  refine ⟨fun h => ?_, fun h => ⟨by omega, ?_, ?_⟩⟩
  ·unfold dreadS; rw [if_t h]
  ·unfold dreadV0 at h
   rw [Bool.or_eq_false_iff] at h
   exact one_len h.1
  ·unfold dreadS; rw [if_f h]
 refine ⟨hp, fun _ => key, fun h => ⟨by omega, one_len h, fun _ => key, fun _ => ?_⟩⟩
 first | exact key | exact ⟨by unfold inP; decide, key⟩
theorem dread_c {g : Ghost} (xs : Bs) (hG0 : Glob g 0 (.slice (.str)) DUnits) (hG1 : SomeInt g 1)  (hp : cutP xs) : CallsG Tryz.prog 34 #[sv xs] g (.tuple #[.agg #[.int .i64 (dreadS xs).1.1, sv ((dreadS xs).1.2)], .int .i64 (dreadS xs).2]) :=
 (dread_ok xs hG0 hG1 _ (dread_F xs hp)).gives (by rintro g' H' v _ ⟨r0, r1, rfl, rfl, hK⟩; obtain ⟨rfl, rfl⟩ : r0 = (dreadS xs).1 ∧ r1 = (dreadS xs).2 := ⟨congrArg (fun z => z.1) hK, congrArg (fun z => z.2) hK⟩; rfl)
end Go.Proofs.YtogcmkphibegbaaGreatDoor.Tk
